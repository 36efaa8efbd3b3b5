/- Contracts of the Go functions and their plain Lean functions, written by a program of this session out of the translation. -/
import Derived.Test.YtkhocaehhflpcaaPAx0
import Derived.Test.YtkhocaehhflpcaaPAx1
import Derived.Test.YtkhocaehhflpcaaPAx10
import Derived.Test.YtkhocaehhflpcaaPAx11
import Derived.Test.YtkhocaehhflpcaaPAx12
namespace Go.Proofs.Ytkhocaehhflpcaa.PA
open Go.RowKit Go.Proofs.YtkhocaehhflpcaaW.PrintWords Go.Proofs.YtkhocaehhflpcaaW.PrintLast Go.Proofs.YtkhocaehhflpcaaW.PrintMore
attribute [local go_sem] max2_int min2_int max_two min_two max_three min_three max_four min_four   -- for this text's walks alone
set_option linter.unusedVariables false
set_option linter.unusedSimpArgs false

attribute [local go_sem high] eqA24
/-! ### corebanklaw01_WideRoundTrips: function 5 -/
def corebanklaw01_WideRoundTrips.f (k : Nat) (a0_0 : Int) (a0_1 : Int) (a1 : ByteArray) : Option (Bool) := if (a1.size : Int) > 200 then ((corebanklaw01_live.f k).bind fun t335 => (some t335)) else ((wide_Text.f k a0_0 a0_1).bind fun t336 => ((wide_Parse.f k t336).bind fun bt337 => ((wide_Parse.f k a1).bind fun bt341 => (if (bt337.1 == a0_0 && (bt337.2.1 == a0_1)) = true then (if bt337.2.2 = 0 then (if bt341.2.2 = 0 then ((wide_Text.f k bt341.1 bt341.2.1).bind fun t345 => (if t345.toList = a1.toList then ((corebanklaw01_live.f k).bind fun t346 => (some t346)) else (none))) else ((corebanklaw01_live.f k).bind fun t347 => (some t347))) else (none)) else (none)))))
theorem corebanklaw01_WideRoundTrips.mono : ∀ a0 a1 a2 k, LeO (corebanklaw01_WideRoundTrips.f k a0 a1 a2) (corebanklaw01_WideRoundTrips.f (k + 1) a0 a1 a2) := by
  intro a0 a1 a2 k
  unfold corebanklaw01_WideRoundTrips.f
  repeat' first
      | (with_reducible exact corebanklaw01_live.mono _)
      | (with_reducible exact wide_Parse.mono _ _)
      | (with_reducible exact wide_Text.mono _ _ _)
      | (with_reducible exact LeO.refl _)
      | (with_reducible exact LeO.none _)
      | (with_reducible refine LeO.ite ?_ ?_)
      | (with_reducible refine LeO.bind ?_ (fun _ => ?_))
      | exact corebanklaw01_live.mono _
      | exact wide_Parse.mono _ _
      | exact wide_Text.mono _ _ _
      | exact LeO.none _
      | refine LeO.ite ?_ ?_
      | refine LeO.bind ?_ (fun _ => ?_)
set_option maxHeartbeats 8000000 in
set_option maxRecDepth 100000 in
theorem corebanklaw01_WideRoundTrips.calls (k : Nat) (a0_0 : Int) (a0_1 : Int) (a1 : ByteArray) (r : Bool) (w : World) (h : corebanklaw01_WideRoundTrips.f k a0_0 a0_1 a1 = some r) :
    Calls Try.prog 5 #[.agg #[.int .i64 a0_0, .int .u64 a0_1], .string a1] w fun e w' => e = .returned (.bool r) ∧ Below w.heap.size w w' := by
  have hu24 := Try.underlying24
  have HB := Aside0.mk (Below.refl w.heap.size w)
  have H : (if (a1.size : Int) > 200 then ((corebanklaw01_live.f k).bind fun t335 => (some t335)) else ((wide_Text.f k a0_0 a0_1).bind fun t336 => ((wide_Parse.f k t336).bind fun bt337 => ((wide_Parse.f k a1).bind fun bt341 => (if (bt337.1 == a0_0 && (bt337.2.1 == a0_1)) = true then (if bt337.2.2 = 0 then (if bt341.2.2 = 0 then ((wide_Text.f k bt341.1 bt341.2.1).bind fun t345 => (if t345.toList = a1.toList then ((corebanklaw01_live.f k).bind fun t346 => (some t346)) else (none))) else ((corebanklaw01_live.f k).bind fun t347 => (some t347))) else (none)) else (none)))))) = some r := h
  clear h
  by_cases c3 : (a1.size : Int) > 200
  · rw [if_pos c3] at H
    have c3b0 : decide (200 < (a1.size : Int)) = true := decide_eq_true c3
    have c3b1 : decide (200 < a1.size) = true := decide_eq_true (by omega)
    clear c3
    replace H := Option.bind_eq_some_iff.mp H
    obtain ⟨t335, A40, H⟩ := H
    replace H : (some t335) = some r := H
    have A4 := Aside0.mk A40
    clear A40
    obtain rfl := Option.some.inj H
    go_enter Try.func5, Try.ntmps5
    go_wp2_with (first | ((with_reducible refine gate_dst (N := 2) rfl ?_); refine box_event ?hg (N := 2) ?hd (cs := #[.int .i64 a0_0, .int .u64 a0_1]) (t := 24) ?hr ?_; (case hd => rfl); (case hg => rfl); (case hr => first | (go_simp; done) | (go_simp; rfl)); intro gb334 hg w5 hbox hb; have nn_ := bT hb hg; have BK334 := Aside0.mk (hbox); have GW334 := Aside0.mk nn_.2; have GE334 := GW334; replace HB := Aside0.mk nn_.1; clear nn_; clear hb hbox hg) | ((with_reducible refine gate_callee (f := 12) rfl ?_); refine goesL_ (some 12) rfl rfl Try.func12 (by kernel_rfl) rfl #[] rfl aG ?_; (with_reducible refine (corebanklaw01_live.calls k  t335 _ A4.out).mono ?_); rintro e w6 ⟨rfl, hb⟩; refine ⟨_, rfl, ?_⟩; replace BK334 := Aside0.mk (bK BK334 hb); replace HB := Aside0.mk (bS hb); (try clear hb); (try clear hb2); (try clear hk); (try clear hi)))
    go_ret
    exact ⟨by first | rfl | (simp [errW_none, errW_some] <;> rfl) | (simp [*, errW_none, errW_some] <;> rfl), bE⟩
  · rw [if_neg c3] at H
    have c3b0 : decide (200 < (a1.size : Int)) = false := decide_eq_false c3
    have c3b1 : decide (200 < a1.size) = false := decide_eq_false (by omega)
    clear c3
    replace H := Option.bind_eq_some_iff.mp H
    obtain ⟨t336, A70, H⟩ := H
    replace H : ((wide_Parse.f k t336).bind fun bt337 => ((wide_Parse.f k a1).bind fun bt341 => (if (bt337.1 == a0_0 && (bt337.2.1 == a0_1)) = true then (if bt337.2.2 = 0 then (if bt341.2.2 = 0 then ((wide_Text.f k bt341.1 bt341.2.1).bind fun t345 => (if t345.toList = a1.toList then ((corebanklaw01_live.f k).bind fun t346 => (some t346)) else (none))) else ((corebanklaw01_live.f k).bind fun t347 => (some t347))) else (none)) else (none)))) = some r := H
    have A7 := Aside0.mk A70
    clear A70
    replace H := Option.bind_eq_some_iff.mp H
    obtain ⟨⟨t337, t338, t339⟩, A80, H⟩ := H
    replace H : ((wide_Parse.f k a1).bind fun bt341 => (if (t337 == a0_0 && (t338 == a0_1)) = true then (if t339 = 0 then (if bt341.2.2 = 0 then ((wide_Text.f k bt341.1 bt341.2.1).bind fun t345 => (if t345.toList = a1.toList then ((corebanklaw01_live.f k).bind fun t346 => (some t346)) else (none))) else ((corebanklaw01_live.f k).bind fun t347 => (some t347))) else (none)) else (none))) = some r := H
    have A8 := Aside0.mk A80
    clear A80
    replace H := Option.bind_eq_some_iff.mp H
    obtain ⟨⟨t341, t342, t343⟩, A90, H⟩ := H
    replace H : (if (t337 == a0_0 && (t338 == a0_1)) = true then (if t339 = 0 then (if t343 = 0 then ((wide_Text.f k t341 t342).bind fun t345 => (if t345.toList = a1.toList then ((corebanklaw01_live.f k).bind fun t346 => (some t346)) else (none))) else ((corebanklaw01_live.f k).bind fun t347 => (some t347))) else (none)) else (none)) = some r := H
    have A9 := Aside0.mk A90
    clear A90
    by_cases c10 : (t337 == a0_0 && (t338 == a0_1)) = true
    · rw [if_pos c10] at H
      have c10b0 : (t337 == a0_0 && (t338 == a0_1)) = true := c10
      (try (have c10b1 : decide (t337 = a0_0 && (t338 == a0_1)) = true := by simpa using c10))
      (try (have c10b2 : (t337 == a0_0 && (t338 == a0_1)) = true := by simpa using c10))
      clear c10
      by_cases c11 : t339 = 0
      · rw [if_pos c11] at H
        have c11b0 : (t339 == 0) = true := beq_iff_eq.mpr c11
        have c11b1 : (t339 != 0) = false := bne_eq_false_iff_eq.mpr c11
        clear c11
        by_cases c12 : t343 = 0
        · rw [if_pos c12] at H
          have c12b0 : (t343 == 0) = true := beq_iff_eq.mpr c12
          have c12b1 : (t343 != 0) = false := bne_eq_false_iff_eq.mpr c12
          clear c12
          replace H := Option.bind_eq_some_iff.mp H
          obtain ⟨t345, A130, H⟩ := H
          replace H : (if t345.toList = a1.toList then ((corebanklaw01_live.f k).bind fun t346 => (some t346)) else (none)) = some r := H
          have A13 := Aside0.mk A130
          clear A130
          by_cases c14 : t345.toList = a1.toList
          · rw [if_pos c14] at H
            have c14b0 : (t345.toList == a1.toList) = true := beq_iff_eq.mpr c14
            have c14b1 : (t345.toList != a1.toList) = false := bne_eq_false_iff_eq.mpr c14
            clear c14
            replace H := Option.bind_eq_some_iff.mp H
            obtain ⟨t346, A150, H⟩ := H
            replace H : (some t346) = some r := H
            have A15 := Aside0.mk A150
            clear A150
            obtain rfl := Option.some.inj H
            go_enter Try.func5, Try.ntmps5
            go_wp2_with (first | ((with_reducible refine gate_dst (N := 2) rfl ?_); refine box_event ?hg (N := 2) ?hd (cs := #[.int .i64 a0_0, .int .u64 a0_1]) (t := 24) ?hr ?_; (case hd => rfl); (case hg => rfl); (case hr => first | (go_simp; done) | (go_simp; rfl)); intro gb334 hg w16 hbox hb; have nn_ := bT hb hg; have BK334 := Aside0.mk (hbox); have GW334 := Aside0.mk nn_.2; have GE334 := GW334; replace HB := Aside0.mk nn_.1; clear nn_; clear hb hbox hg; have hcz17_0 : w16.cell? ⟨gb334, 0, none⟩ = some (.int .i64 a0_0) := (blk_cell BK334.out 0).trans rfl; have hcz17_1 : w16.cell? ⟨gb334, 1, none⟩ = some (.int .u64 a0_1) := (blk_cell BK334.out 1).trans rfl; have hfz17_0 := blk_frozen BK334.out 0; have hfz17_1 := blk_frozen BK334.out 1) | ((with_reducible refine gate_callee (f := 15) rfl ?_); refine goesL_ (some 15) rfl rfl Try.func15 (by kernel_rfl) rfl #[.agg #[.int .i64 a0_0, .int .u64 a0_1]] rfl aG ?_; (with_reducible refine (wide_Text.calls k a0_0 a0_1 t336 _ A7.out).mono ?_); rintro e w18 ⟨rfl, hb⟩; refine ⟨_, rfl, ?_⟩; replace BK334 := Aside0.mk (bK BK334 hb); replace HB := Aside0.mk (bS hb); (try clear hb); (try clear hb2); (try clear hk); (try clear hi)) | ((with_reducible refine gate_callee (f := 13) rfl ?_); refine goesL_ (some 16) rfl rfl Try.func13 (by kernel_rfl) rfl #[.string t336] rfl aG ?_; (with_reducible refine (wide_Parse.calls k t336 t337 t338 t339 _ A8.out).mono ?_); rintro e w19 ⟨rfl, hb⟩; refine ⟨_, rfl, ?_⟩; replace BK334 := Aside0.mk (bK BK334 hb); replace HB := Aside0.mk (bS hb); (try clear hb); (try clear hb2); (try clear hk); (try clear hi)) | ((with_reducible refine gate_dst (N := 5) rfl ?_); refine box_event ?hg (N := 5) ?hd (cs := #[.int .i64 0, .int .u64 0]) (t := 24) ?hr ?_; (case hd => rfl); (case hg => rfl); (case hr => first | (go_simp; done) | (go_simp; rfl)); intro gb340 hg w20 hbox hb; have nn_ := bT hb hg; have bgb334_ := bN BK334 hb hg; have BK340 := Aside0.mk (hbox); have GW340 := Aside0.mk nn_.2; have GE340 := GW340; have NB334_340 := Aside0.mk bgb334_.2.1; have NB340_334 := Aside0.mk bgb334_.2.2; replace BK334 := Aside0.mk bgb334_.1; replace HB := Aside0.mk nn_.1; clear nn_ bgb334_; clear hb hbox hg; have hnb21 := NB340_334.out; have hnc21 := NB334_340.out; have hcz22_0 : w20.cell? ⟨gb340, 0, none⟩ = some (.int .i64 0) := (blk_cell BK340.out 0).trans rfl; have hcz22_1 : w20.cell? ⟨gb340, 1, none⟩ = some (.int .u64 0) := (blk_cell BK340.out 1).trans rfl; have hfz22_0 := blk_frozen BK340.out 0; have hfz22_1 := blk_frozen BK340.out 1) | ((with_reducible refine gate_callee (f := 13) rfl ?_); refine goesL_ (some 21) rfl rfl Try.func13 (by kernel_rfl) rfl #[.string a1] rfl aG ?_; (with_reducible refine (wide_Parse.calls k a1 t341 t342 t343 _ A9.out).mono ?_); rintro e w23 ⟨rfl, hb⟩; refine ⟨_, rfl, ?_⟩; replace BK334 := Aside0.mk (blk_below (g := gb334) (o := .cells #[.int .i64 a0_0, .int .u64 a0_1] 24 (0, 0)) (by (with_reducible repeat (first | refine blk_drewN ?_ _ | refine blk_drew ?_ | refine blk_alloc ?_ _)); refine blk_far ?_ NB334_340.out _; (with_reducible repeat (first | refine blk_drewN ?_ _ | refine blk_drew ?_ | refine blk_alloc ?_ _)); refine blk_far ?_ NB334_340.out _; (with_reducible repeat (first | refine blk_drewN ?_ _ | refine blk_drew ?_ | refine blk_alloc ?_ _)); exact BK334.out) hb); replace BK340 := Aside0.mk (blk_below (g := gb340) (o := .cells #[.int .i64 t337, .int .u64 t338] 24 (0, 0)) (by (with_reducible repeat (first | refine blk_drewN ?_ _ | refine blk_drew ?_ | refine blk_alloc ?_ _)); refine blk_put (cs := #[.int .i64 t337, .int .u64 0]) ?_ 1 _ rfl; (with_reducible repeat (first | refine blk_drewN ?_ _ | refine blk_drew ?_ | refine blk_alloc ?_ _)); refine blk_put (cs := #[.int .i64 0, .int .u64 0]) ?_ 0 _ rfl; (with_reducible repeat (first | refine blk_drewN ?_ _ | refine blk_drew ?_ | refine blk_alloc ?_ _)); exact BK340.out) hb); replace HB := Aside0.mk (bS hb); (try clear hb); (try clear hb2); (try clear hk); (try clear hi)) | ((with_reducible refine gate_dst (N := 7) rfl ?_); refine box_event ?hg (N := 7) ?hd (cs := #[.int .i64 0, .int .u64 0]) (t := 24) ?hr ?_; (case hd => rfl); (case hg => rfl); (case hr => first | (go_simp; done) | (go_simp; rfl)); intro gb344 hg w24 hbox hb; have nn_ := bT hb hg; have bgb334_ := bN BK334 hb hg; have bgb340_ := bN BK340 hb hg; have BK344 := Aside0.mk (hbox); have GW344 := Aside0.mk nn_.2; have GE344 := GW344; have NB334_344 := Aside0.mk bgb334_.2.1; have NB344_334 := Aside0.mk bgb334_.2.2; have NB340_344 := Aside0.mk bgb340_.2.1; have NB344_340 := Aside0.mk bgb340_.2.2; replace BK334 := Aside0.mk bgb334_.1; replace BK340 := Aside0.mk bgb340_.1; replace HB := Aside0.mk nn_.1; clear nn_ bgb334_ bgb340_; clear hb hbox hg; have hnb25 := NB344_334.out; have hnc25 := NB334_344.out; have hnb26 := NB344_340.out; have hnc26 := NB340_344.out; have hcz27_0 : w24.cell? ⟨gb344, 0, none⟩ = some (.int .i64 0) := (blk_cell BK344.out 0).trans rfl; have hcz27_1 : w24.cell? ⟨gb344, 1, none⟩ = some (.int .u64 0) := (blk_cell BK344.out 1).trans rfl; have hfz27_0 := blk_frozen BK344.out 0; have hfz27_1 := blk_frozen BK344.out 1; have hcz28_0 : w24.cell? ⟨gb340, 0, none⟩ = some (.int .i64 t337) := (blk_cell BK340.out 0).trans rfl; have hcz28_1 : w24.cell? ⟨gb340, 1, none⟩ = some (.int .u64 t338) := (blk_cell BK340.out 1).trans rfl; have hfz28_0 := blk_frozen BK340.out 0; have hfz28_1 := blk_frozen BK340.out 1; have hcz29_0 : w24.cell? ⟨gb334, 0, none⟩ = some (.int .i64 a0_0) := (blk_cell BK334.out 0).trans rfl; have hcz29_1 : w24.cell? ⟨gb334, 1, none⟩ = some (.int .u64 a0_1) := (blk_cell BK334.out 1).trans rfl; have hfz29_0 := blk_frozen BK334.out 0; have hfz29_1 := blk_frozen BK334.out 1) | (go_at_call 15; (with_reducible refine (wide_Text.calls k t341 t342 t345 _ A13.out).mono ?_); rintro e w30 ⟨rfl, hb⟩; replace BK334 := Aside0.mk (blk_below (g := gb334) (o := .cells #[.int .i64 a0_0, .int .u64 a0_1] 24 (0, 0)) (by (with_reducible repeat (first | refine blk_drewN ?_ _ | refine blk_drew ?_ | refine blk_alloc ?_ _)); refine blk_far ?_ NB334_344.out _; (with_reducible repeat (first | refine blk_drewN ?_ _ | refine blk_drew ?_ | refine blk_alloc ?_ _)); refine blk_far ?_ NB334_344.out _; (with_reducible repeat (first | refine blk_drewN ?_ _ | refine blk_drew ?_ | refine blk_alloc ?_ _)); exact BK334.out) hb); replace BK340 := Aside0.mk (blk_below (g := gb340) (o := .cells #[.int .i64 t337, .int .u64 t338] 24 (0, 0)) (by (with_reducible repeat (first | refine blk_drewN ?_ _ | refine blk_drew ?_ | refine blk_alloc ?_ _)); refine blk_far ?_ NB340_344.out _; (with_reducible repeat (first | refine blk_drewN ?_ _ | refine blk_drew ?_ | refine blk_alloc ?_ _)); refine blk_far ?_ NB340_344.out _; (with_reducible repeat (first | refine blk_drewN ?_ _ | refine blk_drew ?_ | refine blk_alloc ?_ _)); exact BK340.out) hb); replace BK344 := Aside0.mk (blk_below (g := gb344) (o := .cells #[.int .i64 t341, .int .u64 t342] 24 (0, 0)) (by (with_reducible repeat (first | refine blk_drewN ?_ _ | refine blk_drew ?_ | refine blk_alloc ?_ _)); refine blk_put (cs := #[.int .i64 t341, .int .u64 0]) ?_ 1 _ rfl; (with_reducible repeat (first | refine blk_drewN ?_ _ | refine blk_drew ?_ | refine blk_alloc ?_ _)); refine blk_put (cs := #[.int .i64 0, .int .u64 0]) ?_ 0 _ rfl; (with_reducible repeat (first | refine blk_drewN ?_ _ | refine blk_drew ?_ | refine blk_alloc ?_ _)); exact BK344.out) hb); replace HB := Aside0.mk (bS hb); (try clear hb); (try clear hb2); (try clear hk); (try clear hi)) | (go_at_call 12; (with_reducible refine (corebanklaw01_live.calls k  t346 _ A15.out).mono ?_); rintro e w31 ⟨rfl, hb⟩; replace BK334 := Aside0.mk (bK BK334 hb); replace BK340 := Aside0.mk (bK BK340 hb); replace BK344 := Aside0.mk (bK BK344 hb); replace HB := Aside0.mk (bS hb); (try clear hb); (try clear hb2); (try clear hk); (try clear hi)))
            go_ret
            exact ⟨by first | rfl | (simp [errW_none, errW_some] <;> rfl) | (simp [*, errW_none, errW_some] <;> rfl), bE⟩
          · rw [if_neg c14] at H
            exact absurd H (by simp)
        · rw [if_neg c12] at H
          have c12b0 : (t343 == 0) = false := beq_eq_false_iff_ne.mpr c12
          have c12b1 : (t343 != 0) = true := bne_iff_ne.mpr c12
          replace H := Option.bind_eq_some_iff.mp H
          obtain ⟨t347, A320, H⟩ := H
          replace H : (some t347) = some r := H
          have A32 := Aside0.mk A320
          clear A320
          obtain rfl := Option.some.inj H
          go_enter Try.func5, Try.ntmps5
          go_wp2_with (first | ((with_reducible refine gate_dst (N := 2) rfl ?_); refine box_event ?hg (N := 2) ?hd (cs := #[.int .i64 a0_0, .int .u64 a0_1]) (t := 24) ?hr ?_; (case hd => rfl); (case hg => rfl); (case hr => first | (go_simp; done) | (go_simp; rfl)); intro gb334 hg w33 hbox hb; have nn_ := bT hb hg; have BK334 := Aside0.mk (hbox); have GW334 := Aside0.mk nn_.2; have GE334 := GW334; replace HB := Aside0.mk nn_.1; clear nn_; clear hb hbox hg; have hcz34_0 : w33.cell? ⟨gb334, 0, none⟩ = some (.int .i64 a0_0) := (blk_cell BK334.out 0).trans rfl; have hcz34_1 : w33.cell? ⟨gb334, 1, none⟩ = some (.int .u64 a0_1) := (blk_cell BK334.out 1).trans rfl; have hfz34_0 := blk_frozen BK334.out 0; have hfz34_1 := blk_frozen BK334.out 1) | ((with_reducible refine gate_callee (f := 15) rfl ?_); refine goesL_ (some 15) rfl rfl Try.func15 (by kernel_rfl) rfl #[.agg #[.int .i64 a0_0, .int .u64 a0_1]] rfl aG ?_; (with_reducible refine (wide_Text.calls k a0_0 a0_1 t336 _ A7.out).mono ?_); rintro e w35 ⟨rfl, hb⟩; refine ⟨_, rfl, ?_⟩; replace BK334 := Aside0.mk (bK BK334 hb); replace HB := Aside0.mk (bS hb); (try clear hb); (try clear hb2); (try clear hk); (try clear hi)) | ((with_reducible refine gate_callee (f := 13) rfl ?_); refine goesL_ (some 16) rfl rfl Try.func13 (by kernel_rfl) rfl #[.string t336] rfl aG ?_; (with_reducible refine (wide_Parse.calls k t336 t337 t338 t339 _ A8.out).mono ?_); rintro e w36 ⟨rfl, hb⟩; refine ⟨_, rfl, ?_⟩; replace BK334 := Aside0.mk (bK BK334 hb); replace HB := Aside0.mk (bS hb); (try clear hb); (try clear hb2); (try clear hk); (try clear hi)) | ((with_reducible refine gate_dst (N := 5) rfl ?_); refine box_event ?hg (N := 5) ?hd (cs := #[.int .i64 0, .int .u64 0]) (t := 24) ?hr ?_; (case hd => rfl); (case hg => rfl); (case hr => first | (go_simp; done) | (go_simp; rfl)); intro gb340 hg w37 hbox hb; have nn_ := bT hb hg; have bgb334_ := bN BK334 hb hg; have BK340 := Aside0.mk (hbox); have GW340 := Aside0.mk nn_.2; have GE340 := GW340; have NB334_340 := Aside0.mk bgb334_.2.1; have NB340_334 := Aside0.mk bgb334_.2.2; replace BK334 := Aside0.mk bgb334_.1; replace HB := Aside0.mk nn_.1; clear nn_ bgb334_; clear hb hbox hg; have hnb38 := NB340_334.out; have hnc38 := NB334_340.out; have hcz39_0 : w37.cell? ⟨gb340, 0, none⟩ = some (.int .i64 0) := (blk_cell BK340.out 0).trans rfl; have hcz39_1 : w37.cell? ⟨gb340, 1, none⟩ = some (.int .u64 0) := (blk_cell BK340.out 1).trans rfl; have hfz39_0 := blk_frozen BK340.out 0; have hfz39_1 := blk_frozen BK340.out 1) | ((with_reducible refine gate_callee (f := 13) rfl ?_); refine goesL_ (some 21) rfl rfl Try.func13 (by kernel_rfl) rfl #[.string a1] rfl aG ?_; (with_reducible refine (wide_Parse.calls k a1 t341 t342 t343 _ A9.out).mono ?_); rintro e w40 ⟨rfl, hb⟩; refine ⟨_, rfl, ?_⟩; replace BK334 := Aside0.mk (blk_below (g := gb334) (o := .cells #[.int .i64 a0_0, .int .u64 a0_1] 24 (0, 0)) (by (with_reducible repeat (first | refine blk_drewN ?_ _ | refine blk_drew ?_ | refine blk_alloc ?_ _)); refine blk_far ?_ NB334_340.out _; (with_reducible repeat (first | refine blk_drewN ?_ _ | refine blk_drew ?_ | refine blk_alloc ?_ _)); refine blk_far ?_ NB334_340.out _; (with_reducible repeat (first | refine blk_drewN ?_ _ | refine blk_drew ?_ | refine blk_alloc ?_ _)); exact BK334.out) hb); replace BK340 := Aside0.mk (blk_below (g := gb340) (o := .cells #[.int .i64 t337, .int .u64 t338] 24 (0, 0)) (by (with_reducible repeat (first | refine blk_drewN ?_ _ | refine blk_drew ?_ | refine blk_alloc ?_ _)); refine blk_put (cs := #[.int .i64 t337, .int .u64 0]) ?_ 1 _ rfl; (with_reducible repeat (first | refine blk_drewN ?_ _ | refine blk_drew ?_ | refine blk_alloc ?_ _)); refine blk_put (cs := #[.int .i64 0, .int .u64 0]) ?_ 0 _ rfl; (with_reducible repeat (first | refine blk_drewN ?_ _ | refine blk_drew ?_ | refine blk_alloc ?_ _)); exact BK340.out) hb); replace HB := Aside0.mk (bS hb); (try clear hb); (try clear hb2); (try clear hk); (try clear hi)) | ((with_reducible refine gate_dst (N := 7) rfl ?_); refine box_event ?hg (N := 7) ?hd (cs := #[.int .i64 0, .int .u64 0]) (t := 24) ?hr ?_; (case hd => rfl); (case hg => rfl); (case hr => first | (go_simp; done) | (go_simp; rfl)); intro gb344 hg w41 hbox hb; have nn_ := bT hb hg; have bgb334_ := bN BK334 hb hg; have bgb340_ := bN BK340 hb hg; have BK344 := Aside0.mk (hbox); have GW344 := Aside0.mk nn_.2; have GE344 := GW344; have NB334_344 := Aside0.mk bgb334_.2.1; have NB344_334 := Aside0.mk bgb334_.2.2; have NB340_344 := Aside0.mk bgb340_.2.1; have NB344_340 := Aside0.mk bgb340_.2.2; replace BK334 := Aside0.mk bgb334_.1; replace BK340 := Aside0.mk bgb340_.1; replace HB := Aside0.mk nn_.1; clear nn_ bgb334_ bgb340_; clear hb hbox hg; have hnb42 := NB344_334.out; have hnc42 := NB334_344.out; have hnb43 := NB344_340.out; have hnc43 := NB340_344.out; have hcz44_0 : w41.cell? ⟨gb344, 0, none⟩ = some (.int .i64 0) := (blk_cell BK344.out 0).trans rfl; have hcz44_1 : w41.cell? ⟨gb344, 1, none⟩ = some (.int .u64 0) := (blk_cell BK344.out 1).trans rfl; have hfz44_0 := blk_frozen BK344.out 0; have hfz44_1 := blk_frozen BK344.out 1; have hcz45_0 : w41.cell? ⟨gb340, 0, none⟩ = some (.int .i64 t337) := (blk_cell BK340.out 0).trans rfl; have hcz45_1 : w41.cell? ⟨gb340, 1, none⟩ = some (.int .u64 t338) := (blk_cell BK340.out 1).trans rfl; have hfz45_0 := blk_frozen BK340.out 0; have hfz45_1 := blk_frozen BK340.out 1; have hcz46_0 : w41.cell? ⟨gb334, 0, none⟩ = some (.int .i64 a0_0) := (blk_cell BK334.out 0).trans rfl; have hcz46_1 : w41.cell? ⟨gb334, 1, none⟩ = some (.int .u64 a0_1) := (blk_cell BK334.out 1).trans rfl; have hfz46_0 := blk_frozen BK334.out 0; have hfz46_1 := blk_frozen BK334.out 1) | (go_at_call 12; (with_reducible refine (corebanklaw01_live.calls k  t347 _ A32.out).mono ?_); rintro e w47 ⟨rfl, hb⟩; replace BK334 := Aside0.mk (blk_below (g := gb334) (o := .cells #[.int .i64 a0_0, .int .u64 a0_1] 24 (0, 0)) (by (with_reducible repeat (first | refine blk_drewN ?_ _ | refine blk_drew ?_ | refine blk_alloc ?_ _)); refine blk_far ?_ NB334_344.out _; (with_reducible repeat (first | refine blk_drewN ?_ _ | refine blk_drew ?_ | refine blk_alloc ?_ _)); refine blk_far ?_ NB334_344.out _; (with_reducible repeat (first | refine blk_drewN ?_ _ | refine blk_drew ?_ | refine blk_alloc ?_ _)); exact BK334.out) hb); replace BK340 := Aside0.mk (blk_below (g := gb340) (o := .cells #[.int .i64 t337, .int .u64 t338] 24 (0, 0)) (by (with_reducible repeat (first | refine blk_drewN ?_ _ | refine blk_drew ?_ | refine blk_alloc ?_ _)); refine blk_far ?_ NB340_344.out _; (with_reducible repeat (first | refine blk_drewN ?_ _ | refine blk_drew ?_ | refine blk_alloc ?_ _)); refine blk_far ?_ NB340_344.out _; (with_reducible repeat (first | refine blk_drewN ?_ _ | refine blk_drew ?_ | refine blk_alloc ?_ _)); exact BK340.out) hb); replace BK344 := Aside0.mk (blk_below (g := gb344) (o := .cells #[.int .i64 t341, .int .u64 t342] 24 (0, 0)) (by (with_reducible repeat (first | refine blk_drewN ?_ _ | refine blk_drew ?_ | refine blk_alloc ?_ _)); refine blk_put (cs := #[.int .i64 t341, .int .u64 0]) ?_ 1 _ rfl; (with_reducible repeat (first | refine blk_drewN ?_ _ | refine blk_drew ?_ | refine blk_alloc ?_ _)); refine blk_put (cs := #[.int .i64 0, .int .u64 0]) ?_ 0 _ rfl; (with_reducible repeat (first | refine blk_drewN ?_ _ | refine blk_drew ?_ | refine blk_alloc ?_ _)); exact BK344.out) hb); replace HB := Aside0.mk (bS hb); (try clear hb); (try clear hb2); (try clear hk); (try clear hi)))
          go_ret
          exact ⟨by first | rfl | (simp [errW_none, errW_some] <;> rfl) | (simp [*, errW_none, errW_some] <;> rfl), bE⟩
      · rw [if_neg c11] at H
        exact absurd H (by simp)
    · rw [if_neg c10] at H
      exact absurd H (by simp)

/-- THE ONE PURE STATEMENT of corebanklaw01_WideRoundTrips. -/
def corebanklaw01_WideRoundTrips.Pure : Prop := ∀ (a0_0 : Int) (a0_1 : Int) (a1 : ByteArray), (Lit.int .i64 a0_0).wf = true → (Lit.int .u64 a0_1).wf = true → a1.size ≤ 140737488351232 → ∃ k, corebanklaw01_WideRoundTrips.f k a0_0 a0_1 a1 = some true
theorem corebanklaw01_WideRoundTrips.walk (P : corebanklaw01_WideRoundTrips.Pure) (a0_0 : Int) (a0_1 : Int) (a1 : ByteArray) (w : World) (w0_0 : (Lit.int .i64 a0_0).wf = true) (w0_1 : (Lit.int .u64 a0_1).wf = true) (w1 : a1.size ≤ 140737488351232) :
    Calls Try.prog 5 #[.agg #[.int .i64 a0_0, .int .u64 a0_1], .string a1] w fun e w' => e = .returned (.bool true) ∧ Below w.heap.size w w' := by
  obtain ⟨k, h⟩ := P a0_0 a0_1 a1 w0_0 w0_1 w1
  refine (corebanklaw01_WideRoundTrips.calls k a0_0 a0_1 a1 true w h).mono ?_
  rintro e w' ⟨rfl, hd⟩
  exact ⟨rfl, hd⟩

end Go.Proofs.Ytkhocaehhflpcaa.PA
