/- Contracts of the Go functions and their plain Lean functions, written by a program of this session out of the translation. -/
import Derived.Test.YtkhocaehhflpcaaPAx0
import Derived.Test.YtkhocaehhflpcaaPAx1
import Derived.Test.YtkhocaehhflpcaaPAx6
import Derived.Test.YtkhocaehhflpcaaPAx9
import Derived.Test.YtkhocaehhflpcaaPAx12
namespace Go.Proofs.Ytkhocaehhflpcaa.PA
open Go.RowKit Go.Proofs.YtkhocaehhflpcaaW.PrintWords Go.Proofs.YtkhocaehhflpcaaW.PrintLast Go.Proofs.YtkhocaehhflpcaaW.PrintMore
attribute [local go_sem] max2_int min2_int max_two min_two max_three min_three max_four min_four   -- for this text's walks alone
set_option linter.unusedVariables false
set_option linter.unusedSimpArgs false

attribute [local go_sem high] eqA24
/-! ### corebanklaw01_WideQuotients: function 3 -/
def corebanklaw01_WideQuotients.f (k : Nat) (a0_0 : Int) (a0_1 : Int) (a1 : Int) : Option (Bool) := (wide_Div.f k a0_0 a0_1 a1).bind fun bt262 => ((corebankref01_Div.f k a0_0 a0_1 a1).bind fun bt267 => (if (bt262.1 == bt267.1 && (bt262.2.1 == bt267.2.1)) = true then (if bt262.2.2.1 = bt267.2.2.1 then (if bt262.2.2.2 = bt267.2.2.2 then ((corebanklaw01_live.f k).bind fun t272 => (some t272)) else (none)) else (none)) else (none)))
theorem corebanklaw01_WideQuotients.mono : ∀ a0 a1 a2 k, LeO (corebanklaw01_WideQuotients.f k a0 a1 a2) (corebanklaw01_WideQuotients.f (k + 1) a0 a1 a2) := by
  intro a0 a1 a2 k
  unfold corebanklaw01_WideQuotients.f
  repeat' first
      | (with_reducible exact corebanklaw01_live.mono _)
      | (with_reducible exact corebankref01_Div.mono _ _ _ _)
      | (with_reducible exact wide_Div.mono _ _ _ _)
      | (with_reducible exact LeO.refl _)
      | (with_reducible exact LeO.none _)
      | (with_reducible refine LeO.ite ?_ ?_)
      | (with_reducible refine LeO.bind ?_ (fun _ => ?_))
      | exact corebanklaw01_live.mono _
      | exact corebankref01_Div.mono _ _ _ _
      | exact wide_Div.mono _ _ _ _
      | exact LeO.none _
      | refine LeO.ite ?_ ?_
      | refine LeO.bind ?_ (fun _ => ?_)
set_option maxHeartbeats 8000000 in
set_option maxRecDepth 100000 in
theorem corebanklaw01_WideQuotients.calls (k : Nat) (a0_0 : Int) (a0_1 : Int) (a1 : Int) (r : Bool) (w : World) (h : corebanklaw01_WideQuotients.f k a0_0 a0_1 a1 = some r) :
    Calls Try.prog 3 #[.agg #[.int .i64 a0_0, .int .u64 a0_1], .int .i64 a1] w fun e w' => e = .returned (.bool r) ∧ Below w.heap.size w w' := by
  have hu24 := Try.underlying24
  have HB := Aside0.mk (Below.refl w.heap.size w)
  have H : ((wide_Div.f k a0_0 a0_1 a1).bind fun bt262 => ((corebankref01_Div.f k a0_0 a0_1 a1).bind fun bt267 => (if (bt262.1 == bt267.1 && (bt262.2.1 == bt267.2.1)) = true then (if bt262.2.2.1 = bt267.2.2.1 then (if bt262.2.2.2 = bt267.2.2.2 then ((corebanklaw01_live.f k).bind fun t272 => (some t272)) else (none)) else (none)) else (none)))) = some r := h
  clear h
  replace H := Option.bind_eq_some_iff.mp H
  obtain ⟨⟨t262, t263, t264, t265⟩, A30, H⟩ := H
  replace H : ((corebankref01_Div.f k a0_0 a0_1 a1).bind fun bt267 => (if (t262 == bt267.1 && (t263 == bt267.2.1)) = true then (if t264 = bt267.2.2.1 then (if t265 = bt267.2.2.2 then ((corebanklaw01_live.f k).bind fun t272 => (some t272)) else (none)) else (none)) else (none))) = some r := H
  have A3 := Aside0.mk A30
  clear A30
  replace H := Option.bind_eq_some_iff.mp H
  obtain ⟨⟨t267, t268, t269, t270⟩, A40, H⟩ := H
  replace H : (if (t262 == t267 && (t263 == t268)) = true then (if t264 = t269 then (if t265 = t270 then ((corebanklaw01_live.f k).bind fun t272 => (some t272)) else (none)) else (none)) else (none)) = some r := H
  have A4 := Aside0.mk A40
  clear A40
  by_cases c5 : (t262 == t267 && (t263 == t268)) = true
  · rw [if_pos c5] at H
    have c5b0 : (t262 == t267 && (t263 == t268)) = true := c5
    (try (have c5b1 : decide (t262 = t267 && (t263 == t268)) = true := by simpa using c5))
    (try (have c5b2 : (t262 == t267 && (t263 == t268)) = true := by simpa using c5))
    clear c5
    by_cases c6 : t264 = t269
    · rw [if_pos c6] at H
      have c6b0 : (t264 == t269) = true := beq_iff_eq.mpr c6
      have c6b1 : (t264 != t269) = false := bne_eq_false_iff_eq.mpr c6
      clear c6
      by_cases c7 : t265 = t270
      · rw [if_pos c7] at H
        have c7b0 : (t265 == t270) = true := beq_iff_eq.mpr c7
        have c7b1 : (t265 != t270) = false := bne_eq_false_iff_eq.mpr c7
        clear c7
        replace H := Option.bind_eq_some_iff.mp H
        obtain ⟨t272, A80, H⟩ := H
        replace H : (some t272) = some r := H
        have A8 := Aside0.mk A80
        clear A80
        obtain rfl := Option.some.inj H
        go_enter Try.func3, Try.ntmps3
        go_wp2_with (first | ((with_reducible refine gate_dst (N := 2) rfl ?_); refine box_event ?hg (N := 2) ?hd (cs := #[.int .i64 a0_0, .int .u64 a0_1]) (t := 24) ?hr ?_; (case hd => rfl); (case hg => rfl); (case hr => first | (go_simp; done) | (go_simp; rfl)); intro gb261 hg w9 hbox hb; have nn_ := bT hb hg; have BK261 := Aside0.mk (hbox); have GW261 := Aside0.mk nn_.2; have GE261 := GW261; replace HB := Aside0.mk nn_.1; clear nn_; clear hb hbox hg; have hcz10_0 : w9.cell? ⟨gb261, 0, none⟩ = some (.int .i64 a0_0) := (blk_cell BK261.out 0).trans rfl; have hcz10_1 : w9.cell? ⟨gb261, 1, none⟩ = some (.int .u64 a0_1) := (blk_cell BK261.out 1).trans rfl; have hfz10_0 := blk_frozen BK261.out 0; have hfz10_1 := blk_frozen BK261.out 1) | ((with_reducible refine gate_callee (f := 10) rfl ?_); refine goesL_ (some 14) rfl rfl Try.func10 (by kernel_rfl) rfl #[.agg #[.int .i64 a0_0, .int .u64 a0_1], .int .i64 a1] rfl aG ?_; (with_reducible refine (wide_Div.calls k a0_0 a0_1 a1 t262 t263 t264 t265 _ A3.out).mono ?_); rintro e w11 ⟨rfl, hb⟩; refine ⟨_, rfl, ?_⟩; replace BK261 := Aside0.mk (bK BK261 hb); replace HB := Aside0.mk (bS hb); (try clear hb); (try clear hb2); (try clear hk); (try clear hi)) | ((with_reducible refine gate_dst (N := 5) rfl ?_); refine box_event ?hg (N := 5) ?hd (cs := #[.int .i64 0, .int .u64 0]) (t := 24) ?hr ?_; (case hd => rfl); (case hg => rfl); (case hr => first | (go_simp; done) | (go_simp; rfl)); intro gb266 hg w12 hbox hb; have nn_ := bT hb hg; have bgb261_ := bN BK261 hb hg; have BK266 := Aside0.mk (hbox); have GW266 := Aside0.mk nn_.2; have GE266 := GW266; have NB261_266 := Aside0.mk bgb261_.2.1; have NB266_261 := Aside0.mk bgb261_.2.2; replace BK261 := Aside0.mk bgb261_.1; replace HB := Aside0.mk nn_.1; clear nn_ bgb261_; clear hb hbox hg; have hnb13 := NB266_261.out; have hnc13 := NB261_266.out; have hcz14_0 : w12.cell? ⟨gb266, 0, none⟩ = some (.int .i64 0) := (blk_cell BK266.out 0).trans rfl; have hcz14_1 : w12.cell? ⟨gb266, 1, none⟩ = some (.int .u64 0) := (blk_cell BK266.out 1).trans rfl; have hfz14_0 := blk_frozen BK266.out 0; have hfz14_1 := blk_frozen BK266.out 1; have hcz15_0 : w12.cell? ⟨gb261, 0, none⟩ = some (.int .i64 a0_0) := (blk_cell BK261.out 0).trans rfl; have hcz15_1 : w12.cell? ⟨gb261, 1, none⟩ = some (.int .u64 a0_1) := (blk_cell BK261.out 1).trans rfl; have hfz15_0 := blk_frozen BK261.out 0; have hfz15_1 := blk_frozen BK261.out 1) | ((with_reducible refine gate_callee (f := 11) rfl ?_); refine goesL_ (some 21) rfl rfl Try.func11 (by kernel_rfl) rfl #[.agg #[.int .i64 a0_0, .int .u64 a0_1], .int .i64 a1] rfl aG ?_; (with_reducible refine (corebankref01_Div.calls k a0_0 a0_1 a1 t267 t268 t269 t270 _ A4.out).mono ?_); rintro e w16 ⟨rfl, hb⟩; refine ⟨_, rfl, ?_⟩; replace BK261 := Aside0.mk (blk_below (g := gb261) (o := .cells #[.int .i64 a0_0, .int .u64 a0_1] 24 (0, 0)) (by (with_reducible repeat (first | refine blk_drewN ?_ _ | refine blk_drew ?_ | refine blk_alloc ?_ _)); refine blk_far ?_ NB261_266.out _; (with_reducible repeat (first | refine blk_drewN ?_ _ | refine blk_drew ?_ | refine blk_alloc ?_ _)); refine blk_far ?_ NB261_266.out _; (with_reducible repeat (first | refine blk_drewN ?_ _ | refine blk_drew ?_ | refine blk_alloc ?_ _)); exact BK261.out) hb); replace BK266 := Aside0.mk (blk_below (g := gb266) (o := .cells #[.int .i64 t262, .int .u64 t263] 24 (0, 0)) (by (with_reducible repeat (first | refine blk_drewN ?_ _ | refine blk_drew ?_ | refine blk_alloc ?_ _)); refine blk_put (cs := #[.int .i64 t262, .int .u64 0]) ?_ 1 _ rfl; (with_reducible repeat (first | refine blk_drewN ?_ _ | refine blk_drew ?_ | refine blk_alloc ?_ _)); refine blk_put (cs := #[.int .i64 0, .int .u64 0]) ?_ 0 _ rfl; (with_reducible repeat (first | refine blk_drewN ?_ _ | refine blk_drew ?_ | refine blk_alloc ?_ _)); exact BK266.out) hb); replace HB := Aside0.mk (bS hb); (try clear hb); (try clear hb2); (try clear hk); (try clear hi)) | ((with_reducible refine gate_dst (N := 8) rfl ?_); refine box_event ?hg (N := 8) ?hd (cs := #[.int .i64 0, .int .u64 0]) (t := 24) ?hr ?_; (case hd => rfl); (case hg => rfl); (case hr => first | (go_simp; done) | (go_simp; rfl)); intro gb271 hg w17 hbox hb; have nn_ := bT hb hg; have bgb261_ := bN BK261 hb hg; have bgb266_ := bN BK266 hb hg; have BK271 := Aside0.mk (hbox); have GW271 := Aside0.mk nn_.2; have GE271 := GW271; have NB261_271 := Aside0.mk bgb261_.2.1; have NB271_261 := Aside0.mk bgb261_.2.2; have NB266_271 := Aside0.mk bgb266_.2.1; have NB271_266 := Aside0.mk bgb266_.2.2; replace BK261 := Aside0.mk bgb261_.1; replace BK266 := Aside0.mk bgb266_.1; replace HB := Aside0.mk nn_.1; clear nn_ bgb261_ bgb266_; clear hb hbox hg; have hnb18 := NB271_261.out; have hnc18 := NB261_271.out; have hnb19 := NB271_266.out; have hnc19 := NB266_271.out; have hcz20_0 : w17.cell? ⟨gb271, 0, none⟩ = some (.int .i64 0) := (blk_cell BK271.out 0).trans rfl; have hcz20_1 : w17.cell? ⟨gb271, 1, none⟩ = some (.int .u64 0) := (blk_cell BK271.out 1).trans rfl; have hfz20_0 := blk_frozen BK271.out 0; have hfz20_1 := blk_frozen BK271.out 1; have hcz21_0 : w17.cell? ⟨gb266, 0, none⟩ = some (.int .i64 t262) := (blk_cell BK266.out 0).trans rfl; have hcz21_1 : w17.cell? ⟨gb266, 1, none⟩ = some (.int .u64 t263) := (blk_cell BK266.out 1).trans rfl; have hfz21_0 := blk_frozen BK266.out 0; have hfz21_1 := blk_frozen BK266.out 1) | (go_at_call 12; (with_reducible refine (corebanklaw01_live.calls k  t272 _ A8.out).mono ?_); rintro e w22 ⟨rfl, hb⟩; replace BK261 := Aside0.mk (blk_below (g := gb261) (o := .cells #[.int .i64 a0_0, .int .u64 a0_1] 24 (0, 0)) (by (with_reducible repeat (first | refine blk_drewN ?_ _ | refine blk_drew ?_ | refine blk_alloc ?_ _)); refine blk_far ?_ NB261_271.out _; (with_reducible repeat (first | refine blk_drewN ?_ _ | refine blk_drew ?_ | refine blk_alloc ?_ _)); refine blk_far ?_ NB261_271.out _; (with_reducible repeat (first | refine blk_drewN ?_ _ | refine blk_drew ?_ | refine blk_alloc ?_ _)); exact BK261.out) hb); replace BK266 := Aside0.mk (blk_below (g := gb266) (o := .cells #[.int .i64 t262, .int .u64 t263] 24 (0, 0)) (by (with_reducible repeat (first | refine blk_drewN ?_ _ | refine blk_drew ?_ | refine blk_alloc ?_ _)); refine blk_far ?_ NB266_271.out _; (with_reducible repeat (first | refine blk_drewN ?_ _ | refine blk_drew ?_ | refine blk_alloc ?_ _)); refine blk_far ?_ NB266_271.out _; (with_reducible repeat (first | refine blk_drewN ?_ _ | refine blk_drew ?_ | refine blk_alloc ?_ _)); exact BK266.out) hb); replace BK271 := Aside0.mk (blk_below (g := gb271) (o := .cells #[.int .i64 t267, .int .u64 t268] 24 (0, 0)) (by (with_reducible repeat (first | refine blk_drewN ?_ _ | refine blk_drew ?_ | refine blk_alloc ?_ _)); refine blk_put (cs := #[.int .i64 t267, .int .u64 0]) ?_ 1 _ rfl; (with_reducible repeat (first | refine blk_drewN ?_ _ | refine blk_drew ?_ | refine blk_alloc ?_ _)); refine blk_put (cs := #[.int .i64 0, .int .u64 0]) ?_ 0 _ rfl; (with_reducible repeat (first | refine blk_drewN ?_ _ | refine blk_drew ?_ | refine blk_alloc ?_ _)); exact BK271.out) hb); replace HB := Aside0.mk (bS hb); (try clear hb); (try clear hb2); (try clear hk); (try clear hi)))
        go_ret
        exact ⟨by first | rfl | (simp [errW_none, errW_some] <;> rfl) | (simp [*, errW_none, errW_some] <;> rfl), bE⟩
      · rw [if_neg c7] at H
        exact absurd H (by simp)
    · rw [if_neg c6] at H
      exact absurd H (by simp)
  · rw [if_neg c5] at H
    exact absurd H (by simp)

/-- THE ONE PURE STATEMENT of corebanklaw01_WideQuotients. -/
def corebanklaw01_WideQuotients.Pure : Prop := ∀ (a0_0 : Int) (a0_1 : Int) (a1 : Int), (Lit.int .i64 a0_0).wf = true → (Lit.int .u64 a0_1).wf = true → (Lit.int .i64 a1).wf = true → ∃ k, corebanklaw01_WideQuotients.f k a0_0 a0_1 a1 = some true
theorem corebanklaw01_WideQuotients.walk (P : corebanklaw01_WideQuotients.Pure) (a0_0 : Int) (a0_1 : Int) (a1 : Int) (w : World) (w0_0 : (Lit.int .i64 a0_0).wf = true) (w0_1 : (Lit.int .u64 a0_1).wf = true) (w1 : (Lit.int .i64 a1).wf = true) :
    Calls Try.prog 3 #[.agg #[.int .i64 a0_0, .int .u64 a0_1], .int .i64 a1] w fun e w' => e = .returned (.bool true) ∧ Below w.heap.size w w' := by
  obtain ⟨k, h⟩ := P a0_0 a0_1 a1 w0_0 w0_1 w1
  refine (corebanklaw01_WideQuotients.calls k a0_0 a0_1 a1 true w h).mono ?_
  rintro e w' ⟨rfl, hd⟩
  exact ⟨rfl, hd⟩

end Go.Proofs.Ytkhocaehhflpcaa.PA
