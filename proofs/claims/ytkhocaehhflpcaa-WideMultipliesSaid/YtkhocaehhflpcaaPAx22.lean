/- Contracts of the Go functions and their plain Lean functions, written by a program of this session out of the translation. -/
import Derived.Test.YtkhocaehhflpcaaPAx0
import Derived.Test.YtkhocaehhflpcaaPAx1
import Derived.Test.YtkhocaehhflpcaaPAx11
import Derived.Test.YtkhocaehhflpcaaPAx12
import Derived.Test.YtkhocaehhflpcaaPAx19
import Derived.Test.YtkhocaehhflpcaaPAx20
import Derived.Test.YtkhocaehhflpcaaPAx21
namespace Go.Proofs.Ytkhocaehhflpcaa.PA
open Go.RowKit Go.Proofs.YtkhocaehhflpcaaW.PrintWords Go.Proofs.YtkhocaehhflpcaaW.PrintLast Go.Proofs.YtkhocaehhflpcaaW.PrintMore
attribute [local go_sem] max2_int min2_int max_two min_two max_three min_three max_four min_four   -- for this text's walks alone
set_option linter.unusedVariables false
set_option linter.unusedSimpArgs false

attribute [local go_sem high] eqA24
/-! ### corebanklaw01_WideMultiplies: function 6 -/
def corebanklaw01_WideMultiplies.f (k : Nat) (a0_0 : Int) (a0_1 : Int) (a1 : Int) (a2 : Int) : Option (Bool) := (wide_Scale.f k a0_0 a0_1 a2).bind fun bt390 => ((corebankref01_Scale.f k a0_0 a0_1 a2).bind fun bt394 => ((wide_Int.f a0_0 a0_1).bind fun bt398 => ((corebankref01_Int.f a0_0 a0_1).bind fun bt400 => (if (bt390.1 == bt394.1 && (bt390.2.1 == bt394.2.1)) = true then (if bt390.2.2 = bt394.2.2 then ((wide_Mul.f a1 a2).bind fun bt402 => ((corebankref01_Mul.f k a1 a2).bind fun bt404 => (if (bt402.1 == bt404.1 && (bt402.2 == bt404.2)) = true then ((wide_Of.f a2).bind fun bt406 => ((corebankref01_Of.f a2).bind fun bt408 => (if (bt406.1 == bt408.1 && (bt406.2 == bt408.2)) = true then (if bt398.1 = bt400.1 then (if (bt398.2 == bt400.2) = true then ((corebanklaw01_live.f k).bind fun t410 => (some t410)) else (none)) else (none)) else (none)))) else (none)))) else (none)) else (none)))))
theorem corebanklaw01_WideMultiplies.mono : ∀ a0 a1 a2 a3 k, LeO (corebanklaw01_WideMultiplies.f k a0 a1 a2 a3) (corebanklaw01_WideMultiplies.f (k + 1) a0 a1 a2 a3) := by
  intro a0 a1 a2 a3 k
  unfold corebanklaw01_WideMultiplies.f
  repeat' first
      | (with_reducible exact corebanklaw01_live.mono _)
      | (with_reducible exact corebankref01_Mul.mono _ _ _)
      | (with_reducible exact corebankref01_Scale.mono _ _ _ _)
      | (with_reducible exact wide_Scale.mono _ _ _ _)
      | (with_reducible exact LeO.refl _)
      | (with_reducible exact LeO.none _)
      | (with_reducible refine LeO.ite ?_ ?_)
      | (with_reducible refine LeO.bind ?_ (fun _ => ?_))
      | exact corebanklaw01_live.mono _
      | exact corebankref01_Mul.mono _ _ _
      | exact corebankref01_Scale.mono _ _ _ _
      | exact wide_Scale.mono _ _ _ _
      | exact LeO.none _
      | refine LeO.ite ?_ ?_
      | refine LeO.bind ?_ (fun _ => ?_)
set_option maxHeartbeats 8000000 in
set_option maxRecDepth 100000 in
theorem corebanklaw01_WideMultiplies.calls (k : Nat) (a0_0 : Int) (a0_1 : Int) (a1 : Int) (a2 : Int) (r : Bool) (w : World) (h : corebanklaw01_WideMultiplies.f k a0_0 a0_1 a1 a2 = some r) :
    Calls Try.prog 6 #[.agg #[.int .i64 a0_0, .int .u64 a0_1], .int .i64 a1, .int .i64 a2] w fun e w' => e = .returned (.bool r) ∧ Below w.heap.size w w' := by
  have hu24 := Try.underlying24
  have HB := Aside0.mk (Below.refl w.heap.size w)
  have H : ((wide_Scale.f k a0_0 a0_1 a2).bind fun bt390 => ((corebankref01_Scale.f k a0_0 a0_1 a2).bind fun bt394 => ((wide_Int.f a0_0 a0_1).bind fun bt398 => ((corebankref01_Int.f a0_0 a0_1).bind fun bt400 => (if (bt390.1 == bt394.1 && (bt390.2.1 == bt394.2.1)) = true then (if bt390.2.2 = bt394.2.2 then ((wide_Mul.f a1 a2).bind fun bt402 => ((corebankref01_Mul.f k a1 a2).bind fun bt404 => (if (bt402.1 == bt404.1 && (bt402.2 == bt404.2)) = true then ((wide_Of.f a2).bind fun bt406 => ((corebankref01_Of.f a2).bind fun bt408 => (if (bt406.1 == bt408.1 && (bt406.2 == bt408.2)) = true then (if bt398.1 = bt400.1 then (if (bt398.2 == bt400.2) = true then ((corebanklaw01_live.f k).bind fun t410 => (some t410)) else (none)) else (none)) else (none)))) else (none)))) else (none)) else (none)))))) = some r := h
  clear h
  replace H := Option.bind_eq_some_iff.mp H
  obtain ⟨⟨t390, t391, t392⟩, A40, H⟩ := H
  replace H : ((corebankref01_Scale.f k a0_0 a0_1 a2).bind fun bt394 => ((wide_Int.f a0_0 a0_1).bind fun bt398 => ((corebankref01_Int.f a0_0 a0_1).bind fun bt400 => (if (t390 == bt394.1 && (t391 == bt394.2.1)) = true then (if t392 = bt394.2.2 then ((wide_Mul.f a1 a2).bind fun bt402 => ((corebankref01_Mul.f k a1 a2).bind fun bt404 => (if (bt402.1 == bt404.1 && (bt402.2 == bt404.2)) = true then ((wide_Of.f a2).bind fun bt406 => ((corebankref01_Of.f a2).bind fun bt408 => (if (bt406.1 == bt408.1 && (bt406.2 == bt408.2)) = true then (if bt398.1 = bt400.1 then (if (bt398.2 == bt400.2) = true then ((corebanklaw01_live.f k).bind fun t410 => (some t410)) else (none)) else (none)) else (none)))) else (none)))) else (none)) else (none))))) = some r := H
  have A4 := Aside0.mk A40
  clear A40
  replace H := Option.bind_eq_some_iff.mp H
  obtain ⟨⟨t394, t395, t396⟩, A50, H⟩ := H
  replace H : ((wide_Int.f a0_0 a0_1).bind fun bt398 => ((corebankref01_Int.f a0_0 a0_1).bind fun bt400 => (if (t390 == t394 && (t391 == t395)) = true then (if t392 = t396 then ((wide_Mul.f a1 a2).bind fun bt402 => ((corebankref01_Mul.f k a1 a2).bind fun bt404 => (if (bt402.1 == bt404.1 && (bt402.2 == bt404.2)) = true then ((wide_Of.f a2).bind fun bt406 => ((corebankref01_Of.f a2).bind fun bt408 => (if (bt406.1 == bt408.1 && (bt406.2 == bt408.2)) = true then (if bt398.1 = bt400.1 then (if (bt398.2 == bt400.2) = true then ((corebanklaw01_live.f k).bind fun t410 => (some t410)) else (none)) else (none)) else (none)))) else (none)))) else (none)) else (none)))) = some r := H
  have A5 := Aside0.mk A50
  clear A50
  replace H := Option.bind_eq_some_iff.mp H
  obtain ⟨⟨t398, t399⟩, A60, H⟩ := H
  replace H : ((corebankref01_Int.f a0_0 a0_1).bind fun bt400 => (if (t390 == t394 && (t391 == t395)) = true then (if t392 = t396 then ((wide_Mul.f a1 a2).bind fun bt402 => ((corebankref01_Mul.f k a1 a2).bind fun bt404 => (if (bt402.1 == bt404.1 && (bt402.2 == bt404.2)) = true then ((wide_Of.f a2).bind fun bt406 => ((corebankref01_Of.f a2).bind fun bt408 => (if (bt406.1 == bt408.1 && (bt406.2 == bt408.2)) = true then (if t398 = bt400.1 then (if (t399 == bt400.2) = true then ((corebanklaw01_live.f k).bind fun t410 => (some t410)) else (none)) else (none)) else (none)))) else (none)))) else (none)) else (none))) = some r := H
  have A6 := Aside0.mk A60
  clear A60
  replace H := Option.bind_eq_some_iff.mp H
  obtain ⟨⟨t400, t401⟩, A70, H⟩ := H
  replace H : (if (t390 == t394 && (t391 == t395)) = true then (if t392 = t396 then ((wide_Mul.f a1 a2).bind fun bt402 => ((corebankref01_Mul.f k a1 a2).bind fun bt404 => (if (bt402.1 == bt404.1 && (bt402.2 == bt404.2)) = true then ((wide_Of.f a2).bind fun bt406 => ((corebankref01_Of.f a2).bind fun bt408 => (if (bt406.1 == bt408.1 && (bt406.2 == bt408.2)) = true then (if t398 = t400 then (if (t399 == t401) = true then ((corebanklaw01_live.f k).bind fun t410 => (some t410)) else (none)) else (none)) else (none)))) else (none)))) else (none)) else (none)) = some r := H
  have A7 := Aside0.mk A70
  clear A70
  by_cases c8 : (t390 == t394 && (t391 == t395)) = true
  · rw [if_pos c8] at H
    have c8b0 : (t390 == t394 && (t391 == t395)) = true := c8
    (try (have c8b1 : decide (t390 = t394 && (t391 == t395)) = true := by simpa using c8))
    (try (have c8b2 : (t390 == t394 && (t391 == t395)) = true := by simpa using c8))
    clear c8
    by_cases c9 : t392 = t396
    · rw [if_pos c9] at H
      have c9b0 : (t392 == t396) = true := beq_iff_eq.mpr c9
      have c9b1 : (t392 != t396) = false := bne_eq_false_iff_eq.mpr c9
      clear c9
      replace H := Option.bind_eq_some_iff.mp H
      obtain ⟨⟨t402, t403⟩, A100, H⟩ := H
      replace H : ((corebankref01_Mul.f k a1 a2).bind fun bt404 => (if (t402 == bt404.1 && (t403 == bt404.2)) = true then ((wide_Of.f a2).bind fun bt406 => ((corebankref01_Of.f a2).bind fun bt408 => (if (bt406.1 == bt408.1 && (bt406.2 == bt408.2)) = true then (if t398 = t400 then (if (t399 == t401) = true then ((corebanklaw01_live.f k).bind fun t410 => (some t410)) else (none)) else (none)) else (none)))) else (none))) = some r := H
      have A10 := Aside0.mk A100
      clear A100
      replace H := Option.bind_eq_some_iff.mp H
      obtain ⟨⟨t404, t405⟩, A110, H⟩ := H
      replace H : (if (t402 == t404 && (t403 == t405)) = true then ((wide_Of.f a2).bind fun bt406 => ((corebankref01_Of.f a2).bind fun bt408 => (if (bt406.1 == bt408.1 && (bt406.2 == bt408.2)) = true then (if t398 = t400 then (if (t399 == t401) = true then ((corebanklaw01_live.f k).bind fun t410 => (some t410)) else (none)) else (none)) else (none)))) else (none)) = some r := H
      have A11 := Aside0.mk A110
      clear A110
      by_cases c12 : (t402 == t404 && (t403 == t405)) = true
      · rw [if_pos c12] at H
        have c12b0 : (t402 == t404 && (t403 == t405)) = true := c12
        (try (have c12b1 : decide (t402 = t404 && (t403 == t405)) = true := by simpa using c12))
        (try (have c12b2 : (t402 == t404 && (t403 == t405)) = true := by simpa using c12))
        clear c12
        replace H := Option.bind_eq_some_iff.mp H
        obtain ⟨⟨t406, t407⟩, A130, H⟩ := H
        replace H : ((corebankref01_Of.f a2).bind fun bt408 => (if (t406 == bt408.1 && (t407 == bt408.2)) = true then (if t398 = t400 then (if (t399 == t401) = true then ((corebanklaw01_live.f k).bind fun t410 => (some t410)) else (none)) else (none)) else (none))) = some r := H
        have A13 := Aside0.mk A130
        clear A130
        replace H := Option.bind_eq_some_iff.mp H
        obtain ⟨⟨t408, t409⟩, A140, H⟩ := H
        replace H : (if (t406 == t408 && (t407 == t409)) = true then (if t398 = t400 then (if (t399 == t401) = true then ((corebanklaw01_live.f k).bind fun t410 => (some t410)) else (none)) else (none)) else (none)) = some r := H
        have A14 := Aside0.mk A140
        clear A140
        by_cases c15 : (t406 == t408 && (t407 == t409)) = true
        · rw [if_pos c15] at H
          have c15b0 : (t406 == t408 && (t407 == t409)) = true := c15
          (try (have c15b1 : decide (t406 = t408 && (t407 == t409)) = true := by simpa using c15))
          (try (have c15b2 : (t406 == t408 && (t407 == t409)) = true := by simpa using c15))
          clear c15
          by_cases c16 : t398 = t400
          · rw [if_pos c16] at H
            have c16b0 : (t398 == t400) = true := beq_iff_eq.mpr c16
            have c16b1 : (t398 != t400) = false := bne_eq_false_iff_eq.mpr c16
            clear c16
            by_cases c17 : (t399 == t401) = true
            · rw [if_pos c17] at H
              have c17b0 : (t399 == t401) = true := c17
              (try (have c17b1 : decide (t399 = t401) = true := by simpa using c17))
              (try (have c17b2 : (t399 == t401) = true := by simpa using c17))
              clear c17
              replace H := Option.bind_eq_some_iff.mp H
              obtain ⟨t410, A180, H⟩ := H
              replace H : (some t410) = some r := H
              have A18 := Aside0.mk A180
              clear A180
              obtain rfl := Option.some.inj H
              go_enter Try.func6, Try.ntmps6
              go_wp2_with (first | ((with_reducible refine gate_dst (N := 3) rfl ?_); refine box_event ?hg (N := 3) ?hd (cs := #[.int .i64 a0_0, .int .u64 a0_1]) (t := 24) ?hr ?_; (case hd => rfl); (case hg => rfl); (case hr => first | (go_simp; done) | (go_simp; rfl)); intro gb389 hg w19 hbox hb; have nn_ := bT hb hg; have BK389 := Aside0.mk (hbox); have GW389 := Aside0.mk nn_.2; have GE389 := GW389; replace HB := Aside0.mk nn_.1; clear nn_; clear hb hbox hg; have hcz20_0 : w19.cell? ⟨gb389, 0, none⟩ = some (.int .i64 a0_0) := (blk_cell BK389.out 0).trans rfl; have hcz20_1 : w19.cell? ⟨gb389, 1, none⟩ = some (.int .u64 a0_1) := (blk_cell BK389.out 1).trans rfl; have hfz20_0 := blk_frozen BK389.out 0; have hfz20_1 := blk_frozen BK389.out 1) | ((with_reducible refine gate_callee (f := 17) rfl ?_); refine goesL_ (some 18) rfl rfl Try.func17 (by kernel_rfl) rfl #[.agg #[.int .i64 a0_0, .int .u64 a0_1], .int .i64 a2] rfl aG ?_; (with_reducible refine (wide_Scale.calls k a0_0 a0_1 a2 t390 t391 t392 _ A4.out).mono ?_); rintro e w21 ⟨rfl, hb⟩; refine ⟨_, rfl, ?_⟩; replace BK389 := Aside0.mk (bK BK389 hb); replace HB := Aside0.mk (bS hb); (try clear hb); (try clear hb2); (try clear hk); (try clear hi)) | ((with_reducible refine gate_dst (N := 7) rfl ?_); refine box_event ?hg (N := 7) ?hd (cs := #[.int .i64 0, .int .u64 0]) (t := 24) ?hr ?_; (case hd => rfl); (case hg => rfl); (case hr => first | (go_simp; done) | (go_simp; rfl)); intro gb393 hg w22 hbox hb; have nn_ := bT hb hg; have bgb389_ := bN BK389 hb hg; have BK393 := Aside0.mk (hbox); have GW393 := Aside0.mk nn_.2; have GE393 := GW393; have NB389_393 := Aside0.mk bgb389_.2.1; have NB393_389 := Aside0.mk bgb389_.2.2; replace BK389 := Aside0.mk bgb389_.1; replace HB := Aside0.mk nn_.1; clear nn_ bgb389_; clear hb hbox hg; have hnb23 := NB393_389.out; have hnc23 := NB389_393.out; have hcz24_0 : w22.cell? ⟨gb393, 0, none⟩ = some (.int .i64 0) := (blk_cell BK393.out 0).trans rfl; have hcz24_1 : w22.cell? ⟨gb393, 1, none⟩ = some (.int .u64 0) := (blk_cell BK393.out 1).trans rfl; have hfz24_0 := blk_frozen BK393.out 0; have hfz24_1 := blk_frozen BK393.out 1; have hcz25_0 : w22.cell? ⟨gb389, 0, none⟩ = some (.int .i64 a0_0) := (blk_cell BK389.out 0).trans rfl; have hcz25_1 : w22.cell? ⟨gb389, 1, none⟩ = some (.int .u64 a0_1) := (blk_cell BK389.out 1).trans rfl; have hfz25_0 := blk_frozen BK389.out 0; have hfz25_1 := blk_frozen BK389.out 1) | ((with_reducible refine gate_callee (f := 18) rfl ?_); refine goesL_ (some 24) rfl rfl Try.func18 (by kernel_rfl) rfl #[.agg #[.int .i64 a0_0, .int .u64 a0_1], .int .i64 a2] rfl aG ?_; (with_reducible refine (corebankref01_Scale.calls k a0_0 a0_1 a2 t394 t395 t396 _ A5.out).mono ?_); rintro e w26 ⟨rfl, hb⟩; refine ⟨_, rfl, ?_⟩; replace BK389 := Aside0.mk (blk_below (g := gb389) (o := .cells #[.int .i64 a0_0, .int .u64 a0_1] 24 (0, 0)) (by (with_reducible repeat (first | refine blk_drewN ?_ _ | refine blk_drew ?_ | refine blk_alloc ?_ _)); refine blk_far ?_ NB389_393.out _; (with_reducible repeat (first | refine blk_drewN ?_ _ | refine blk_drew ?_ | refine blk_alloc ?_ _)); refine blk_far ?_ NB389_393.out _; (with_reducible repeat (first | refine blk_drewN ?_ _ | refine blk_drew ?_ | refine blk_alloc ?_ _)); exact BK389.out) hb); replace BK393 := Aside0.mk (blk_below (g := gb393) (o := .cells #[.int .i64 t390, .int .u64 t391] 24 (0, 0)) (by (with_reducible repeat (first | refine blk_drewN ?_ _ | refine blk_drew ?_ | refine blk_alloc ?_ _)); refine blk_put (cs := #[.int .i64 t390, .int .u64 0]) ?_ 1 _ rfl; (with_reducible repeat (first | refine blk_drewN ?_ _ | refine blk_drew ?_ | refine blk_alloc ?_ _)); refine blk_put (cs := #[.int .i64 0, .int .u64 0]) ?_ 0 _ rfl; (with_reducible repeat (first | refine blk_drewN ?_ _ | refine blk_drew ?_ | refine blk_alloc ?_ _)); exact BK393.out) hb); replace HB := Aside0.mk (bS hb); (try clear hb); (try clear hb2); (try clear hk); (try clear hi)) | ((with_reducible refine gate_dst (N := 9) rfl ?_); refine box_event ?hg (N := 9) ?hd (cs := #[.int .i64 0, .int .u64 0]) (t := 24) ?hr ?_; (case hd => rfl); (case hg => rfl); (case hr => first | (go_simp; done) | (go_simp; rfl)); intro gb397 hg w27 hbox hb; have nn_ := bT hb hg; have bgb389_ := bN BK389 hb hg; have bgb393_ := bN BK393 hb hg; have BK397 := Aside0.mk (hbox); have GW397 := Aside0.mk nn_.2; have GE397 := GW397; have NB389_397 := Aside0.mk bgb389_.2.1; have NB397_389 := Aside0.mk bgb389_.2.2; have NB393_397 := Aside0.mk bgb393_.2.1; have NB397_393 := Aside0.mk bgb393_.2.2; replace BK389 := Aside0.mk bgb389_.1; replace BK393 := Aside0.mk bgb393_.1; replace HB := Aside0.mk nn_.1; clear nn_ bgb389_ bgb393_; clear hb hbox hg; have hnb28 := NB397_389.out; have hnc28 := NB389_397.out; have hnb29 := NB397_393.out; have hnc29 := NB393_397.out; have hcz30_0 : w27.cell? ⟨gb397, 0, none⟩ = some (.int .i64 0) := (blk_cell BK397.out 0).trans rfl; have hcz30_1 : w27.cell? ⟨gb397, 1, none⟩ = some (.int .u64 0) := (blk_cell BK397.out 1).trans rfl; have hfz30_0 := blk_frozen BK397.out 0; have hfz30_1 := blk_frozen BK397.out 1; have hcz31_0 : w27.cell? ⟨gb389, 0, none⟩ = some (.int .i64 a0_0) := (blk_cell BK389.out 0).trans rfl; have hcz31_1 : w27.cell? ⟨gb389, 1, none⟩ = some (.int .u64 a0_1) := (blk_cell BK389.out 1).trans rfl; have hfz31_0 := blk_frozen BK389.out 0; have hfz31_1 := blk_frozen BK389.out 1) | ((with_reducible refine gate_callee (f := 19) rfl ?_); refine goesL_ (some 29) rfl rfl Try.func19 (by kernel_rfl) rfl #[.agg #[.int .i64 a0_0, .int .u64 a0_1]] rfl aG ?_; (with_reducible refine (wide_Int.calls a0_0 a0_1 t398 t399 _ A6.out).mono ?_); rintro e w32 ⟨rfl, hb⟩; refine ⟨_, rfl, ?_⟩; replace BK389 := Aside0.mk (blk_below (g := gb389) (o := .cells #[.int .i64 a0_0, .int .u64 a0_1] 24 (0, 0)) (by (with_reducible repeat (first | refine blk_drewN ?_ _ | refine blk_drew ?_ | refine blk_alloc ?_ _)); refine blk_far ?_ NB389_397.out _; (with_reducible repeat (first | refine blk_drewN ?_ _ | refine blk_drew ?_ | refine blk_alloc ?_ _)); refine blk_far ?_ NB389_397.out _; (with_reducible repeat (first | refine blk_drewN ?_ _ | refine blk_drew ?_ | refine blk_alloc ?_ _)); exact BK389.out) hb); replace BK393 := Aside0.mk (blk_below (g := gb393) (o := .cells #[.int .i64 t390, .int .u64 t391] 24 (0, 0)) (by (with_reducible repeat (first | refine blk_drewN ?_ _ | refine blk_drew ?_ | refine blk_alloc ?_ _)); refine blk_far ?_ NB393_397.out _; (with_reducible repeat (first | refine blk_drewN ?_ _ | refine blk_drew ?_ | refine blk_alloc ?_ _)); refine blk_far ?_ NB393_397.out _; (with_reducible repeat (first | refine blk_drewN ?_ _ | refine blk_drew ?_ | refine blk_alloc ?_ _)); exact BK393.out) hb); replace BK397 := Aside0.mk (blk_below (g := gb397) (o := .cells #[.int .i64 t394, .int .u64 t395] 24 (0, 0)) (by (with_reducible repeat (first | refine blk_drewN ?_ _ | refine blk_drew ?_ | refine blk_alloc ?_ _)); refine blk_put (cs := #[.int .i64 t394, .int .u64 0]) ?_ 1 _ rfl; (with_reducible repeat (first | refine blk_drewN ?_ _ | refine blk_drew ?_ | refine blk_alloc ?_ _)); refine blk_put (cs := #[.int .i64 0, .int .u64 0]) ?_ 0 _ rfl; (with_reducible repeat (first | refine blk_drewN ?_ _ | refine blk_drew ?_ | refine blk_alloc ?_ _)); exact BK397.out) hb); replace HB := Aside0.mk (bS hb); (try clear hb); (try clear hb2); (try clear hk); (try clear hi); have hcz33_0 : w32.cell? ⟨gb389, 0, none⟩ = some (.int .i64 a0_0) := (blk_cell BK389.out 0).trans rfl; have hcz33_1 : w32.cell? ⟨gb389, 1, none⟩ = some (.int .u64 a0_1) := (blk_cell BK389.out 1).trans rfl; have hfz33_0 := blk_frozen BK389.out 0; have hfz33_1 := blk_frozen BK389.out 1) | ((with_reducible refine gate_callee (f := 20) rfl ?_); refine goesL_ (some 34) rfl rfl Try.func20 (by kernel_rfl) rfl #[.agg #[.int .i64 a0_0, .int .u64 a0_1]] rfl aG ?_; (with_reducible refine (corebankref01_Int.calls a0_0 a0_1 t400 t401 _ A7.out).mono ?_); rintro e w34 ⟨rfl, hb⟩; refine ⟨_, rfl, ?_⟩; replace BK389 := Aside0.mk (bK BK389 hb); replace BK393 := Aside0.mk (bK BK393 hb); replace BK397 := Aside0.mk (bK BK397 hb); replace HB := Aside0.mk (bS hb); (try clear hb); (try clear hb2); (try clear hk); (try clear hi); have hcz35_0 : w34.cell? ⟨gb393, 0, none⟩ = some (.int .i64 t390) := (blk_cell BK393.out 0).trans rfl; have hcz35_1 : w34.cell? ⟨gb393, 1, none⟩ = some (.int .u64 t391) := (blk_cell BK393.out 1).trans rfl; have hfz35_0 := blk_frozen BK393.out 0; have hfz35_1 := blk_frozen BK393.out 1; have hcz36_0 : w34.cell? ⟨gb397, 0, none⟩ = some (.int .i64 t394) := (blk_cell BK397.out 0).trans rfl; have hcz36_1 : w34.cell? ⟨gb397, 1, none⟩ = some (.int .u64 t395) := (blk_cell BK397.out 1).trans rfl; have hfz36_0 := blk_frozen BK397.out 0; have hfz36_1 := blk_frozen BK397.out 1) | (go_at_call 21; (with_reducible refine (wide_Mul.calls a1 a2 t402 t403 _ A10.out).mono ?_); rintro e w37 ⟨rfl, hb⟩; replace BK389 := Aside0.mk (bK BK389 hb); replace BK393 := Aside0.mk (bK BK393 hb); replace BK397 := Aside0.mk (bK BK397 hb); replace HB := Aside0.mk (bS hb); (try clear hb); (try clear hb2); (try clear hk); (try clear hi)) | (go_at_call 22; (with_reducible refine (corebankref01_Mul.calls k a1 a2 t404 t405 _ A11.out).mono ?_); rintro e w38 ⟨rfl, hb⟩; replace BK389 := Aside0.mk (bK BK389 hb); replace BK393 := Aside0.mk (bK BK393 hb); replace BK397 := Aside0.mk (bK BK397 hb); replace HB := Aside0.mk (bS hb); (try clear hb); (try clear hb2); (try clear hk); (try clear hi)) | (go_at_call 23; (with_reducible refine (wide_Of.calls a2 t406 t407 _ A13.out).mono ?_); rintro e w39 ⟨rfl, hb⟩; replace BK389 := Aside0.mk (bK BK389 hb); replace BK393 := Aside0.mk (bK BK393 hb); replace BK397 := Aside0.mk (bK BK397 hb); replace HB := Aside0.mk (bS hb); (try clear hb); (try clear hb2); (try clear hk); (try clear hi)) | (go_at_call 24; (with_reducible refine (corebankref01_Of.calls a2 t408 t409 _ A14.out).mono ?_); rintro e w40 ⟨rfl, hb⟩; replace BK389 := Aside0.mk (bK BK389 hb); replace BK393 := Aside0.mk (bK BK393 hb); replace BK397 := Aside0.mk (bK BK397 hb); replace HB := Aside0.mk (bS hb); (try clear hb); (try clear hb2); (try clear hk); (try clear hi)) | (go_at_call 12; (with_reducible refine (corebanklaw01_live.calls k  t410 _ A18.out).mono ?_); rintro e w41 ⟨rfl, hb⟩; replace BK389 := Aside0.mk (bK BK389 hb); replace BK393 := Aside0.mk (bK BK393 hb); replace BK397 := Aside0.mk (bK BK397 hb); replace HB := Aside0.mk (bS hb); (try clear hb); (try clear hb2); (try clear hk); (try clear hi)))
              go_ret
              exact ⟨by first | rfl | (simp [errW_none, errW_some] <;> rfl) | (simp [*, errW_none, errW_some] <;> rfl), bE⟩
            · rw [if_neg c17] at H
              exact absurd H (by simp)
          · rw [if_neg c16] at H
            exact absurd H (by simp)
        · rw [if_neg c15] at H
          exact absurd H (by simp)
      · rw [if_neg c12] at H
        exact absurd H (by simp)
    · rw [if_neg c9] at H
      exact absurd H (by simp)
  · rw [if_neg c8] at H
    exact absurd H (by simp)

/-- THE ONE PURE STATEMENT of corebanklaw01_WideMultiplies. -/
def corebanklaw01_WideMultiplies.Pure : Prop := ∀ (a0_0 : Int) (a0_1 : Int) (a1 : Int) (a2 : Int), (Lit.int .i64 a0_0).wf = true → (Lit.int .u64 a0_1).wf = true → (Lit.int .i64 a1).wf = true → (Lit.int .i64 a2).wf = true → ∃ k, corebanklaw01_WideMultiplies.f k a0_0 a0_1 a1 a2 = some true
theorem corebanklaw01_WideMultiplies.walk (P : corebanklaw01_WideMultiplies.Pure) (a0_0 : Int) (a0_1 : Int) (a1 : Int) (a2 : Int) (w : World) (w0_0 : (Lit.int .i64 a0_0).wf = true) (w0_1 : (Lit.int .u64 a0_1).wf = true) (w1 : (Lit.int .i64 a1).wf = true) (w2 : (Lit.int .i64 a2).wf = true) :
    Calls Try.prog 6 #[.agg #[.int .i64 a0_0, .int .u64 a0_1], .int .i64 a1, .int .i64 a2] w fun e w' => e = .returned (.bool true) ∧ Below w.heap.size w w' := by
  obtain ⟨k, h⟩ := P a0_0 a0_1 a1 a2 w0_0 w0_1 w1 w2
  refine (corebanklaw01_WideMultiplies.calls k a0_0 a0_1 a1 a2 true w h).mono ?_
  rintro e w' ⟨rfl, hd⟩
  exact ⟨rfl, hd⟩

end Go.Proofs.Ytkhocaehhflpcaa.PA
