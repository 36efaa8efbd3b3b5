/- Contracts of the Go functions and their plain Lean functions, written by a program of this session out of the translation. -/
import Derived.Test.YtkhocaehhflpcaaPAx0
import Derived.Test.YtkhocaehhflpcaaPAx1
import Derived.Test.YtkhocaehhflpcaaPAx6
import Derived.Test.YtkhocaehhflpcaaPAx11
import Derived.Test.YtkhocaehhflpcaaPAx12
import Derived.Test.YtkhocaehhflpcaaPAx19
import Derived.Test.YtkhocaehhflpcaaPAx25
namespace Go.Proofs.Ytkhocaehhflpcaa.PA
open Go.RowKit Go.Proofs.YtkhocaehhflpcaaW.PrintWords Go.Proofs.YtkhocaehhflpcaaW.PrintLast Go.Proofs.YtkhocaehhflpcaaW.PrintMore
attribute [local go_sem] max2_int min2_int max_two min_two max_three min_three max_four min_four   -- for this text's walks alone
set_option linter.unusedVariables false
set_option linter.unusedSimpArgs false

attribute [local go_sem high] eqA24
/-! ### corebanklaw01_WideDivides: function 8 -/
def corebanklaw01_WideDivides.j0 : Nat → Int → Int → Bool → Int → Int → Int → Int → Option (Bool)
  | 0, _, _, _, _, _, _, _ => none
  | k + 1, x1, x6, x50, x493000, x493001, x498000, x498001 => if x50 = true then (none) else ((wide_Scale.f k x498000 x498001 x1).bind fun bt499 => (if bt499.2.2 = 0 then ((wide_Of.f x6).bind fun bt503 => ((wide_Add.f bt499.1 bt499.2.1 bt503.1 bt503.2).bind fun bt505 => (if bt505.2.2 = 0 then (if (bt505.1 == x493000 && (bt505.2.1 == x493001)) = true then ((corebanklaw01_live.f k).bind fun t509 => (some t509)) else (none)) else (none)))) else ((wide_Of.f 1).bind fun bt510 => ((wide_Add.f x498000 x498001 bt510.1 bt510.2).bind fun bt512 => ((wide_Scale.f k bt512.1 bt512.2.1 x1).bind fun bt516 => ((wide_Of.f (wrap64 (x1 - x6))).bind fun bt519 => ((wide_Sub.f bt516.1 bt516.2.1 bt519.1 bt519.2).bind fun bt521 => (if x493000 < 0 then (if x6 > 0 then (if bt512.2.2 = 0 then (if bt516.2.2 = 0 then (if bt521.2.2 = 0 then (if (bt521.1 == x493000 && (bt521.2.1 == x493001)) = true then ((corebanklaw01_live.f k).bind fun t525 => (some t525)) else (none)) else (none)) else (none)) else (none)) else (none)) else (none)))))))))
def corebanklaw01_WideDivides.f (k : Nat) (a0_0 : Int) (a0_1 : Int) (a1 : Int) : Option (Bool) := (wide_Div.f k a0_0 a0_1 a1).bind fun bt493 => (if a1 < 1 then (if bt493.2.2.2 = 1 then (if (bt493.1 == 0 && (bt493.2.1 == 0)) = true then (if bt493.2.2.1 = 0 then ((corebanklaw01_live.f k).bind fun t498 => (some t498)) else (none)) else (none)) else (none)) else (if bt493.2.2.2 = 0 then (if bt493.2.2.1 < 0 then (corebanklaw01_WideDivides.j0 k a1 bt493.2.2.1 true a0_0 a0_1 bt493.1 bt493.2.1) else (corebanklaw01_WideDivides.j0 k a1 bt493.2.2.1 (decide (bt493.2.2.1 ≥ a1)) a0_0 a0_1 bt493.1 bt493.2.1)) else (corebanklaw01_WideDivides.j0 k a1 bt493.2.2.1 true a0_0 a0_1 bt493.1 bt493.2.1)))
theorem corebanklaw01_WideDivides.mono_l : ∀ k, (∀ y0 y1 y2 y3 y4 y5 y6, LeO (corebanklaw01_WideDivides.j0 k y0 y1 y2 y3 y4 y5 y6) (corebanklaw01_WideDivides.j0 (k + 1) y0 y1 y2 y3 y4 y5 y6))
  | 0 => fun _ _ _ _ _ _ _ r h => by simp [corebanklaw01_WideDivides.j0] at h
  | k + 1 => by
    have ih0 := corebanklaw01_WideDivides.mono_l k
    · intro y0 y1 y2 y3 y4 y5 y6
      unfold corebanklaw01_WideDivides.j0
      repeat' first
      | (with_reducible exact ih0 _ _ _ _ _ _ _)
      | (with_reducible exact corebanklaw01_live.mono _)
      | (with_reducible exact wide_Div.mono _ _ _ _)
      | (with_reducible exact wide_Scale.mono _ _ _ _)
      | (with_reducible exact LeO.refl _)
      | (with_reducible exact LeO.none _)
      | (with_reducible refine LeO.ite ?_ ?_)
      | (with_reducible refine LeO.bind ?_ (fun _ => ?_))
      | exact ih0 _ _ _ _ _ _ _
      | exact corebanklaw01_live.mono _
      | exact wide_Div.mono _ _ _ _
      | exact wide_Scale.mono _ _ _ _
      | exact LeO.none _
      | refine LeO.ite ?_ ?_
      | refine LeO.bind ?_ (fun _ => ?_)
theorem corebanklaw01_WideDivides.mono : ∀ a0 a1 a2 k, LeO (corebanklaw01_WideDivides.f k a0 a1 a2) (corebanklaw01_WideDivides.f (k + 1) a0 a1 a2) := by
  intro a0 a1 a2 k
  have ih0 := corebanklaw01_WideDivides.mono_l k
  unfold corebanklaw01_WideDivides.f
  repeat' first
      | (with_reducible exact ih0 _ _ _ _ _ _ _)
      | (with_reducible exact corebanklaw01_live.mono _)
      | (with_reducible exact wide_Div.mono _ _ _ _)
      | (with_reducible exact wide_Scale.mono _ _ _ _)
      | (with_reducible exact LeO.refl _)
      | (with_reducible exact LeO.none _)
      | (with_reducible refine LeO.ite ?_ ?_)
      | (with_reducible refine LeO.bind ?_ (fun _ => ?_))
      | exact ih0 _ _ _ _ _ _ _
      | exact corebanklaw01_live.mono _
      | exact wide_Div.mono _ _ _ _
      | exact wide_Scale.mono _ _ _ _
      | exact LeO.none _
      | refine LeO.ite ?_ ?_
      | refine LeO.bind ?_ (fun _ => ?_)
def corebanklaw01_WideDivides.T8 : Bool × List (List Nat × List Nat) := (true, [([], []), ([], []), ([1], [1]), ([0, 2, 2], [0, 2]), ([3], [3]), ([4], [4]), ([4], [4]), ([], []), ([7, 5, 3, 0, 1, 2, 3, 4, 5, 7], [5, 7]), ([6, 8, 0, 1, 2, 3, 4, 5, 6, 7, 8], [6])])
def corebanklaw01_WideDivides.B8 : List Nat := [0, 0, 2, 7, 15, 31, 31, 0, 191, 511]
theorem corebanklaw01_WideDivides.tab8 : rtab .any (opsOf Try.f8 8) = corebanklaw01_WideDivides.T8 := by kernel_rfl
theorem corebanklaw01_WideDivides.bits8 : waitsOk corebanklaw01_WideDivides.T8.2 corebanklaw01_WideDivides.B8 = true := by kernel_rfl
def corebanklaw01_WideDivides.T10 : Bool × List (List Nat × List Nat) := (true, [([], []), ([], []), ([0, 1, 1], [0, 1]), ([2], [2]), ([3], [3]), ([3], [3]), ([], []), ([6, 4, 2, 0, 1, 2, 3, 4, 6], [4, 6]), ([5, 7, 0, 1, 2, 3, 4, 5, 6, 7], [5])])
def corebanklaw01_WideDivides.B10 : List Nat := [0, 0, 3, 7, 15, 15, 0, 95, 255]
theorem corebanklaw01_WideDivides.tab10 : rtab .any (opsOf Try.f8 10) = corebanklaw01_WideDivides.T10 := by kernel_rfl
theorem corebanklaw01_WideDivides.bits10 : waitsOk corebanklaw01_WideDivides.T10.2 corebanklaw01_WideDivides.B10 = true := by kernel_rfl
def corebanklaw01_WideDivides.T12 : Bool × List (List Nat × List Nat) := (true, [([], []), ([], []), ([], []), ([1, 2], [1, 2]), ([3], [3]), ([0, 4, 4], [0, 4]), ([5], [5]), ([6], [6]), ([6], [6]), ([], []), ([9, 7, 5, 0, 1, 2, 3, 4, 5, 6, 7, 9], [7, 9]), ([8, 10, 0, 1, 2, 3, 4, 5, 6, 7, 8, 9, 10], [8])])
def corebanklaw01_WideDivides.B12 : List Nat := [0, 0, 0, 6, 14, 31, 63, 127, 127, 0, 767, 2047]
theorem corebanklaw01_WideDivides.tab12 : rtab .any (opsOf Try.f8 12) = corebanklaw01_WideDivides.T12 := by kernel_rfl
theorem corebanklaw01_WideDivides.bits12 : waitsOk corebanklaw01_WideDivides.T12.2 corebanklaw01_WideDivides.B12 = true := by kernel_rfl
set_option maxHeartbeats 8000000 in
set_option maxRecDepth 100000 in
theorem corebanklaw01_WideDivides.calls (k : Nat) (a0_0 : Int) (a0_1 : Int) (a1 : Int) (r : Bool) (w : World) (h : corebanklaw01_WideDivides.f k a0_0 a0_1 a1 = some r) :
    Calls Try.prog 8 #[.agg #[.int .i64 a0_0, .int .u64 a0_1], .int .i64 a1] w fun e w' => e = .returned (.bool r) ∧ Below w.heap.size w w' := by
  have hu24 := Try.underlying24
  have HB := Aside0.mk (Below.refl w.heap.size w)
  have H : ((wide_Div.f k a0_0 a0_1 a1).bind fun bt493 => (if a1 < 1 then (if bt493.2.2.2 = 1 then (if (bt493.1 == 0 && (bt493.2.1 == 0)) = true then (if bt493.2.2.1 = 0 then ((corebanklaw01_live.f k).bind fun t498 => (some t498)) else (none)) else (none)) else (none)) else (if bt493.2.2.2 = 0 then (if bt493.2.2.1 < 0 then (corebanklaw01_WideDivides.j0 k a1 bt493.2.2.1 true a0_0 a0_1 bt493.1 bt493.2.1) else (corebanklaw01_WideDivides.j0 k a1 bt493.2.2.1 (decide (bt493.2.2.1 ≥ a1)) a0_0 a0_1 bt493.1 bt493.2.1)) else (corebanklaw01_WideDivides.j0 k a1 bt493.2.2.1 true a0_0 a0_1 bt493.1 bt493.2.1)))) = some r := h
  clear h
  replace H := Option.bind_eq_some_iff.mp H
  obtain ⟨⟨t493, t494, t495, t496⟩, A30, H⟩ := H
  replace H : (if a1 < 1 then (if t496 = 1 then (if (t493 == 0 && (t494 == 0)) = true then (if t495 = 0 then ((corebanklaw01_live.f k).bind fun t498 => (some t498)) else (none)) else (none)) else (none)) else (if t496 = 0 then (if t495 < 0 then (corebanklaw01_WideDivides.j0 k a1 t495 true a0_0 a0_1 t493 t494) else (corebanklaw01_WideDivides.j0 k a1 t495 (decide (t495 ≥ a1)) a0_0 a0_1 t493 t494)) else (corebanklaw01_WideDivides.j0 k a1 t495 true a0_0 a0_1 t493 t494))) = some r := H
  have A3 := Aside0.mk A30
  clear A30
  by_cases c4 : a1 < 1
  · rw [if_pos c4] at H
    have c4b0 : decide (a1 < 1) = true := decide_eq_true c4
    clear c4
    by_cases c5 : t496 = 1
    · rw [if_pos c5] at H
      have c5b0 : (t496 == 1) = true := beq_iff_eq.mpr c5
      have c5b1 : (t496 != 1) = false := bne_eq_false_iff_eq.mpr c5
      clear c5
      by_cases c6 : (t493 == 0 && (t494 == 0)) = true
      · rw [if_pos c6] at H
        have c6b0 : (t493 == 0 && (t494 == 0)) = true := c6
        (try (have c6b1 : decide (t493 = 0 && (t494 == 0)) = true := by simpa using c6))
        (try (have c6b2 : (t493 == 0 && (t494 == 0)) = true := by simpa using c6))
        clear c6
        by_cases c7 : t495 = 0
        · rw [if_pos c7] at H
          have c7b0 : (t495 == 0) = true := beq_iff_eq.mpr c7
          have c7b1 : (t495 != 0) = false := bne_eq_false_iff_eq.mpr c7
          clear c7
          replace H := Option.bind_eq_some_iff.mp H
          obtain ⟨t498, A80, H⟩ := H
          replace H : (some t498) = some r := H
          have A8 := Aside0.mk A80
          clear A80
          obtain rfl := Option.some.inj H
          go_enter Try.func8, Try.ntmps8
          go_wp2_with (first | ((with_reducible refine gate_dst (N := 2) rfl ?_); refine box_event ?hg (N := 2) ?hd (cs := #[.int .i64 a0_0, .int .u64 a0_1]) (t := 24) ?hr ?_; (case hd => rfl); (case hg => rfl); (case hr => first | (go_simp; done) | (go_simp; rfl)); intro gb492 hg w9 hbox hb; have nn_ := bT hb hg; have BK492 := Aside0.mk (hbox); have GW492 := Aside0.mk nn_.2; have GE492 := GW492; replace HB := Aside0.mk nn_.1; clear nn_; clear hb hbox hg; have hcz10_0 : w9.cell? ⟨gb492, 0, none⟩ = some (.int .i64 a0_0) := (blk_cell BK492.out 0).trans rfl; have hcz10_1 : w9.cell? ⟨gb492, 1, none⟩ = some (.int .u64 a0_1) := (blk_cell BK492.out 1).trans rfl; have hfz10_0 := blk_frozen BK492.out 0; have hfz10_1 := blk_frozen BK492.out 1) | ((with_reducible refine gate_callee (f := 10) rfl ?_); refine goesL_ (some 20) rfl rfl Try.func10 (by kernel_rfl) rfl #[.agg #[.int .i64 a0_0, .int .u64 a0_1], .int .i64 a1] rfl aG ?_; (with_reducible refine (wide_Div.calls k a0_0 a0_1 a1 t493 t494 t495 t496 _ A3.out).mono ?_); rintro e w11 ⟨rfl, hb⟩; refine ⟨_, rfl, ?_⟩; replace BK492 := Aside0.mk (bK BK492 hb); replace HB := Aside0.mk (bS hb); (try clear hb); (try clear hb2); (try clear hk); (try clear hi)) | ((with_reducible refine gate_dst (N := 5) rfl ?_); refine box_event ?hg (N := 5) ?hd (cs := #[.int .i64 0, .int .u64 0]) (t := 24) ?hr ?_; (case hd => rfl); (case hg => rfl); (case hr => first | (go_simp; done) | (go_simp; rfl)); intro gb497 hg w12 hbox hb; have nn_ := bT hb hg; have bgb492_ := bN BK492 hb hg; have BK497 := Aside0.mk (hbox); have GW497 := Aside0.mk nn_.2; have GE497 := GW497; have NB492_497 := Aside0.mk bgb492_.2.1; have NB497_492 := Aside0.mk bgb492_.2.2; replace BK492 := Aside0.mk bgb492_.1; replace HB := Aside0.mk nn_.1; clear nn_ bgb492_; clear hb hbox hg; have hnb13 := NB497_492.out; have hnc13 := NB492_497.out; have hcz14_0 : w12.cell? ⟨gb497, 0, none⟩ = some (.int .i64 0) := (blk_cell BK497.out 0).trans rfl; have hcz14_1 : w12.cell? ⟨gb497, 1, none⟩ = some (.int .u64 0) := (blk_cell BK497.out 1).trans rfl; have hfz14_0 := blk_frozen BK497.out 0; have hfz14_1 := blk_frozen BK497.out 1) | (go_at_call 12; (with_reducible refine (corebanklaw01_live.calls k  t498 _ A8.out).mono ?_); rintro e w15 ⟨rfl, hb⟩; replace BK492 := Aside0.mk (blk_below (g := gb492) (o := .cells #[.int .i64 a0_0, .int .u64 a0_1] 24 (0, 0)) (by (with_reducible repeat (first | refine blk_drewN ?_ _ | refine blk_drew ?_ | refine blk_alloc ?_ _)); refine blk_far ?_ NB492_497.out _; (with_reducible repeat (first | refine blk_drewN ?_ _ | refine blk_drew ?_ | refine blk_alloc ?_ _)); refine blk_far ?_ NB492_497.out _; (with_reducible repeat (first | refine blk_drewN ?_ _ | refine blk_drew ?_ | refine blk_alloc ?_ _)); exact BK492.out) hb); replace BK497 := Aside0.mk (blk_below (g := gb497) (o := .cells #[.int .i64 t493, .int .u64 t494] 24 (0, 0)) (by (with_reducible repeat (first | refine blk_drewN ?_ _ | refine blk_drew ?_ | refine blk_alloc ?_ _)); refine blk_put (cs := #[.int .i64 t493, .int .u64 0]) ?_ 1 _ rfl; (with_reducible repeat (first | refine blk_drewN ?_ _ | refine blk_drew ?_ | refine blk_alloc ?_ _)); refine blk_put (cs := #[.int .i64 0, .int .u64 0]) ?_ 0 _ rfl; (with_reducible repeat (first | refine blk_drewN ?_ _ | refine blk_drew ?_ | refine blk_alloc ?_ _)); exact BK497.out) hb); replace HB := Aside0.mk (bS hb); (try clear hb); (try clear hb2); (try clear hk); (try clear hi)))
          go_ret
          exact ⟨by first | rfl | (simp [errW_none, errW_some] <;> rfl) | (simp [*, errW_none, errW_some] <;> rfl), bE⟩
        · rw [if_neg c7] at H
          exact absurd H (by simp)
      · rw [if_neg c6] at H
        exact absurd H (by simp)
    · rw [if_neg c5] at H
      exact absurd H (by simp)
  · rw [if_neg c4] at H
    have c4b0 : decide (a1 < 1) = false := decide_eq_false c4
    clear c4
    have HC16 := Aside0.mk H
    clear H
    go_enter Try.func8, Try.ntmps8
    go_upto_region 4 with (first | ((with_reducible refine gate_dst (N := 2) rfl ?_); refine box_event ?hg (N := 2) ?hd (cs := #[.int .i64 a0_0, .int .u64 a0_1]) (t := 24) ?hr ?_; (case hd => rfl); (case hg => rfl); (case hr => first | (go_simp; done) | (go_simp; rfl)); intro gb492 hg w17 hbox hb; have nn_ := bT hb hg; have BK492 := Aside0.mk (hbox); have GW492 := Aside0.mk nn_.2; have GE492 := GW492; replace HB := Aside0.mk nn_.1; clear nn_; clear hb hbox hg; have hcz18_0 : w17.cell? ⟨gb492, 0, none⟩ = some (.int .i64 a0_0) := (blk_cell BK492.out 0).trans rfl; have hcz18_1 : w17.cell? ⟨gb492, 1, none⟩ = some (.int .u64 a0_1) := (blk_cell BK492.out 1).trans rfl; have hfz18_0 := blk_frozen BK492.out 0; have hfz18_1 := blk_frozen BK492.out 1) | ((with_reducible refine gate_callee (f := 10) rfl ?_); refine goesL_ (some 20) rfl rfl Try.func10 (by kernel_rfl) rfl #[.agg #[.int .i64 a0_0, .int .u64 a0_1], .int .i64 a1] rfl aG ?_; (with_reducible refine (wide_Div.calls k a0_0 a0_1 a1 t493 t494 t495 t496 _ A3.out).mono ?_); rintro e w19 ⟨rfl, hb⟩; refine ⟨_, rfl, ?_⟩; replace BK492 := Aside0.mk (bK BK492 hb); replace HB := Aside0.mk (bS hb); (try clear hb); (try clear hb2); (try clear hk); (try clear hi)) | ((with_reducible refine gate_dst (N := 5) rfl ?_); refine box_event ?hg (N := 5) ?hd (cs := #[.int .i64 0, .int .u64 0]) (t := 24) ?hr ?_; (case hd => rfl); (case hg => rfl); (case hr => first | (go_simp; done) | (go_simp; rfl)); intro gb497 hg w20 hbox hb; have nn_ := bT hb hg; have bgb492_ := bN BK492 hb hg; have BK497 := Aside0.mk (hbox); have GW497 := Aside0.mk nn_.2; have GE497 := GW497; have NB492_497 := Aside0.mk bgb492_.2.1; have NB497_492 := Aside0.mk bgb492_.2.2; replace BK492 := Aside0.mk bgb492_.1; replace HB := Aside0.mk nn_.1; clear nn_ bgb492_; clear hb hbox hg; have hnb21 := NB497_492.out; have hnc21 := NB492_497.out; have hcz22_0 : w20.cell? ⟨gb497, 0, none⟩ = some (.int .i64 0) := (blk_cell BK497.out 0).trans rfl; have hcz22_1 : w20.cell? ⟨gb497, 1, none⟩ = some (.int .u64 0) := (blk_cell BK497.out 1).trans rfl; have hfz22_0 := blk_frozen BK497.out 0; have hfz22_1 := blk_frozen BK497.out 1))
    (try simp only [Act.put, List.setIfInBounds_toArray, List.set_cons_zero, List.set_cons_succ])
    go_cut [50] (fun v50 wc => ∃ (kq : Nat) (x50_15 : Bool), v50 = .bool x50_15 ∧ Aside0 (corebanklaw01_WideDivides.j0 kq a1 t495 x50_15 a0_0 a0_1 t493 t494 = some r) ∧ Aside0 (kq ≤ k) ∧ Aside0 (wc.heap[gb492]? = some (.cells #[.int .i64 a0_0, .int .u64 a0_1] 24 (0, 0))) ∧ Aside0 (wc.heap[gb497]? = some (.cells #[.int .i64 t493, .int .u64 t494] 24 (0, 0))) ∧ Aside0 (Below w.heap.size w wc))
    case first =>
      have H := HC16.out
      clear HC16
      by_cases c23 : t496 = 0
      · rw [if_pos c23] at H
        have c23b0 : (t496 == 0) = true := beq_iff_eq.mpr c23
        have c23b1 : (t496 != 0) = false := bne_eq_false_iff_eq.mpr c23
        clear c23
        (first | rw [c23b0] | (simp only [i64_w, i32_w]; rw [c23b0]) | skip)
        by_cases c24 : t495 < 0
        · rw [if_pos c24] at H
          have c24b0 : decide (t495 < 0) = true := decide_eq_true c24
          clear c24
          have H' := Aside0.mk H
          clear H
          go_wp2
          go_meet
          case rel => exact ⟨_, (true), (by first | rfl | (simp; done) | (simp [*]; done)), H', ⟨by first | omega | exact Nat.le_refl _⟩, ⟨by (with_reducible repeat (first | refine blk_drewN ?_ _ | refine blk_drew ?_ | refine blk_alloc ?_ _)); refine blk_far ?_ NB492_497.out _; (with_reducible repeat (first | refine blk_drewN ?_ _ | refine blk_drew ?_ | refine blk_alloc ?_ _)); refine blk_far ?_ NB492_497.out _; (with_reducible repeat (first | refine blk_drewN ?_ _ | refine blk_drew ?_ | refine blk_alloc ?_ _)); exact BK492.out⟩, ⟨by (with_reducible repeat (first | refine blk_drewN ?_ _ | refine blk_drew ?_ | refine blk_alloc ?_ _)); refine blk_put (cs := #[.int .i64 t493, .int .u64 0]) ?_ 1 _ rfl; (with_reducible repeat (first | refine blk_drewN ?_ _ | refine blk_drew ?_ | refine blk_alloc ?_ _)); refine blk_put (cs := #[.int .i64 0, .int .u64 0]) ?_ 0 _ rfl; (with_reducible repeat (first | refine blk_drewN ?_ _ | refine blk_drew ?_ | refine blk_alloc ?_ _)); exact BK497.out⟩, ⟨bE⟩⟩
        · rw [if_neg c24] at H
          have c24b0 : decide (t495 < 0) = false := decide_eq_false c24
          clear c24
          have H' := Aside0.mk H
          clear H
          go_wp2
          go_meet
          case rel => exact ⟨_, (decide (t495 ≥ a1)), (by first | rfl | (simp; done) | (simp [*]; done)), H', ⟨by first | omega | exact Nat.le_refl _⟩, ⟨by (with_reducible repeat (first | refine blk_drewN ?_ _ | refine blk_drew ?_ | refine blk_alloc ?_ _)); refine blk_far ?_ NB492_497.out _; (with_reducible repeat (first | refine blk_drewN ?_ _ | refine blk_drew ?_ | refine blk_alloc ?_ _)); refine blk_far ?_ NB492_497.out _; (with_reducible repeat (first | refine blk_drewN ?_ _ | refine blk_drew ?_ | refine blk_alloc ?_ _)); exact BK492.out⟩, ⟨by (with_reducible repeat (first | refine blk_drewN ?_ _ | refine blk_drew ?_ | refine blk_alloc ?_ _)); refine blk_put (cs := #[.int .i64 t493, .int .u64 0]) ?_ 1 _ rfl; (with_reducible repeat (first | refine blk_drewN ?_ _ | refine blk_drew ?_ | refine blk_alloc ?_ _)); refine blk_put (cs := #[.int .i64 0, .int .u64 0]) ?_ 0 _ rfl; (with_reducible repeat (first | refine blk_drewN ?_ _ | refine blk_drew ?_ | refine blk_alloc ?_ _)); exact BK497.out⟩, ⟨bE⟩⟩
      · rw [if_neg c23] at H
        have c23b0 : (t496 == 0) = false := beq_eq_false_iff_ne.mpr c23
        have c23b1 : (t496 != 0) = true := bne_iff_ne.mpr c23
        (first | rw [c23b0] | (simp only [i64_w, i32_w]; rw [c23b0]) | skip)
        have H' := Aside0.mk H
        clear H
        go_wp2
        go_meet
        case rel => exact ⟨_, (true), (by first | rfl | (simp; done) | (simp [*]; done)), H', ⟨by first | omega | exact Nat.le_refl _⟩, ⟨by (with_reducible repeat (first | refine blk_drewN ?_ _ | refine blk_drew ?_ | refine blk_alloc ?_ _)); refine blk_far ?_ NB492_497.out _; (with_reducible repeat (first | refine blk_drewN ?_ _ | refine blk_drew ?_ | refine blk_alloc ?_ _)); refine blk_far ?_ NB492_497.out _; (with_reducible repeat (first | refine blk_drewN ?_ _ | refine blk_drew ?_ | refine blk_alloc ?_ _)); exact BK492.out⟩, ⟨by (with_reducible repeat (first | refine blk_drewN ?_ _ | refine blk_drew ?_ | refine blk_alloc ?_ _)); refine blk_put (cs := #[.int .i64 t493, .int .u64 0]) ?_ 1 _ rfl; (with_reducible repeat (first | refine blk_drewN ?_ _ | refine blk_drew ?_ | refine blk_alloc ?_ _)); refine blk_put (cs := #[.int .i64 0, .int .u64 0]) ?_ 0 _ rfl; (with_reducible repeat (first | refine blk_drewN ?_ _ | refine blk_drew ?_ | refine blk_alloc ?_ _)); exact BK497.out⟩, ⟨bE⟩⟩
    case rest =>
      clear HC16
      try clear c1
      try clear c2
      try clear p2
      try clear c4
      try clear c4b0
      try clear c5
      try clear c5b0
      try clear c5b1
      try clear c6
      try clear c6b0
      try clear c6b1
      try clear c6b2
      try clear c7
      try clear c7b0
      try clear c7b1
      try clear c8
      try clear c10
      try clear c13
      try clear c21
      try clear c23
      try clear c23b0
      try clear c23b1
      try clear c24
      try clear c24b0
      try clear hcz10_0
      try clear hcz10_1
      try clear hcz14_0
      try clear hcz14_1
      try clear hcz18_0
      try clear hcz18_1
      try clear hcz22_0
      try clear hcz22_1
      try clear hfz10_0
      try clear hfz10_1
      try clear hfz14_0
      try clear hfz14_1
      try clear hfz18_0
      try clear hfz18_1
      try clear hfz22_0
      try clear hfz22_1
      obtain ⟨kq, x50_15, rfl, HA, HJ15, BK492, BK497, HB⟩ := hcut
      cases kq with
      | zero => exact absurd HA.out (by simp [corebanklaw01_WideDivides.j0])
      | succ kj15 =>
        have H := HA.out
        clear HA
        simp only [corebanklaw01_WideDivides.j0] at H
        by_cases c25 : x50_15 = true
        · subst c25
          have H1 : (none) = some r := by rw [if_pos rfl] at H; exact H
          clear H
          have H := H1
          clear H1
          exact absurd H (by simp)
        · replace c25 := Bool.eq_false_iff.mpr c25
          subst c25
          have H1 : ((wide_Scale.f kj15 t493 t494 a1).bind fun bt499 => (if bt499.2.2 = 0 then ((wide_Of.f t495).bind fun bt503 => ((wide_Add.f bt499.1 bt499.2.1 bt503.1 bt503.2).bind fun bt505 => (if bt505.2.2 = 0 then (if (bt505.1 == a0_0 && (bt505.2.1 == a0_1)) = true then ((corebanklaw01_live.f kj15).bind fun t509 => (some t509)) else (none)) else (none)))) else ((wide_Of.f 1).bind fun bt510 => ((wide_Add.f t493 t494 bt510.1 bt510.2).bind fun bt512 => ((wide_Scale.f kj15 bt512.1 bt512.2.1 a1).bind fun bt516 => ((wide_Of.f (wrap64 (a1 - t495))).bind fun bt519 => ((wide_Sub.f bt516.1 bt516.2.1 bt519.1 bt519.2).bind fun bt521 => (if a0_0 < 0 then (if t495 > 0 then (if bt512.2.2 = 0 then (if bt516.2.2 = 0 then (if bt521.2.2 = 0 then (if (bt521.1 == a0_0 && (bt521.2.1 == a0_1)) = true then ((corebanklaw01_live.f kj15).bind fun t525 => (some t525)) else (none)) else (none)) else (none)) else (none)) else (none)) else (none))))))))) = some r := by rw [if_neg (show ¬ (false = true) by decide)] at H; exact H
          clear H
          have H := H1
          clear H1
          replace H := Option.bind_eq_some_iff.mp H
          obtain ⟨⟨t499, t500, t501⟩, A260, H⟩ := H
          replace H : (if t501 = 0 then ((wide_Of.f t495).bind fun bt503 => ((wide_Add.f t499 t500 bt503.1 bt503.2).bind fun bt505 => (if bt505.2.2 = 0 then (if (bt505.1 == a0_0 && (bt505.2.1 == a0_1)) = true then ((corebanklaw01_live.f kj15).bind fun t509 => (some t509)) else (none)) else (none)))) else ((wide_Of.f 1).bind fun bt510 => ((wide_Add.f t493 t494 bt510.1 bt510.2).bind fun bt512 => ((wide_Scale.f kj15 bt512.1 bt512.2.1 a1).bind fun bt516 => ((wide_Of.f (wrap64 (a1 - t495))).bind fun bt519 => ((wide_Sub.f bt516.1 bt516.2.1 bt519.1 bt519.2).bind fun bt521 => (if a0_0 < 0 then (if t495 > 0 then (if bt512.2.2 = 0 then (if bt516.2.2 = 0 then (if bt521.2.2 = 0 then (if (bt521.1 == a0_0 && (bt521.2.1 == a0_1)) = true then ((corebanklaw01_live.f kj15).bind fun t525 => (some t525)) else (none)) else (none)) else (none)) else (none)) else (none)) else (none)))))))) = some r := H
          have A26 := Aside0.mk A260
          clear A260
          by_cases c27 : t501 = 0
          · rw [if_pos c27] at H
            have c27b0 : (t501 == 0) = true := beq_iff_eq.mpr c27
            have c27b1 : (t501 != 0) = false := bne_eq_false_iff_eq.mpr c27
            clear c27
            replace H := Option.bind_eq_some_iff.mp H
            obtain ⟨⟨t503, t504⟩, A280, H⟩ := H
            replace H : ((wide_Add.f t499 t500 t503 t504).bind fun bt505 => (if bt505.2.2 = 0 then (if (bt505.1 == a0_0 && (bt505.2.1 == a0_1)) = true then ((corebanklaw01_live.f kj15).bind fun t509 => (some t509)) else (none)) else (none))) = some r := H
            have A28 := Aside0.mk A280
            clear A280
            replace H := Option.bind_eq_some_iff.mp H
            obtain ⟨⟨t505, t506, t507⟩, A290, H⟩ := H
            replace H : (if t507 = 0 then (if (t505 == a0_0 && (t506 == a0_1)) = true then ((corebanklaw01_live.f kj15).bind fun t509 => (some t509)) else (none)) else (none)) = some r := H
            have A29 := Aside0.mk A290
            clear A290
            by_cases c30 : t507 = 0
            · rw [if_pos c30] at H
              have c30b0 : (t507 == 0) = true := beq_iff_eq.mpr c30
              have c30b1 : (t507 != 0) = false := bne_eq_false_iff_eq.mpr c30
              clear c30
              by_cases c31 : (t505 == a0_0 && (t506 == a0_1)) = true
              · rw [if_pos c31] at H
                have c31b0 : (t505 == a0_0 && (t506 == a0_1)) = true := c31
                (try (have c31b1 : decide (t505 = a0_0 && (t506 == a0_1)) = true := by simpa using c31))
                (try (have c31b2 : (t505 == a0_0 && (t506 == a0_1)) = true := by simpa using c31))
                clear c31
                replace H := Option.bind_eq_some_iff.mp H
                obtain ⟨t509, A320, H⟩ := H
                replace H : (some t509) = some r := H
                have A32 := Aside0.mk A320
                clear A320
                obtain rfl := Option.some.inj H
                have hnb33 := NB497_492.out
                have hnc33 := NB492_497.out
                have hcz34_0 : wc.cell? ⟨gb497, 0, none⟩ = some (.int .i64 t493) := (blk_cell BK497.out 0).trans rfl
                have hcz34_1 : wc.cell? ⟨gb497, 1, none⟩ = some (.int .u64 t494) := (blk_cell BK497.out 1).trans rfl
                have hfz34_0 := blk_frozen BK497.out 0
                have hfz34_1 := blk_frozen BK497.out 1
                try go_wp2_with (first | ((with_reducible refine gate_callee (f := 17) rfl ?_); refine goesL_ (some 54) rfl rfl Try.func17 (by kernel_rfl) rfl #[.agg #[.int .i64 t493, .int .u64 t494], .int .i64 a1] rfl aG ?_; (with_reducible refine (wide_Scale.calls kj15 t493 t494 a1 t499 t500 t501 _ A26.out).mono ?_); rintro e w35 ⟨rfl, hb⟩; refine ⟨_, rfl, ?_⟩; replace BK492 := Aside0.mk (bK BK492 hb); replace BK497 := Aside0.mk (bK BK497 hb); replace HB := Aside0.mk (bS hb); (try clear hb); (try clear hb2); (try clear hk); (try clear hi)) | ((with_reducible refine gate_dst (N := 8) rfl ?_); refine box_event ?hg (N := 8) ?hd (cs := #[.int .i64 0, .int .u64 0]) (t := 24) ?hr ?_; (case hd => rfl); (case hg => rfl); (case hr => first | (go_simp; done) | (go_simp; rfl)); intro gb502 hg w36 hbox hb; have nn_ := bT hb hg; have bgb492_ := bN BK492 hb hg; have bgb497_ := bN BK497 hb hg; have BK502 := Aside0.mk (hbox); have GW502 := Aside0.mk nn_.2; have GE502 := GW502; have NB492_502 := Aside0.mk bgb492_.2.1; have NB502_492 := Aside0.mk bgb492_.2.2; have NB497_502 := Aside0.mk bgb497_.2.1; have NB502_497 := Aside0.mk bgb497_.2.2; replace BK492 := Aside0.mk bgb492_.1; replace BK497 := Aside0.mk bgb497_.1; replace HB := Aside0.mk nn_.1; clear nn_ bgb492_ bgb497_; clear hb hbox hg; have hnb37 := NB502_492.out; have hnc37 := NB492_502.out; have hnb38 := NB502_497.out; have hnc38 := NB497_502.out; have hcz39_0 : w36.cell? ⟨gb502, 0, none⟩ = some (.int .i64 0) := (blk_cell BK502.out 0).trans rfl; have hcz39_1 : w36.cell? ⟨gb502, 1, none⟩ = some (.int .u64 0) := (blk_cell BK502.out 1).trans rfl; have hfz39_0 := blk_frozen BK502.out 0; have hfz39_1 := blk_frozen BK502.out 1))
                have n0_ : Aside0 (((w36.setCell ⟨gb502, 0, none⟩ (.int .i64 t499)).setCell ⟨gb502, 1, none⟩ (.int .u64 t500)).heap[gb492]? = some (.cells #[.int .i64 a0_0, .int .u64 a0_1] 24 (0, 0))) := ⟨by (with_reducible repeat (first | refine blk_drewN ?_ _ | refine blk_drew ?_ | refine blk_alloc ?_ _)); refine blk_far ?_ NB492_502.out _; (with_reducible repeat (first | refine blk_drewN ?_ _ | refine blk_drew ?_ | refine blk_alloc ?_ _)); refine blk_far ?_ NB492_502.out _; (with_reducible repeat (first | refine blk_drewN ?_ _ | refine blk_drew ?_ | refine blk_alloc ?_ _)); exact BK492.out⟩
                have n1_ : Aside0 (((w36.setCell ⟨gb502, 0, none⟩ (.int .i64 t499)).setCell ⟨gb502, 1, none⟩ (.int .u64 t500)).heap[gb497]? = some (.cells #[.int .i64 t493, .int .u64 t494] 24 (0, 0))) := ⟨by (with_reducible repeat (first | refine blk_drewN ?_ _ | refine blk_drew ?_ | refine blk_alloc ?_ _)); refine blk_far ?_ NB497_502.out _; (with_reducible repeat (first | refine blk_drewN ?_ _ | refine blk_drew ?_ | refine blk_alloc ?_ _)); refine blk_far ?_ NB497_502.out _; (with_reducible repeat (first | refine blk_drewN ?_ _ | refine blk_drew ?_ | refine blk_alloc ?_ _)); exact BK497.out⟩
                have n2_ : Aside0 (((w36.setCell ⟨gb502, 0, none⟩ (.int .i64 t499)).setCell ⟨gb502, 1, none⟩ (.int .u64 t500)).heap[gb502]? = some (.cells #[.int .i64 t499, .int .u64 t500] 24 (0, 0))) := ⟨by (with_reducible repeat (first | refine blk_drewN ?_ _ | refine blk_drew ?_ | refine blk_alloc ?_ _)); refine blk_put (cs := #[.int .i64 t499, .int .u64 0]) ?_ 1 _ rfl; (with_reducible repeat (first | refine blk_drewN ?_ _ | refine blk_drew ?_ | refine blk_alloc ?_ _)); refine blk_put (cs := #[.int .i64 0, .int .u64 0]) ?_ 0 _ rfl; (with_reducible repeat (first | refine blk_drewN ?_ _ | refine blk_drew ?_ | refine blk_alloc ?_ _)); exact BK502.out⟩
                have n3_ : Aside0 (Below w.heap.size w ((w36.setCell ⟨gb502, 0, none⟩ (.int .i64 t499)).setCell ⟨gb502, 1, none⟩ (.int .u64 t500))) := ⟨bE⟩
                (try clear BK492)
                (try clear BK497)
                (try clear BK502)
                (try clear HB)
                generalize ((w36.setCell ⟨gb502, 0, none⟩ (.int .i64 t499)).setCell ⟨gb502, 1, none⟩ (.int .u64 t500)) = w40 at n0_ n1_ n2_ n3_ ⊢
                have BK492 := n0_
                have BK497 := n1_
                have BK502 := n2_
                have HB := n3_
                clear n0_ n1_ n2_ n3_
                have n0_ := Aside0.mk (blk_drew BK492.out)
                have n1_ := Aside0.mk (blk_drew BK497.out)
                have n2_ := Aside0.mk (blk_drew BK502.out)
                have n3_ := Aside0.mk (below_drew1 HB.out)
                clear BK492
                clear BK497
                clear BK502
                clear HB
                have BK492 := n0_
                have BK497 := n1_
                have BK502 := n2_
                have HB := n3_
                clear n0_ n1_ n2_ n3_
                refine start_ (n := 10) (S := fun w' => w'.cell? ⟨gb502, 0, none⟩ = some (.int .i64 t499) ∧ w'.cell? ⟨gb502, 1, none⟩ = some (.int .u64 t500)) (ds := []) #[false, false, false, false, false, false, false, false, false, false] (by kernel_rfl) rfl rfl ⟨(blk_cell BK502.out 0).trans rfl, (blk_cell BK502.out 1).trans rfl⟩ (fun hHeld => ?_); refine with_tabW corebanklaw01_WideDivides.tab8 corebanklaw01_WideDivides.bits8 (fun HT_ HW_ => ?_)
                generalize w40.drew = w41 at BK492 BK497 BK502 HB hHeld ⊢
                refine pure_ (i := 1) (N := some 61) (v := ?_) (a' := ?_) #[false, true, false, false, false, false, false, false, false, false] rfl rfl (any_of HT_.out (by kernel_rfl)) (fun _ _ _ h => h) (Or.inl ⟨by rfl, ?_⟩) ?_ ?_
                rotate_left
                · intro w'
                  go_simp
                  with_reducible rfl
                rotate_left
                · simp only [Act.put, List.setIfInBounds_toArray, List.set_cons_zero, List.set_cons_succ, i64_w, i32_w]
                  rfl
                refine take_ (i := 0) (N := some 60) (v := ?_) (a' := ?_) #[true, true, false, false, false, false, false, false, false, false] rfl rfl (take_ofW HT_.out HW_.out (by kernel_rfl)) (fun _ _ _ h => h) (Or.inl ⟨by rfl, ?_⟩) hHeld ?_ ?_
                rotate_left
                · rintro w' ⟨s0, s1⟩
                  go_simp
                  with_reducible rfl
                rotate_left
                · simp only [Act.put, List.setIfInBounds_toArray, List.set_cons_zero, List.set_cons_succ, i64_w, i32_w]
                  rfl
                refine join_ (σ := Nat) 2 #[true, true, true, true, true, true, true, true, false, false] (fun s_ => [(62, .agg #[.int .i64 t503, .int .u64 t504]), (63, .tuple #[.agg #[.int .i64 t505, .int .u64 t506], .int .i64 t507]), (10, .pointer (some ⟨s_, 0, none⟩)), (59, .tuple #[.agg #[.int .i64 t505, .int .u64 t506], .int .i64 t507]), (64, .agg #[.int .i64 t505, .int .u64 t506]), (65, .int .i64 t507)]) (fun s_ w' => (w'.cell? ⟨gb502, 0, none⟩ = some (.int .i64 t499) ∧ w'.cell? ⟨gb502, 1, none⟩ = some (.int .u64 t500)) ∧ (w'.heap[gb492]? = some (.cells #[.int .i64 a0_0, .int .u64 a0_1] 24 (0, 0))) ∧ (w'.heap[gb497]? = some (.cells #[.int .i64 t493, .int .u64 t494] 24 (0, 0))) ∧ (w'.heap[gb502]? = some (.cells #[.int .i64 t499, .int .u64 t500] 24 (0, 0))) ∧ (w'.heap[s_]? = some (.cells #[.int .i64 0, .int .u64 0] 24 (0, 0))) ∧ (w.heap.size ≤ s_) ∧ (w.heap.size ≤ s_) ∧ (gb492 ≠ s_) ∧ (s_ ≠ gb492) ∧ (gb497 ≠ s_) ∧ (s_ ≠ gb497) ∧ (gb502 ≠ s_) ∧ (s_ ≠ gb502) ∧ (Below w.heap.size w w')) ?_ ?_
                rotate_left
                · intro hCont
                  refine two_ (i := 2) (j := 7) (Ni := some 62) (Nj := some 10) #[true, true, true, false, false, false, false, false, false, false] #[true, true, false, false, false, false, false, true, false, false] rfl rfl rfl rfl (two_of HT_.out (by kernel_rfl)) (by decide) (by decide) (fun K hK => ?_) (fun K hK => ?_)
                  · skip
                    refine goes_ Try.func23 (by kernel_rfl) rfl #[.int .i64 t495] (by rfl) rfl rfl aG ?_
                    with_reducible refine (wide_Of.calls t495 t503 t504 _ A28.out).mono ?_
                    rintro e w42 ⟨rfl, hb⟩
                    refine ⟨_, rfl, ?_⟩
                    have n0_ := Aside0.mk (bK BK492 hb)
                    have n1_ := Aside0.mk (bK BK497 hb)
                    have n2_ := Aside0.mk (bK BK502 hb)
                    have n3_ := Aside0.mk (bS hb)
                    clear BK492
                    clear BK497
                    clear BK502
                    clear HB
                    have BK492 := n0_
                    have BK497 := n1_
                    have BK502 := n2_
                    have HB := n3_
                    clear n0_ n1_ n2_ n3_
                    (try clear hb)
                    (try clear hb2)
                    (try clear hk)
                    (try clear hi)
                    refine hK.out _ _ ⟨(blk_cell BK502.out 0).trans rfl, (blk_cell BK502.out 1).trans rfl⟩ (fun hHeld => ?_)
                    clear hK K
                    refine norm_ (a' := ?_) ?_ ?_
                    rotate_left
                    · show Act.put _ (some 62) _ = _
                      simp only [Act.put, List.setIfInBounds_toArray, List.set_cons_zero, List.set_cons_succ, i64_w, i32_w]
                      rfl
                    refine two_ (i := 3) (j := 7) (Ni := some 63) (Nj := some 10) #[true, true, true, true, false, false, false, false, false, false] #[true, true, true, false, false, false, false, true, false, false] rfl rfl rfl rfl (two_of HT_.out (by kernel_rfl)) (by decide) (by decide) (fun K hK => ?_) (fun K hK => ?_)
                    · skip
                      refine goes_ Try.func25 (by kernel_rfl) rfl #[.agg #[.int .i64 t499, .int .u64 t500], .agg #[.int .i64 t503, .int .u64 t504]] (by rfl) rfl rfl aG ?_
                      with_reducible refine (wide_Add.calls t499 t500 t503 t504 t505 t506 t507 _ A29.out).mono ?_
                      rintro e w43 ⟨rfl, hb⟩
                      refine ⟨_, rfl, ?_⟩
                      have n0_ := Aside0.mk (bK BK492 hb)
                      have n1_ := Aside0.mk (bK BK497 hb)
                      have n2_ := Aside0.mk (bK BK502 hb)
                      have n3_ := Aside0.mk (bS hb)
                      clear BK492
                      clear BK497
                      clear BK502
                      clear HB
                      have BK492 := n0_
                      have BK497 := n1_
                      have BK502 := n2_
                      have HB := n3_
                      clear n0_ n1_ n2_ n3_
                      (try clear hb)
                      (try clear hb2)
                      (try clear hk)
                      (try clear hi)
                      refine hK.out _ _ ⟨(blk_cell BK502.out 0).trans rfl, (blk_cell BK502.out 1).trans rfl⟩ (fun hHeld => ?_)
                      clear hK K
                      refine norm_ (a' := ?_) ?_ ?_
                      rotate_left
                      · show Act.put _ (some 63) _ = _
                        simp only [Act.put, List.setIfInBounds_toArray, List.set_cons_zero, List.set_cons_succ, i64_w, i32_w]
                        rfl
                      refine pure_ (i := 4) (N := some 59) (v := ?_) (a' := ?_) #[true, true, true, true, true, false, false, false, false, false] rfl rfl (any_of HT_.out (by kernel_rfl)) (fun _ _ _ h => h) (Or.inl ⟨by rfl, ?_⟩) ?_ ?_
                      rotate_left
                      · intro w'
                        go_simp
                        with_reducible rfl
                      rotate_left
                      · simp only [Act.put, List.setIfInBounds_toArray, List.set_cons_zero, List.set_cons_succ, i64_w, i32_w]
                        rfl
                      refine pure_ (i := 5) (N := some 64) (v := ?_) (a' := ?_) #[true, true, true, true, true, true, false, false, false, false] rfl rfl (any_of HT_.out (by kernel_rfl)) (fun _ _ _ h => h) (Or.inl ⟨by rfl, ?_⟩) ?_ ?_
                      rotate_left
                      · intro w'
                        go_simp
                        with_reducible rfl
                      rotate_left
                      · simp only [Act.put, List.setIfInBounds_toArray, List.set_cons_zero, List.set_cons_succ, i64_w, i32_w]
                        rfl
                      refine pure_ (i := 6) (N := some 65) (v := ?_) (a' := ?_) #[true, true, true, true, true, true, true, false, false, false] rfl rfl (any_of HT_.out (by kernel_rfl)) (fun _ _ _ h => h) (Or.inl ⟨by rfl, ?_⟩) ?_ ?_
                      rotate_left
                      · intro w'
                        go_simp
                        with_reducible rfl
                      rotate_left
                      · simp only [Act.put, List.setIfInBounds_toArray, List.set_cons_zero, List.set_cons_succ, i64_w, i32_w]
                        rfl
                      refine one_ (i := 7) (N := some 10) #[true, true, true, true, true, true, true, true, false, false] rfl rfl (one_of HT_.out (by kernel_rfl)) (by decide) (fun K hK => ?_)
                      refine box_step ?hg (N := 10) ?hd (cs := #[.int .i64 0, .int .u64 0]) (t := 24) ?hr ?_; (case hd => rfl); (case hg => rfl); (case hr => first | (go_simp; done) | (go_simp; rfl))
                      intro gb508 hg w44 hbox hb
                      have n0_ := Aside0.mk (bK BK492 hb)
                      have n1_ := Aside0.mk (bK BK497 hb)
                      have n2_ := Aside0.mk (bK BK502 hb)
                      have n3_ := Aside0.mk (bS hb)
                      have n4_ := Aside0.mk (hbox)
                      have n5_ := Aside0.mk ((by rw [hg]; exact (below_size (bE)) : w.heap.size ≤ gb508))
                      have n6_ := Aside0.mk ((by rw [hg]; exact (below_size (bE)) : w.heap.size ≤ gb508))
                      have n7_ := Aside0.mk ((by rw [hg]; exact Nat.ne_of_lt (blk_lt (g := gb492) (o := .cells #[.int .i64 a0_0, .int .u64 a0_1] 24 (0, 0)) (by (with_reducible repeat (first | refine blk_drewN ?_ _ | refine blk_drew ?_ | refine blk_alloc ?_ _)); exact BK492.out)) : gb492 ≠ gb508))
                      have n8_ := Aside0.mk ((by rw [hg]; exact Nat.ne_of_gt (blk_lt (g := gb492) (o := .cells #[.int .i64 a0_0, .int .u64 a0_1] 24 (0, 0)) (by (with_reducible repeat (first | refine blk_drewN ?_ _ | refine blk_drew ?_ | refine blk_alloc ?_ _)); exact BK492.out)) : gb508 ≠ gb492))
                      have n9_ := Aside0.mk ((by rw [hg]; exact Nat.ne_of_lt (blk_lt (g := gb497) (o := .cells #[.int .i64 t493, .int .u64 t494] 24 (0, 0)) (by (with_reducible repeat (first | refine blk_drewN ?_ _ | refine blk_drew ?_ | refine blk_alloc ?_ _)); exact BK497.out)) : gb497 ≠ gb508))
                      have n10_ := Aside0.mk ((by rw [hg]; exact Nat.ne_of_gt (blk_lt (g := gb497) (o := .cells #[.int .i64 t493, .int .u64 t494] 24 (0, 0)) (by (with_reducible repeat (first | refine blk_drewN ?_ _ | refine blk_drew ?_ | refine blk_alloc ?_ _)); exact BK497.out)) : gb508 ≠ gb497))
                      have n11_ := Aside0.mk ((by rw [hg]; exact Nat.ne_of_lt (blk_lt (g := gb502) (o := .cells #[.int .i64 t499, .int .u64 t500] 24 (0, 0)) (by (with_reducible repeat (first | refine blk_drewN ?_ _ | refine blk_drew ?_ | refine blk_alloc ?_ _)); exact BK502.out)) : gb502 ≠ gb508))
                      have n12_ := Aside0.mk ((by rw [hg]; exact Nat.ne_of_gt (blk_lt (g := gb502) (o := .cells #[.int .i64 t499, .int .u64 t500] 24 (0, 0)) (by (with_reducible repeat (first | refine blk_drewN ?_ _ | refine blk_drew ?_ | refine blk_alloc ?_ _)); exact BK502.out)) : gb508 ≠ gb502))
                      clear BK492
                      clear BK497
                      clear BK502
                      clear HB
                      have BK492 := n0_
                      have BK497 := n1_
                      have BK502 := n2_
                      have HB := n3_
                      have BK508 := n4_
                      have GW508 := n5_
                      have GE508 := n6_
                      have NB492_508 := n7_
                      have NB508_492 := n8_
                      have NB497_508 := n9_
                      have NB508_497 := n10_
                      have NB502_508 := n11_
                      have NB508_502 := n12_
                      clear n0_ n1_ n2_ n3_ n4_ n5_ n6_ n7_ n8_ n9_ n10_ n11_ n12_
                      clear hb hbox hg
                      refine hK.out _ _ ⟨(blk_cell BK502.out 0).trans rfl, (blk_cell BK502.out 1).trans rfl⟩ (fun hHeld => ?_)
                      clear hK K
                      refine norm_ (a' := ?_) ?_ ?_
                      rotate_left
                      · show Act.put _ (some 10) _ = _
                        simp only [Act.put, List.setIfInBounds_toArray, List.set_cons_zero, List.set_cons_succ, i64_w, i32_w]
                        rfl
                      exact norm_ (by simp only [putAll, Act.put, List.setIfInBounds_toArray, List.set_cons_zero, List.set_cons_succ]) (hCont (gb508) _ ⟨hHeld, (by (with_reducible repeat (first | refine blk_drewN ?_ _ | refine blk_drew ?_ | refine blk_alloc ?_ _)); exact BK492.out), (by (with_reducible repeat (first | refine blk_drewN ?_ _ | refine blk_drew ?_ | refine blk_alloc ?_ _)); exact BK497.out), (by (with_reducible repeat (first | refine blk_drewN ?_ _ | refine blk_drew ?_ | refine blk_alloc ?_ _)); exact BK502.out), (by (with_reducible repeat (first | refine blk_drewN ?_ _ | refine blk_drew ?_ | refine blk_alloc ?_ _)); exact BK508.out), GW508.out, GE508.out, NB492_508.out, NB508_492.out, NB497_508.out, NB508_497.out, NB502_508.out, NB508_502.out, (bE)⟩)
                    · skip
                      refine box_step ?hg (N := 10) ?hd (cs := #[.int .i64 0, .int .u64 0]) (t := 24) ?hr ?_; (case hd => rfl); (case hg => rfl); (case hr => first | (go_simp; done) | (go_simp; rfl))
                      intro gb508 hg w43 hbox hb
                      have n0_ := Aside0.mk (bK BK492 hb)
                      have n1_ := Aside0.mk (bK BK497 hb)
                      have n2_ := Aside0.mk (bK BK502 hb)
                      have n3_ := Aside0.mk (bS hb)
                      have n4_ := Aside0.mk (hbox)
                      have n5_ := Aside0.mk ((by rw [hg]; exact (below_size (bE)) : w.heap.size ≤ gb508))
                      have n6_ := Aside0.mk ((by rw [hg]; exact (below_size (bE)) : w.heap.size ≤ gb508))
                      have n7_ := Aside0.mk ((by rw [hg]; exact Nat.ne_of_lt (blk_lt (g := gb492) (o := .cells #[.int .i64 a0_0, .int .u64 a0_1] 24 (0, 0)) (by (with_reducible repeat (first | refine blk_drewN ?_ _ | refine blk_drew ?_ | refine blk_alloc ?_ _)); exact BK492.out)) : gb492 ≠ gb508))
                      have n8_ := Aside0.mk ((by rw [hg]; exact Nat.ne_of_gt (blk_lt (g := gb492) (o := .cells #[.int .i64 a0_0, .int .u64 a0_1] 24 (0, 0)) (by (with_reducible repeat (first | refine blk_drewN ?_ _ | refine blk_drew ?_ | refine blk_alloc ?_ _)); exact BK492.out)) : gb508 ≠ gb492))
                      have n9_ := Aside0.mk ((by rw [hg]; exact Nat.ne_of_lt (blk_lt (g := gb497) (o := .cells #[.int .i64 t493, .int .u64 t494] 24 (0, 0)) (by (with_reducible repeat (first | refine blk_drewN ?_ _ | refine blk_drew ?_ | refine blk_alloc ?_ _)); exact BK497.out)) : gb497 ≠ gb508))
                      have n10_ := Aside0.mk ((by rw [hg]; exact Nat.ne_of_gt (blk_lt (g := gb497) (o := .cells #[.int .i64 t493, .int .u64 t494] 24 (0, 0)) (by (with_reducible repeat (first | refine blk_drewN ?_ _ | refine blk_drew ?_ | refine blk_alloc ?_ _)); exact BK497.out)) : gb508 ≠ gb497))
                      have n11_ := Aside0.mk ((by rw [hg]; exact Nat.ne_of_lt (blk_lt (g := gb502) (o := .cells #[.int .i64 t499, .int .u64 t500] 24 (0, 0)) (by (with_reducible repeat (first | refine blk_drewN ?_ _ | refine blk_drew ?_ | refine blk_alloc ?_ _)); exact BK502.out)) : gb502 ≠ gb508))
                      have n12_ := Aside0.mk ((by rw [hg]; exact Nat.ne_of_gt (blk_lt (g := gb502) (o := .cells #[.int .i64 t499, .int .u64 t500] 24 (0, 0)) (by (with_reducible repeat (first | refine blk_drewN ?_ _ | refine blk_drew ?_ | refine blk_alloc ?_ _)); exact BK502.out)) : gb508 ≠ gb502))
                      clear BK492
                      clear BK497
                      clear BK502
                      clear HB
                      have BK492 := n0_
                      have BK497 := n1_
                      have BK502 := n2_
                      have HB := n3_
                      have BK508 := n4_
                      have GW508 := n5_
                      have GE508 := n6_
                      have NB492_508 := n7_
                      have NB508_492 := n8_
                      have NB497_508 := n9_
                      have NB508_497 := n10_
                      have NB502_508 := n11_
                      have NB508_502 := n12_
                      clear n0_ n1_ n2_ n3_ n4_ n5_ n6_ n7_ n8_ n9_ n10_ n11_ n12_
                      clear hb hbox hg
                      refine hK.out _ _ ⟨(blk_cell BK502.out 0).trans rfl, (blk_cell BK502.out 1).trans rfl⟩ (fun hHeld => ?_)
                      clear hK K
                      refine norm_ (a' := ?_) ?_ ?_
                      rotate_left
                      · show Act.put _ (some 10) _ = _
                        simp only [Act.put, List.setIfInBounds_toArray, List.set_cons_zero, List.set_cons_succ, i64_w, i32_w]
                        rfl
                      refine one_ (i := 3) (N := some 63) #[true, true, true, true, false, false, false, true, false, false] rfl rfl (one_of HT_.out (by kernel_rfl)) (by decide) (fun K hK => ?_)
                      refine goes_ Try.func25 (by kernel_rfl) rfl #[.agg #[.int .i64 t499, .int .u64 t500], .agg #[.int .i64 t503, .int .u64 t504]] (by rfl) rfl rfl aG ?_
                      with_reducible refine (wide_Add.calls t499 t500 t503 t504 t505 t506 t507 _ A29.out).mono ?_
                      rintro e w44 ⟨rfl, hb⟩
                      refine ⟨_, rfl, ?_⟩
                      have n0_ := Aside0.mk (bK BK492 hb)
                      have n1_ := Aside0.mk (bK BK497 hb)
                      have n2_ := Aside0.mk (bK BK502 hb)
                      have n3_ := Aside0.mk (bK BK508 hb)
                      have n4_ := Aside0.mk (bS hb)
                      clear BK492
                      clear BK497
                      clear BK502
                      clear BK508
                      clear HB
                      have BK492 := n0_
                      have BK497 := n1_
                      have BK502 := n2_
                      have BK508 := n3_
                      have HB := n4_
                      clear n0_ n1_ n2_ n3_ n4_
                      (try clear hb)
                      (try clear hb2)
                      (try clear hk)
                      (try clear hi)
                      refine hK.out _ _ ⟨(blk_cell BK502.out 0).trans rfl, (blk_cell BK502.out 1).trans rfl⟩ (fun hHeld => ?_)
                      clear hK K
                      refine norm_ (a' := ?_) ?_ ?_
                      rotate_left
                      · show Act.put _ (some 63) _ = _
                        simp only [Act.put, List.setIfInBounds_toArray, List.set_cons_zero, List.set_cons_succ, i64_w, i32_w]
                        rfl
                      refine pure_ (i := 4) (N := some 59) (v := ?_) (a' := ?_) #[true, true, true, true, true, false, false, true, false, false] rfl rfl (any_of HT_.out (by kernel_rfl)) (fun _ _ _ h => h) (Or.inl ⟨by rfl, ?_⟩) ?_ ?_
                      rotate_left
                      · intro w'
                        go_simp
                        with_reducible rfl
                      rotate_left
                      · simp only [Act.put, List.setIfInBounds_toArray, List.set_cons_zero, List.set_cons_succ, i64_w, i32_w]
                        rfl
                      refine pure_ (i := 5) (N := some 64) (v := ?_) (a' := ?_) #[true, true, true, true, true, true, false, true, false, false] rfl rfl (any_of HT_.out (by kernel_rfl)) (fun _ _ _ h => h) (Or.inl ⟨by rfl, ?_⟩) ?_ ?_
                      rotate_left
                      · intro w'
                        go_simp
                        with_reducible rfl
                      rotate_left
                      · simp only [Act.put, List.setIfInBounds_toArray, List.set_cons_zero, List.set_cons_succ, i64_w, i32_w]
                        rfl
                      refine pure_ (i := 6) (N := some 65) (v := ?_) (a' := ?_) #[true, true, true, true, true, true, true, true, false, false] rfl rfl (any_of HT_.out (by kernel_rfl)) (fun _ _ _ h => h) (Or.inl ⟨by rfl, ?_⟩) ?_ ?_
                      rotate_left
                      · intro w'
                        go_simp
                        with_reducible rfl
                      rotate_left
                      · simp only [Act.put, List.setIfInBounds_toArray, List.set_cons_zero, List.set_cons_succ, i64_w, i32_w]
                        rfl
                      exact norm_ (by simp only [putAll, Act.put, List.setIfInBounds_toArray, List.set_cons_zero, List.set_cons_succ]) (hCont (gb508) _ ⟨hHeld, (by (with_reducible repeat (first | refine blk_drewN ?_ _ | refine blk_drew ?_ | refine blk_alloc ?_ _)); exact BK492.out), (by (with_reducible repeat (first | refine blk_drewN ?_ _ | refine blk_drew ?_ | refine blk_alloc ?_ _)); exact BK497.out), (by (with_reducible repeat (first | refine blk_drewN ?_ _ | refine blk_drew ?_ | refine blk_alloc ?_ _)); exact BK502.out), (by (with_reducible repeat (first | refine blk_drewN ?_ _ | refine blk_drew ?_ | refine blk_alloc ?_ _)); exact BK508.out), GW508.out, GE508.out, NB492_508.out, NB508_492.out, NB497_508.out, NB508_497.out, NB502_508.out, NB508_502.out, (bE)⟩)
                  · skip
                    refine box_step ?hg (N := 10) ?hd (cs := #[.int .i64 0, .int .u64 0]) (t := 24) ?hr ?_; (case hd => rfl); (case hg => rfl); (case hr => first | (go_simp; done) | (go_simp; rfl))
                    intro gb508 hg w42 hbox hb
                    have n0_ := Aside0.mk (bK BK492 hb)
                    have n1_ := Aside0.mk (bK BK497 hb)
                    have n2_ := Aside0.mk (bK BK502 hb)
                    have n3_ := Aside0.mk (bS hb)
                    have n4_ := Aside0.mk (hbox)
                    have n5_ := Aside0.mk ((by rw [hg]; exact (below_size (bE)) : w.heap.size ≤ gb508))
                    have n6_ := Aside0.mk ((by rw [hg]; exact (below_size (bE)) : w.heap.size ≤ gb508))
                    have n7_ := Aside0.mk ((by rw [hg]; exact Nat.ne_of_lt (blk_lt (g := gb492) (o := .cells #[.int .i64 a0_0, .int .u64 a0_1] 24 (0, 0)) (by (with_reducible repeat (first | refine blk_drewN ?_ _ | refine blk_drew ?_ | refine blk_alloc ?_ _)); exact BK492.out)) : gb492 ≠ gb508))
                    have n8_ := Aside0.mk ((by rw [hg]; exact Nat.ne_of_gt (blk_lt (g := gb492) (o := .cells #[.int .i64 a0_0, .int .u64 a0_1] 24 (0, 0)) (by (with_reducible repeat (first | refine blk_drewN ?_ _ | refine blk_drew ?_ | refine blk_alloc ?_ _)); exact BK492.out)) : gb508 ≠ gb492))
                    have n9_ := Aside0.mk ((by rw [hg]; exact Nat.ne_of_lt (blk_lt (g := gb497) (o := .cells #[.int .i64 t493, .int .u64 t494] 24 (0, 0)) (by (with_reducible repeat (first | refine blk_drewN ?_ _ | refine blk_drew ?_ | refine blk_alloc ?_ _)); exact BK497.out)) : gb497 ≠ gb508))
                    have n10_ := Aside0.mk ((by rw [hg]; exact Nat.ne_of_gt (blk_lt (g := gb497) (o := .cells #[.int .i64 t493, .int .u64 t494] 24 (0, 0)) (by (with_reducible repeat (first | refine blk_drewN ?_ _ | refine blk_drew ?_ | refine blk_alloc ?_ _)); exact BK497.out)) : gb508 ≠ gb497))
                    have n11_ := Aside0.mk ((by rw [hg]; exact Nat.ne_of_lt (blk_lt (g := gb502) (o := .cells #[.int .i64 t499, .int .u64 t500] 24 (0, 0)) (by (with_reducible repeat (first | refine blk_drewN ?_ _ | refine blk_drew ?_ | refine blk_alloc ?_ _)); exact BK502.out)) : gb502 ≠ gb508))
                    have n12_ := Aside0.mk ((by rw [hg]; exact Nat.ne_of_gt (blk_lt (g := gb502) (o := .cells #[.int .i64 t499, .int .u64 t500] 24 (0, 0)) (by (with_reducible repeat (first | refine blk_drewN ?_ _ | refine blk_drew ?_ | refine blk_alloc ?_ _)); exact BK502.out)) : gb508 ≠ gb502))
                    clear BK492
                    clear BK497
                    clear BK502
                    clear HB
                    have BK492 := n0_
                    have BK497 := n1_
                    have BK502 := n2_
                    have HB := n3_
                    have BK508 := n4_
                    have GW508 := n5_
                    have GE508 := n6_
                    have NB492_508 := n7_
                    have NB508_492 := n8_
                    have NB497_508 := n9_
                    have NB508_497 := n10_
                    have NB502_508 := n11_
                    have NB508_502 := n12_
                    clear n0_ n1_ n2_ n3_ n4_ n5_ n6_ n7_ n8_ n9_ n10_ n11_ n12_
                    clear hb hbox hg
                    refine hK.out _ _ ⟨(blk_cell BK502.out 0).trans rfl, (blk_cell BK502.out 1).trans rfl⟩ (fun hHeld => ?_)
                    clear hK K
                    refine norm_ (a' := ?_) ?_ ?_
                    rotate_left
                    · show Act.put _ (some 10) _ = _
                      simp only [Act.put, List.setIfInBounds_toArray, List.set_cons_zero, List.set_cons_succ, i64_w, i32_w]
                      rfl
                    refine one_ (i := 2) (N := some 62) #[true, true, true, false, false, false, false, true, false, false] rfl rfl (one_of HT_.out (by kernel_rfl)) (by decide) (fun K hK => ?_)
                    refine goes_ Try.func23 (by kernel_rfl) rfl #[.int .i64 t495] (by rfl) rfl rfl aG ?_
                    with_reducible refine (wide_Of.calls t495 t503 t504 _ A28.out).mono ?_
                    rintro e w43 ⟨rfl, hb⟩
                    refine ⟨_, rfl, ?_⟩
                    have n0_ := Aside0.mk (bK BK492 hb)
                    have n1_ := Aside0.mk (bK BK497 hb)
                    have n2_ := Aside0.mk (bK BK502 hb)
                    have n3_ := Aside0.mk (bK BK508 hb)
                    have n4_ := Aside0.mk (bS hb)
                    clear BK492
                    clear BK497
                    clear BK502
                    clear BK508
                    clear HB
                    have BK492 := n0_
                    have BK497 := n1_
                    have BK502 := n2_
                    have BK508 := n3_
                    have HB := n4_
                    clear n0_ n1_ n2_ n3_ n4_
                    (try clear hb)
                    (try clear hb2)
                    (try clear hk)
                    (try clear hi)
                    refine hK.out _ _ ⟨(blk_cell BK502.out 0).trans rfl, (blk_cell BK502.out 1).trans rfl⟩ (fun hHeld => ?_)
                    clear hK K
                    refine norm_ (a' := ?_) ?_ ?_
                    rotate_left
                    · show Act.put _ (some 62) _ = _
                      simp only [Act.put, List.setIfInBounds_toArray, List.set_cons_zero, List.set_cons_succ, i64_w, i32_w]
                      rfl
                    refine one_ (i := 3) (N := some 63) #[true, true, true, true, false, false, false, true, false, false] rfl rfl (one_of HT_.out (by kernel_rfl)) (by decide) (fun K hK => ?_)
                    refine goes_ Try.func25 (by kernel_rfl) rfl #[.agg #[.int .i64 t499, .int .u64 t500], .agg #[.int .i64 t503, .int .u64 t504]] (by rfl) rfl rfl aG ?_
                    with_reducible refine (wide_Add.calls t499 t500 t503 t504 t505 t506 t507 _ A29.out).mono ?_
                    rintro e w44 ⟨rfl, hb⟩
                    refine ⟨_, rfl, ?_⟩
                    have n0_ := Aside0.mk (bK BK492 hb)
                    have n1_ := Aside0.mk (bK BK497 hb)
                    have n2_ := Aside0.mk (bK BK502 hb)
                    have n3_ := Aside0.mk (bK BK508 hb)
                    have n4_ := Aside0.mk (bS hb)
                    clear BK492
                    clear BK497
                    clear BK502
                    clear BK508
                    clear HB
                    have BK492 := n0_
                    have BK497 := n1_
                    have BK502 := n2_
                    have BK508 := n3_
                    have HB := n4_
                    clear n0_ n1_ n2_ n3_ n4_
                    (try clear hb)
                    (try clear hb2)
                    (try clear hk)
                    (try clear hi)
                    refine hK.out _ _ ⟨(blk_cell BK502.out 0).trans rfl, (blk_cell BK502.out 1).trans rfl⟩ (fun hHeld => ?_)
                    clear hK K
                    refine norm_ (a' := ?_) ?_ ?_
                    rotate_left
                    · show Act.put _ (some 63) _ = _
                      simp only [Act.put, List.setIfInBounds_toArray, List.set_cons_zero, List.set_cons_succ, i64_w, i32_w]
                      rfl
                    refine pure_ (i := 4) (N := some 59) (v := ?_) (a' := ?_) #[true, true, true, true, true, false, false, true, false, false] rfl rfl (any_of HT_.out (by kernel_rfl)) (fun _ _ _ h => h) (Or.inl ⟨by rfl, ?_⟩) ?_ ?_
                    rotate_left
                    · intro w'
                      go_simp
                      with_reducible rfl
                    rotate_left
                    · simp only [Act.put, List.setIfInBounds_toArray, List.set_cons_zero, List.set_cons_succ, i64_w, i32_w]
                      rfl
                    refine pure_ (i := 5) (N := some 64) (v := ?_) (a' := ?_) #[true, true, true, true, true, true, false, true, false, false] rfl rfl (any_of HT_.out (by kernel_rfl)) (fun _ _ _ h => h) (Or.inl ⟨by rfl, ?_⟩) ?_ ?_
                    rotate_left
                    · intro w'
                      go_simp
                      with_reducible rfl
                    rotate_left
                    · simp only [Act.put, List.setIfInBounds_toArray, List.set_cons_zero, List.set_cons_succ, i64_w, i32_w]
                      rfl
                    refine pure_ (i := 6) (N := some 65) (v := ?_) (a' := ?_) #[true, true, true, true, true, true, true, true, false, false] rfl rfl (any_of HT_.out (by kernel_rfl)) (fun _ _ _ h => h) (Or.inl ⟨by rfl, ?_⟩) ?_ ?_
                    rotate_left
                    · intro w'
                      go_simp
                      with_reducible rfl
                    rotate_left
                    · simp only [Act.put, List.setIfInBounds_toArray, List.set_cons_zero, List.set_cons_succ, i64_w, i32_w]
                      rfl
                    exact norm_ (by simp only [putAll, Act.put, List.setIfInBounds_toArray, List.set_cons_zero, List.set_cons_succ]) (hCont (gb508) _ ⟨hHeld, (by (with_reducible repeat (first | refine blk_drewN ?_ _ | refine blk_drew ?_ | refine blk_alloc ?_ _)); exact BK492.out), (by (with_reducible repeat (first | refine blk_drewN ?_ _ | refine blk_drew ?_ | refine blk_alloc ?_ _)); exact BK497.out), (by (with_reducible repeat (first | refine blk_drewN ?_ _ | refine blk_drew ?_ | refine blk_alloc ?_ _)); exact BK502.out), (by (with_reducible repeat (first | refine blk_drewN ?_ _ | refine blk_drew ?_ | refine blk_alloc ?_ _)); exact BK508.out), GW508.out, GE508.out, NB492_508.out, NB508_492.out, NB497_508.out, NB508_497.out, NB502_508.out, NB508_502.out, (bE)⟩)
                rintro gb508 w45 ⟨hS_, h0_, h1_, h2_, h3_, h4_, h5_, h6_, h7_, h8_, h9_, h10_, h11_, h12_⟩
                have n0_ : Aside0 (w45.heap[gb492]? = some (.cells #[.int .i64 a0_0, .int .u64 a0_1] 24 (0, 0))) := ⟨h0_⟩
                have n1_ : Aside0 (w45.heap[gb497]? = some (.cells #[.int .i64 t493, .int .u64 t494] 24 (0, 0))) := ⟨h1_⟩
                have n2_ : Aside0 (w45.heap[gb502]? = some (.cells #[.int .i64 t499, .int .u64 t500] 24 (0, 0))) := ⟨h2_⟩
                have n3_ : Aside0 (w45.heap[gb508]? = some (.cells #[.int .i64 0, .int .u64 0] 24 (0, 0))) := ⟨h3_⟩
                have n4_ : Aside0 (w.heap.size ≤ gb508) := ⟨h4_⟩
                have n5_ : Aside0 (w.heap.size ≤ gb508) := ⟨h5_⟩
                have n6_ : Aside0 (gb492 ≠ gb508) := ⟨h6_⟩
                have n7_ : Aside0 (gb508 ≠ gb492) := ⟨h7_⟩
                have n8_ : Aside0 (gb497 ≠ gb508) := ⟨h8_⟩
                have n9_ : Aside0 (gb508 ≠ gb497) := ⟨h9_⟩
                have n10_ : Aside0 (gb502 ≠ gb508) := ⟨h10_⟩
                have n11_ : Aside0 (gb508 ≠ gb502) := ⟨h11_⟩
                have n12_ : Aside0 (Below w.heap.size w w45) := ⟨h12_⟩
                clear BK492
                clear BK497
                clear BK502
                clear HB
                clear h0_ h1_ h2_ h3_ h4_ h5_ h6_ h7_ h8_ h9_ h10_ h11_ h12_
                have BK492 := n0_
                have BK497 := n1_
                have BK502 := n2_
                have BK508 := n3_
                have GW508 := n4_
                have GE508 := n5_
                have NB492_508 := n6_
                have NB508_492 := n7_
                have NB497_508 := n8_
                have NB508_497 := n9_
                have NB502_508 := n10_
                have NB508_502 := n11_
                have HB := n12_
                clear n0_ n1_ n2_ n3_ n4_ n5_ n6_ n7_ n8_ n9_ n10_ n11_ n12_
                have hHeld : w45.cell? ⟨gb502, 0, none⟩ = some (.int .i64 t499) ∧ w45.cell? ⟨gb502, 1, none⟩ = some (.int .u64 t500) := hS_
                refine norm_ (a' := ?_) ?_ ?_
                rotate_left
                · simp only [putAll, Act.put, List.setIfInBounds_toArray, List.set_cons_zero, List.set_cons_succ]
                  rfl
                refine one_ (i := 8) (N := none) #[true, true, true, true, true, true, true, true, true, false] rfl rfl (one_of HT_.out (by kernel_rfl)) (by decide) (fun K hK => ?_)
                have hs46 : w45.cell? ⟨gb508, 0, none⟩ = some (.int .i64 0) := (blk_cell BK508.out 0).trans rfl
                have hfs46 := blk_frozen BK508.out 0
                have hns46_0 := NB492_508.out
                have hns46_1 := NB497_508.out
                have hns46_2 := NB502_508.out
                have hms46_0 := NB508_492.out
                have hms46_1 := NB508_497.out
                have hms46_2 := NB508_502.out
                have hs47 : w45.cell? ⟨gb508, 1, none⟩ = some (.int .u64 0) := (blk_cell BK508.out 1).trans rfl
                have hfs47 := blk_frozen BK508.out 1
                have hns47_0 := NB492_508.out
                have hns47_1 := NB497_508.out
                have hns47_2 := NB502_508.out
                have hms47_0 := NB508_492.out
                have hms47_1 := NB508_497.out
                have hms47_2 := NB508_502.out
                refine skip_ (w1 := ?_) (by rfl) rfl ?_ ?_
                rotate_left
                · go_simp
                  rfl
                refine hK.out _ _ ⟨((cell_far (p := ⟨gb508, _, none⟩) NB502_508.out _).trans (((cell_far (p := ⟨gb508, _, none⟩) NB502_508.out _).trans (hHeld.1)))), ((cell_far (p := ⟨gb508, _, none⟩) NB502_508.out _).trans (((cell_far (p := ⟨gb508, _, none⟩) NB502_508.out _).trans (hHeld.2))))⟩ (fun hHeld => ?_)
                clear hK K
                refine pure_ (i := 9) (N := some 11) (v := ?_) (a' := ?_) #[true, true, true, true, true, true, true, true, true, true] rfl rfl (any_of HT_.out (by kernel_rfl)) (fun _ _ _ h => h) (Or.inl ⟨by rfl, ?_⟩) ?_ ?_
                rotate_left
                · intro w'
                  go_simp
                  with_reducible rfl
                rotate_left
                · simp only [Act.put, List.setIfInBounds_toArray, List.set_cons_zero, List.set_cons_succ, i64_w, i32_w]
                  rfl
                refine done_ (done_of HT_.out (by kernel_rfl)) ?_
                have hnb48 := NB508_492.out
                have hnc48 := NB492_508.out
                have hnb49 := NB508_497.out
                have hnc49 := NB497_508.out
                have hnb50 := NB508_502.out
                have hnc50 := NB502_508.out
                have hcz51_0 : w45.cell? ⟨gb508, 0, none⟩ = some (.int .i64 0) := (blk_cell BK508.out 0).trans rfl
                have hcz51_1 : w45.cell? ⟨gb508, 1, none⟩ = some (.int .u64 0) := (blk_cell BK508.out 1).trans rfl
                have hfz51_0 := blk_frozen BK508.out 0
                have hfz51_1 := blk_frozen BK508.out 1
                have hcz52_0 : w45.cell? ⟨gb492, 0, none⟩ = some (.int .i64 a0_0) := (blk_cell BK492.out 0).trans rfl
                have hcz52_1 : w45.cell? ⟨gb492, 1, none⟩ = some (.int .u64 a0_1) := (blk_cell BK492.out 1).trans rfl
                have hfz52_0 := blk_frozen BK492.out 0
                have hfz52_1 := blk_frozen BK492.out 1
                try go_wp2_with (first | (go_at_call 12; (with_reducible refine (corebanklaw01_live.calls kj15  t509 _ A32.out).mono ?_); rintro e w53 ⟨rfl, hb⟩; replace BK492 := Aside0.mk (blk_below (g := gb492) (o := .cells #[.int .i64 a0_0, .int .u64 a0_1] 24 (0, 0)) (by (with_reducible repeat (first | refine blk_drewN ?_ _ | refine blk_drew ?_ | refine blk_alloc ?_ _)); refine blk_far ?_ NB492_508.out _; (with_reducible repeat (first | refine blk_drewN ?_ _ | refine blk_drew ?_ | refine blk_alloc ?_ _)); refine blk_far ?_ NB492_508.out _; (with_reducible repeat (first | refine blk_drewN ?_ _ | refine blk_drew ?_ | refine blk_alloc ?_ _)); exact BK492.out) hb); replace BK497 := Aside0.mk (blk_below (g := gb497) (o := .cells #[.int .i64 t493, .int .u64 t494] 24 (0, 0)) (by (with_reducible repeat (first | refine blk_drewN ?_ _ | refine blk_drew ?_ | refine blk_alloc ?_ _)); refine blk_far ?_ NB497_508.out _; (with_reducible repeat (first | refine blk_drewN ?_ _ | refine blk_drew ?_ | refine blk_alloc ?_ _)); refine blk_far ?_ NB497_508.out _; (with_reducible repeat (first | refine blk_drewN ?_ _ | refine blk_drew ?_ | refine blk_alloc ?_ _)); exact BK497.out) hb); replace BK502 := Aside0.mk (blk_below (g := gb502) (o := .cells #[.int .i64 t499, .int .u64 t500] 24 (0, 0)) (by (with_reducible repeat (first | refine blk_drewN ?_ _ | refine blk_drew ?_ | refine blk_alloc ?_ _)); refine blk_far ?_ NB502_508.out _; (with_reducible repeat (first | refine blk_drewN ?_ _ | refine blk_drew ?_ | refine blk_alloc ?_ _)); refine blk_far ?_ NB502_508.out _; (with_reducible repeat (first | refine blk_drewN ?_ _ | refine blk_drew ?_ | refine blk_alloc ?_ _)); exact BK502.out) hb); replace BK508 := Aside0.mk (blk_below (g := gb508) (o := .cells #[.int .i64 t505, .int .u64 t506] 24 (0, 0)) (by (with_reducible repeat (first | refine blk_drewN ?_ _ | refine blk_drew ?_ | refine blk_alloc ?_ _)); refine blk_put (cs := #[.int .i64 t505, .int .u64 0]) ?_ 1 _ rfl; (with_reducible repeat (first | refine blk_drewN ?_ _ | refine blk_drew ?_ | refine blk_alloc ?_ _)); refine blk_put (cs := #[.int .i64 0, .int .u64 0]) ?_ 0 _ rfl; (with_reducible repeat (first | refine blk_drewN ?_ _ | refine blk_drew ?_ | refine blk_alloc ?_ _)); exact BK508.out) hb); replace HB := Aside0.mk (bS hb); (try clear hb); (try clear hb2); (try clear hk); (try clear hi)))
                go_ret
                exact ⟨by first | rfl | (simp [errW_none, errW_some] <;> rfl) | (simp [*, errW_none, errW_some] <;> rfl), bE⟩
              · rw [if_neg c31] at H
                exact absurd H (by simp)
            · rw [if_neg c30] at H
              exact absurd H (by simp)
          · rw [if_neg c27] at H
            have c27b0 : (t501 == 0) = false := beq_eq_false_iff_ne.mpr c27
            have c27b1 : (t501 != 0) = true := bne_iff_ne.mpr c27
            replace H := Option.bind_eq_some_iff.mp H
            obtain ⟨⟨t510, t511⟩, A540, H⟩ := H
            replace H : ((wide_Add.f t493 t494 t510 t511).bind fun bt512 => ((wide_Scale.f kj15 bt512.1 bt512.2.1 a1).bind fun bt516 => ((wide_Of.f (wrap64 (a1 - t495))).bind fun bt519 => ((wide_Sub.f bt516.1 bt516.2.1 bt519.1 bt519.2).bind fun bt521 => (if a0_0 < 0 then (if t495 > 0 then (if bt512.2.2 = 0 then (if bt516.2.2 = 0 then (if bt521.2.2 = 0 then (if (bt521.1 == a0_0 && (bt521.2.1 == a0_1)) = true then ((corebanklaw01_live.f kj15).bind fun t525 => (some t525)) else (none)) else (none)) else (none)) else (none)) else (none)) else (none)))))) = some r := H
            have A54 := Aside0.mk A540
            clear A540
            replace H := Option.bind_eq_some_iff.mp H
            obtain ⟨⟨t512, t513, t514⟩, A550, H⟩ := H
            replace H : ((wide_Scale.f kj15 t512 t513 a1).bind fun bt516 => ((wide_Of.f (wrap64 (a1 - t495))).bind fun bt519 => ((wide_Sub.f bt516.1 bt516.2.1 bt519.1 bt519.2).bind fun bt521 => (if a0_0 < 0 then (if t495 > 0 then (if t514 = 0 then (if bt516.2.2 = 0 then (if bt521.2.2 = 0 then (if (bt521.1 == a0_0 && (bt521.2.1 == a0_1)) = true then ((corebanklaw01_live.f kj15).bind fun t525 => (some t525)) else (none)) else (none)) else (none)) else (none)) else (none)) else (none))))) = some r := H
            have A55 := Aside0.mk A550
            clear A550
            replace H := Option.bind_eq_some_iff.mp H
            obtain ⟨⟨t516, t517, t518⟩, A560, H⟩ := H
            replace H : ((wide_Of.f (wrap64 (a1 - t495))).bind fun bt519 => ((wide_Sub.f t516 t517 bt519.1 bt519.2).bind fun bt521 => (if a0_0 < 0 then (if t495 > 0 then (if t514 = 0 then (if t518 = 0 then (if bt521.2.2 = 0 then (if (bt521.1 == a0_0 && (bt521.2.1 == a0_1)) = true then ((corebanklaw01_live.f kj15).bind fun t525 => (some t525)) else (none)) else (none)) else (none)) else (none)) else (none)) else (none)))) = some r := H
            have A56 := Aside0.mk A560
            clear A560
            replace H := Option.bind_eq_some_iff.mp H
            obtain ⟨⟨t519, t520⟩, A570, H⟩ := H
            replace H : ((wide_Sub.f t516 t517 t519 t520).bind fun bt521 => (if a0_0 < 0 then (if t495 > 0 then (if t514 = 0 then (if t518 = 0 then (if bt521.2.2 = 0 then (if (bt521.1 == a0_0 && (bt521.2.1 == a0_1)) = true then ((corebanklaw01_live.f kj15).bind fun t525 => (some t525)) else (none)) else (none)) else (none)) else (none)) else (none)) else (none))) = some r := H
            have A57 := Aside0.mk A570
            clear A570
            replace H := Option.bind_eq_some_iff.mp H
            obtain ⟨⟨t521, t522, t523⟩, A580, H⟩ := H
            replace H : (if a0_0 < 0 then (if t495 > 0 then (if t514 = 0 then (if t518 = 0 then (if t523 = 0 then (if (t521 == a0_0 && (t522 == a0_1)) = true then ((corebanklaw01_live.f kj15).bind fun t525 => (some t525)) else (none)) else (none)) else (none)) else (none)) else (none)) else (none)) = some r := H
            have A58 := Aside0.mk A580
            clear A580
            by_cases c59 : a0_0 < 0
            · rw [if_pos c59] at H
              have c59b0 : decide (a0_0 < 0) = true := decide_eq_true c59
              clear c59
              by_cases c60 : t495 > 0
              · rw [if_pos c60] at H
                have c60b0 : decide (0 < t495) = true := decide_eq_true c60
                clear c60
                by_cases c61 : t514 = 0
                · rw [if_pos c61] at H
                  have c61b0 : (t514 == 0) = true := beq_iff_eq.mpr c61
                  have c61b1 : (t514 != 0) = false := bne_eq_false_iff_eq.mpr c61
                  clear c61
                  by_cases c62 : t518 = 0
                  · rw [if_pos c62] at H
                    have c62b0 : (t518 == 0) = true := beq_iff_eq.mpr c62
                    have c62b1 : (t518 != 0) = false := bne_eq_false_iff_eq.mpr c62
                    clear c62
                    by_cases c63 : t523 = 0
                    · rw [if_pos c63] at H
                      have c63b0 : (t523 == 0) = true := beq_iff_eq.mpr c63
                      have c63b1 : (t523 != 0) = false := bne_eq_false_iff_eq.mpr c63
                      clear c63
                      by_cases c64 : (t521 == a0_0 && (t522 == a0_1)) = true
                      · rw [if_pos c64] at H
                        have c64b0 : (t521 == a0_0 && (t522 == a0_1)) = true := c64
                        (try (have c64b1 : decide (t521 = a0_0 && (t522 == a0_1)) = true := by simpa using c64))
                        (try (have c64b2 : (t521 == a0_0 && (t522 == a0_1)) = true := by simpa using c64))
                        clear c64
                        replace H := Option.bind_eq_some_iff.mp H
                        obtain ⟨t525, A650, H⟩ := H
                        replace H : (some t525) = some r := H
                        have A65 := Aside0.mk A650
                        clear A650
                        obtain rfl := Option.some.inj H
                        have hnb66 := NB497_492.out
                        have hnc66 := NB492_497.out
                        have hcz67_0 : wc.cell? ⟨gb497, 0, none⟩ = some (.int .i64 t493) := (blk_cell BK497.out 0).trans rfl
                        have hcz67_1 : wc.cell? ⟨gb497, 1, none⟩ = some (.int .u64 t494) := (blk_cell BK497.out 1).trans rfl
                        have hfz67_0 := blk_frozen BK497.out 0
                        have hfz67_1 := blk_frozen BK497.out 1
                        try go_wp2_with (first | ((with_reducible refine gate_callee (f := 17) rfl ?_); refine goesL_ (some 54) rfl rfl Try.func17 (by kernel_rfl) rfl #[.agg #[.int .i64 t493, .int .u64 t494], .int .i64 a1] rfl aG ?_; (with_reducible refine (wide_Scale.calls kj15 t493 t494 a1 t499 t500 t501 _ A26.out).mono ?_); rintro e w68 ⟨rfl, hb⟩; refine ⟨_, rfl, ?_⟩; replace BK492 := Aside0.mk (bK BK492 hb); replace BK497 := Aside0.mk (bK BK497 hb); replace HB := Aside0.mk (bS hb); (try clear hb); (try clear hb2); (try clear hk); (try clear hi)) | ((with_reducible refine gate_dst (N := 8) rfl ?_); refine box_event ?hg (N := 8) ?hd (cs := #[.int .i64 0, .int .u64 0]) (t := 24) ?hr ?_; (case hd => rfl); (case hg => rfl); (case hr => first | (go_simp; done) | (go_simp; rfl)); intro gb502 hg w69 hbox hb; have nn_ := bT hb hg; have bgb492_ := bN BK492 hb hg; have bgb497_ := bN BK497 hb hg; have BK502 := Aside0.mk (hbox); have GW502 := Aside0.mk nn_.2; have GE502 := GW502; have NB492_502 := Aside0.mk bgb492_.2.1; have NB502_492 := Aside0.mk bgb492_.2.2; have NB497_502 := Aside0.mk bgb497_.2.1; have NB502_497 := Aside0.mk bgb497_.2.2; replace BK492 := Aside0.mk bgb492_.1; replace BK497 := Aside0.mk bgb497_.1; replace HB := Aside0.mk nn_.1; clear nn_ bgb492_ bgb497_; clear hb hbox hg; have hnb70 := NB502_492.out; have hnc70 := NB492_502.out; have hnb71 := NB502_497.out; have hnc71 := NB497_502.out; have hcz72_0 : w69.cell? ⟨gb502, 0, none⟩ = some (.int .i64 0) := (blk_cell BK502.out 0).trans rfl; have hcz72_1 : w69.cell? ⟨gb502, 1, none⟩ = some (.int .u64 0) := (blk_cell BK502.out 1).trans rfl; have hfz72_0 := blk_frozen BK502.out 0; have hfz72_1 := blk_frozen BK502.out 1))
                        have n0_ : Aside0 (((w69.setCell ⟨gb502, 0, none⟩ (.int .i64 t499)).setCell ⟨gb502, 1, none⟩ (.int .u64 t500)).heap[gb492]? = some (.cells #[.int .i64 a0_0, .int .u64 a0_1] 24 (0, 0))) := ⟨by (with_reducible repeat (first | refine blk_drewN ?_ _ | refine blk_drew ?_ | refine blk_alloc ?_ _)); refine blk_far ?_ NB492_502.out _; (with_reducible repeat (first | refine blk_drewN ?_ _ | refine blk_drew ?_ | refine blk_alloc ?_ _)); refine blk_far ?_ NB492_502.out _; (with_reducible repeat (first | refine blk_drewN ?_ _ | refine blk_drew ?_ | refine blk_alloc ?_ _)); exact BK492.out⟩
                        have n1_ : Aside0 (((w69.setCell ⟨gb502, 0, none⟩ (.int .i64 t499)).setCell ⟨gb502, 1, none⟩ (.int .u64 t500)).heap[gb497]? = some (.cells #[.int .i64 t493, .int .u64 t494] 24 (0, 0))) := ⟨by (with_reducible repeat (first | refine blk_drewN ?_ _ | refine blk_drew ?_ | refine blk_alloc ?_ _)); refine blk_far ?_ NB497_502.out _; (with_reducible repeat (first | refine blk_drewN ?_ _ | refine blk_drew ?_ | refine blk_alloc ?_ _)); refine blk_far ?_ NB497_502.out _; (with_reducible repeat (first | refine blk_drewN ?_ _ | refine blk_drew ?_ | refine blk_alloc ?_ _)); exact BK497.out⟩
                        have n2_ : Aside0 (((w69.setCell ⟨gb502, 0, none⟩ (.int .i64 t499)).setCell ⟨gb502, 1, none⟩ (.int .u64 t500)).heap[gb502]? = some (.cells #[.int .i64 t499, .int .u64 t500] 24 (0, 0))) := ⟨by (with_reducible repeat (first | refine blk_drewN ?_ _ | refine blk_drew ?_ | refine blk_alloc ?_ _)); refine blk_put (cs := #[.int .i64 t499, .int .u64 0]) ?_ 1 _ rfl; (with_reducible repeat (first | refine blk_drewN ?_ _ | refine blk_drew ?_ | refine blk_alloc ?_ _)); refine blk_put (cs := #[.int .i64 0, .int .u64 0]) ?_ 0 _ rfl; (with_reducible repeat (first | refine blk_drewN ?_ _ | refine blk_drew ?_ | refine blk_alloc ?_ _)); exact BK502.out⟩
                        have n3_ : Aside0 (Below w.heap.size w ((w69.setCell ⟨gb502, 0, none⟩ (.int .i64 t499)).setCell ⟨gb502, 1, none⟩ (.int .u64 t500))) := ⟨bE⟩
                        (try clear BK492)
                        (try clear BK497)
                        (try clear BK502)
                        (try clear HB)
                        generalize ((w69.setCell ⟨gb502, 0, none⟩ (.int .i64 t499)).setCell ⟨gb502, 1, none⟩ (.int .u64 t500)) = w73 at n0_ n1_ n2_ n3_ ⊢
                        have BK492 := n0_
                        have BK497 := n1_
                        have BK502 := n2_
                        have HB := n3_
                        clear n0_ n1_ n2_ n3_
                        have n0_ := Aside0.mk (blk_drew BK492.out)
                        have n1_ := Aside0.mk (blk_drew BK497.out)
                        have n2_ := Aside0.mk (blk_drew BK502.out)
                        have n3_ := Aside0.mk (below_drew1 HB.out)
                        clear BK492
                        clear BK497
                        clear BK502
                        clear HB
                        have BK492 := n0_
                        have BK497 := n1_
                        have BK502 := n2_
                        have HB := n3_
                        clear n0_ n1_ n2_ n3_
                        refine start_ (n := 9) (S := fun w' => w'.cell? ⟨gb497, 0, none⟩ = some (.int .i64 t493) ∧ w'.cell? ⟨gb497, 1, none⟩ = some (.int .u64 t494)) (ds := []) #[false, false, false, false, false, false, false, false, false] (by kernel_rfl) rfl rfl ⟨(blk_cell BK497.out 0).trans rfl, (blk_cell BK497.out 1).trans rfl⟩ (fun hHeld => ?_); refine with_tabW corebanklaw01_WideDivides.tab10 corebanklaw01_WideDivides.bits10 (fun HT_ HW_ => ?_)
                        generalize w73.drew = w74 at BK492 BK497 BK502 HB hHeld ⊢
                        refine take_ (i := 0) (N := some 77) (v := ?_) (a' := ?_) #[true, false, false, false, false, false, false, false, false] rfl rfl (take_ofW HT_.out HW_.out (by kernel_rfl)) (fun _ _ _ h => h) (Or.inl ⟨by rfl, ?_⟩) hHeld ?_ ?_
                        rotate_left
                        · rintro w' ⟨s0, s1⟩
                          go_simp
                          with_reducible rfl
                        rotate_left
                        · simp only [Act.put, List.setIfInBounds_toArray, List.set_cons_zero, List.set_cons_succ, i64_w, i32_w]
                          rfl
                        refine join_ (σ := Nat) 2 #[true, true, true, true, true, true, true, false, false] (fun s_ => [(78, .agg #[.int .i64 t510, .int .u64 t511]), (79, .tuple #[.agg #[.int .i64 t512, .int .u64 t513], .int .i64 t514]), (12, .pointer (some ⟨s_, 0, none⟩)), (76, .tuple #[.agg #[.int .i64 t512, .int .u64 t513], .int .i64 t514]), (80, .agg #[.int .i64 t512, .int .u64 t513]), (81, .int .i64 t514)]) (fun s_ w' => (w'.cell? ⟨gb497, 0, none⟩ = some (.int .i64 t493) ∧ w'.cell? ⟨gb497, 1, none⟩ = some (.int .u64 t494)) ∧ (w'.heap[gb492]? = some (.cells #[.int .i64 a0_0, .int .u64 a0_1] 24 (0, 0))) ∧ (w'.heap[gb497]? = some (.cells #[.int .i64 t493, .int .u64 t494] 24 (0, 0))) ∧ (w'.heap[gb502]? = some (.cells #[.int .i64 t499, .int .u64 t500] 24 (0, 0))) ∧ (w'.heap[s_]? = some (.cells #[.int .i64 0, .int .u64 0] 24 (0, 0))) ∧ (w.heap.size ≤ s_) ∧ (w.heap.size ≤ s_) ∧ (gb492 ≠ s_) ∧ (s_ ≠ gb492) ∧ (gb497 ≠ s_) ∧ (s_ ≠ gb497) ∧ (gb502 ≠ s_) ∧ (s_ ≠ gb502) ∧ (Below w.heap.size w w')) ?_ ?_
                        rotate_left
                        · intro hCont
                          refine two_ (i := 1) (j := 6) (Ni := some 78) (Nj := some 12) #[true, true, false, false, false, false, false, false, false] #[true, false, false, false, false, false, true, false, false] rfl rfl rfl rfl (two_of HT_.out (by kernel_rfl)) (by decide) (by decide) (fun K hK => ?_) (fun K hK => ?_)
                          · skip
                            refine goes_ Try.func23 (by kernel_rfl) rfl #[.int .i64 1] (by rfl) rfl rfl aG ?_
                            with_reducible refine (wide_Of.calls 1 t510 t511 _ A54.out).mono ?_
                            rintro e w75 ⟨rfl, hb⟩
                            refine ⟨_, rfl, ?_⟩
                            have n0_ := Aside0.mk (bK BK492 hb)
                            have n1_ := Aside0.mk (bK BK497 hb)
                            have n2_ := Aside0.mk (bK BK502 hb)
                            have n3_ := Aside0.mk (bS hb)
                            clear BK492
                            clear BK497
                            clear BK502
                            clear HB
                            have BK492 := n0_
                            have BK497 := n1_
                            have BK502 := n2_
                            have HB := n3_
                            clear n0_ n1_ n2_ n3_
                            (try clear hb)
                            (try clear hb2)
                            (try clear hk)
                            (try clear hi)
                            refine hK.out _ _ ⟨(blk_cell BK497.out 0).trans rfl, (blk_cell BK497.out 1).trans rfl⟩ (fun hHeld => ?_)
                            clear hK K
                            refine norm_ (a' := ?_) ?_ ?_
                            rotate_left
                            · show Act.put _ (some 78) _ = _
                              simp only [Act.put, List.setIfInBounds_toArray, List.set_cons_zero, List.set_cons_succ, i64_w, i32_w]
                              rfl
                            refine two_ (i := 2) (j := 6) (Ni := some 79) (Nj := some 12) #[true, true, true, false, false, false, false, false, false] #[true, true, false, false, false, false, true, false, false] rfl rfl rfl rfl (two_of HT_.out (by kernel_rfl)) (by decide) (by decide) (fun K hK => ?_) (fun K hK => ?_)
                            · skip
                              refine goes_ Try.func25 (by kernel_rfl) rfl #[.agg #[.int .i64 t493, .int .u64 t494], .agg #[.int .i64 t510, .int .u64 t511]] (by rfl) rfl rfl aG ?_
                              with_reducible refine (wide_Add.calls t493 t494 t510 t511 t512 t513 t514 _ A55.out).mono ?_
                              rintro e w76 ⟨rfl, hb⟩
                              refine ⟨_, rfl, ?_⟩
                              have n0_ := Aside0.mk (bK BK492 hb)
                              have n1_ := Aside0.mk (bK BK497 hb)
                              have n2_ := Aside0.mk (bK BK502 hb)
                              have n3_ := Aside0.mk (bS hb)
                              clear BK492
                              clear BK497
                              clear BK502
                              clear HB
                              have BK492 := n0_
                              have BK497 := n1_
                              have BK502 := n2_
                              have HB := n3_
                              clear n0_ n1_ n2_ n3_
                              (try clear hb)
                              (try clear hb2)
                              (try clear hk)
                              (try clear hi)
                              refine hK.out _ _ ⟨(blk_cell BK497.out 0).trans rfl, (blk_cell BK497.out 1).trans rfl⟩ (fun hHeld => ?_)
                              clear hK K
                              refine norm_ (a' := ?_) ?_ ?_
                              rotate_left
                              · show Act.put _ (some 79) _ = _
                                simp only [Act.put, List.setIfInBounds_toArray, List.set_cons_zero, List.set_cons_succ, i64_w, i32_w]
                                rfl
                              refine pure_ (i := 3) (N := some 76) (v := ?_) (a' := ?_) #[true, true, true, true, false, false, false, false, false] rfl rfl (any_of HT_.out (by kernel_rfl)) (fun _ _ _ h => h) (Or.inl ⟨by rfl, ?_⟩) ?_ ?_
                              rotate_left
                              · intro w'
                                go_simp
                                with_reducible rfl
                              rotate_left
                              · simp only [Act.put, List.setIfInBounds_toArray, List.set_cons_zero, List.set_cons_succ, i64_w, i32_w]
                                rfl
                              refine pure_ (i := 4) (N := some 80) (v := ?_) (a' := ?_) #[true, true, true, true, true, false, false, false, false] rfl rfl (any_of HT_.out (by kernel_rfl)) (fun _ _ _ h => h) (Or.inl ⟨by rfl, ?_⟩) ?_ ?_
                              rotate_left
                              · intro w'
                                go_simp
                                with_reducible rfl
                              rotate_left
                              · simp only [Act.put, List.setIfInBounds_toArray, List.set_cons_zero, List.set_cons_succ, i64_w, i32_w]
                                rfl
                              refine pure_ (i := 5) (N := some 81) (v := ?_) (a' := ?_) #[true, true, true, true, true, true, false, false, false] rfl rfl (any_of HT_.out (by kernel_rfl)) (fun _ _ _ h => h) (Or.inl ⟨by rfl, ?_⟩) ?_ ?_
                              rotate_left
                              · intro w'
                                go_simp
                                with_reducible rfl
                              rotate_left
                              · simp only [Act.put, List.setIfInBounds_toArray, List.set_cons_zero, List.set_cons_succ, i64_w, i32_w]
                                rfl
                              refine one_ (i := 6) (N := some 12) #[true, true, true, true, true, true, true, false, false] rfl rfl (one_of HT_.out (by kernel_rfl)) (by decide) (fun K hK => ?_)
                              refine box_step ?hg (N := 12) ?hd (cs := #[.int .i64 0, .int .u64 0]) (t := 24) ?hr ?_; (case hd => rfl); (case hg => rfl); (case hr => first | (go_simp; done) | (go_simp; rfl))
                              intro gb515 hg w77 hbox hb
                              have n0_ := Aside0.mk (bK BK492 hb)
                              have n1_ := Aside0.mk (bK BK497 hb)
                              have n2_ := Aside0.mk (bK BK502 hb)
                              have n3_ := Aside0.mk (bS hb)
                              have n4_ := Aside0.mk (hbox)
                              have n5_ := Aside0.mk ((by rw [hg]; exact (below_size (bE)) : w.heap.size ≤ gb515))
                              have n6_ := Aside0.mk ((by rw [hg]; exact (below_size (bE)) : w.heap.size ≤ gb515))
                              have n7_ := Aside0.mk ((by rw [hg]; exact Nat.ne_of_lt (blk_lt (g := gb492) (o := .cells #[.int .i64 a0_0, .int .u64 a0_1] 24 (0, 0)) (by (with_reducible repeat (first | refine blk_drewN ?_ _ | refine blk_drew ?_ | refine blk_alloc ?_ _)); exact BK492.out)) : gb492 ≠ gb515))
                              have n8_ := Aside0.mk ((by rw [hg]; exact Nat.ne_of_gt (blk_lt (g := gb492) (o := .cells #[.int .i64 a0_0, .int .u64 a0_1] 24 (0, 0)) (by (with_reducible repeat (first | refine blk_drewN ?_ _ | refine blk_drew ?_ | refine blk_alloc ?_ _)); exact BK492.out)) : gb515 ≠ gb492))
                              have n9_ := Aside0.mk ((by rw [hg]; exact Nat.ne_of_lt (blk_lt (g := gb497) (o := .cells #[.int .i64 t493, .int .u64 t494] 24 (0, 0)) (by (with_reducible repeat (first | refine blk_drewN ?_ _ | refine blk_drew ?_ | refine blk_alloc ?_ _)); exact BK497.out)) : gb497 ≠ gb515))
                              have n10_ := Aside0.mk ((by rw [hg]; exact Nat.ne_of_gt (blk_lt (g := gb497) (o := .cells #[.int .i64 t493, .int .u64 t494] 24 (0, 0)) (by (with_reducible repeat (first | refine blk_drewN ?_ _ | refine blk_drew ?_ | refine blk_alloc ?_ _)); exact BK497.out)) : gb515 ≠ gb497))
                              have n11_ := Aside0.mk ((by rw [hg]; exact Nat.ne_of_lt (blk_lt (g := gb502) (o := .cells #[.int .i64 t499, .int .u64 t500] 24 (0, 0)) (by (with_reducible repeat (first | refine blk_drewN ?_ _ | refine blk_drew ?_ | refine blk_alloc ?_ _)); exact BK502.out)) : gb502 ≠ gb515))
                              have n12_ := Aside0.mk ((by rw [hg]; exact Nat.ne_of_gt (blk_lt (g := gb502) (o := .cells #[.int .i64 t499, .int .u64 t500] 24 (0, 0)) (by (with_reducible repeat (first | refine blk_drewN ?_ _ | refine blk_drew ?_ | refine blk_alloc ?_ _)); exact BK502.out)) : gb515 ≠ gb502))
                              clear BK492
                              clear BK497
                              clear BK502
                              clear HB
                              have BK492 := n0_
                              have BK497 := n1_
                              have BK502 := n2_
                              have HB := n3_
                              have BK515 := n4_
                              have GW515 := n5_
                              have GE515 := n6_
                              have NB492_515 := n7_
                              have NB515_492 := n8_
                              have NB497_515 := n9_
                              have NB515_497 := n10_
                              have NB502_515 := n11_
                              have NB515_502 := n12_
                              clear n0_ n1_ n2_ n3_ n4_ n5_ n6_ n7_ n8_ n9_ n10_ n11_ n12_
                              clear hb hbox hg
                              refine hK.out _ _ ⟨(blk_cell BK497.out 0).trans rfl, (blk_cell BK497.out 1).trans rfl⟩ (fun hHeld => ?_)
                              clear hK K
                              refine norm_ (a' := ?_) ?_ ?_
                              rotate_left
                              · show Act.put _ (some 12) _ = _
                                simp only [Act.put, List.setIfInBounds_toArray, List.set_cons_zero, List.set_cons_succ, i64_w, i32_w]
                                rfl
                              exact norm_ (by simp only [putAll, Act.put, List.setIfInBounds_toArray, List.set_cons_zero, List.set_cons_succ]) (hCont (gb515) _ ⟨hHeld, (by (with_reducible repeat (first | refine blk_drewN ?_ _ | refine blk_drew ?_ | refine blk_alloc ?_ _)); exact BK492.out), (by (with_reducible repeat (first | refine blk_drewN ?_ _ | refine blk_drew ?_ | refine blk_alloc ?_ _)); exact BK497.out), (by (with_reducible repeat (first | refine blk_drewN ?_ _ | refine blk_drew ?_ | refine blk_alloc ?_ _)); exact BK502.out), (by (with_reducible repeat (first | refine blk_drewN ?_ _ | refine blk_drew ?_ | refine blk_alloc ?_ _)); exact BK515.out), GW515.out, GE515.out, NB492_515.out, NB515_492.out, NB497_515.out, NB515_497.out, NB502_515.out, NB515_502.out, (bE)⟩)
                            · skip
                              refine box_step ?hg (N := 12) ?hd (cs := #[.int .i64 0, .int .u64 0]) (t := 24) ?hr ?_; (case hd => rfl); (case hg => rfl); (case hr => first | (go_simp; done) | (go_simp; rfl))
                              intro gb515 hg w76 hbox hb
                              have n0_ := Aside0.mk (bK BK492 hb)
                              have n1_ := Aside0.mk (bK BK497 hb)
                              have n2_ := Aside0.mk (bK BK502 hb)
                              have n3_ := Aside0.mk (bS hb)
                              have n4_ := Aside0.mk (hbox)
                              have n5_ := Aside0.mk ((by rw [hg]; exact (below_size (bE)) : w.heap.size ≤ gb515))
                              have n6_ := Aside0.mk ((by rw [hg]; exact (below_size (bE)) : w.heap.size ≤ gb515))
                              have n7_ := Aside0.mk ((by rw [hg]; exact Nat.ne_of_lt (blk_lt (g := gb492) (o := .cells #[.int .i64 a0_0, .int .u64 a0_1] 24 (0, 0)) (by (with_reducible repeat (first | refine blk_drewN ?_ _ | refine blk_drew ?_ | refine blk_alloc ?_ _)); exact BK492.out)) : gb492 ≠ gb515))
                              have n8_ := Aside0.mk ((by rw [hg]; exact Nat.ne_of_gt (blk_lt (g := gb492) (o := .cells #[.int .i64 a0_0, .int .u64 a0_1] 24 (0, 0)) (by (with_reducible repeat (first | refine blk_drewN ?_ _ | refine blk_drew ?_ | refine blk_alloc ?_ _)); exact BK492.out)) : gb515 ≠ gb492))
                              have n9_ := Aside0.mk ((by rw [hg]; exact Nat.ne_of_lt (blk_lt (g := gb497) (o := .cells #[.int .i64 t493, .int .u64 t494] 24 (0, 0)) (by (with_reducible repeat (first | refine blk_drewN ?_ _ | refine blk_drew ?_ | refine blk_alloc ?_ _)); exact BK497.out)) : gb497 ≠ gb515))
                              have n10_ := Aside0.mk ((by rw [hg]; exact Nat.ne_of_gt (blk_lt (g := gb497) (o := .cells #[.int .i64 t493, .int .u64 t494] 24 (0, 0)) (by (with_reducible repeat (first | refine blk_drewN ?_ _ | refine blk_drew ?_ | refine blk_alloc ?_ _)); exact BK497.out)) : gb515 ≠ gb497))
                              have n11_ := Aside0.mk ((by rw [hg]; exact Nat.ne_of_lt (blk_lt (g := gb502) (o := .cells #[.int .i64 t499, .int .u64 t500] 24 (0, 0)) (by (with_reducible repeat (first | refine blk_drewN ?_ _ | refine blk_drew ?_ | refine blk_alloc ?_ _)); exact BK502.out)) : gb502 ≠ gb515))
                              have n12_ := Aside0.mk ((by rw [hg]; exact Nat.ne_of_gt (blk_lt (g := gb502) (o := .cells #[.int .i64 t499, .int .u64 t500] 24 (0, 0)) (by (with_reducible repeat (first | refine blk_drewN ?_ _ | refine blk_drew ?_ | refine blk_alloc ?_ _)); exact BK502.out)) : gb515 ≠ gb502))
                              clear BK492
                              clear BK497
                              clear BK502
                              clear HB
                              have BK492 := n0_
                              have BK497 := n1_
                              have BK502 := n2_
                              have HB := n3_
                              have BK515 := n4_
                              have GW515 := n5_
                              have GE515 := n6_
                              have NB492_515 := n7_
                              have NB515_492 := n8_
                              have NB497_515 := n9_
                              have NB515_497 := n10_
                              have NB502_515 := n11_
                              have NB515_502 := n12_
                              clear n0_ n1_ n2_ n3_ n4_ n5_ n6_ n7_ n8_ n9_ n10_ n11_ n12_
                              clear hb hbox hg
                              refine hK.out _ _ ⟨(blk_cell BK497.out 0).trans rfl, (blk_cell BK497.out 1).trans rfl⟩ (fun hHeld => ?_)
                              clear hK K
                              refine norm_ (a' := ?_) ?_ ?_
                              rotate_left
                              · show Act.put _ (some 12) _ = _
                                simp only [Act.put, List.setIfInBounds_toArray, List.set_cons_zero, List.set_cons_succ, i64_w, i32_w]
                                rfl
                              refine one_ (i := 2) (N := some 79) #[true, true, true, false, false, false, true, false, false] rfl rfl (one_of HT_.out (by kernel_rfl)) (by decide) (fun K hK => ?_)
                              refine goes_ Try.func25 (by kernel_rfl) rfl #[.agg #[.int .i64 t493, .int .u64 t494], .agg #[.int .i64 t510, .int .u64 t511]] (by rfl) rfl rfl aG ?_
                              with_reducible refine (wide_Add.calls t493 t494 t510 t511 t512 t513 t514 _ A55.out).mono ?_
                              rintro e w77 ⟨rfl, hb⟩
                              refine ⟨_, rfl, ?_⟩
                              have n0_ := Aside0.mk (bK BK492 hb)
                              have n1_ := Aside0.mk (bK BK497 hb)
                              have n2_ := Aside0.mk (bK BK502 hb)
                              have n3_ := Aside0.mk (bK BK515 hb)
                              have n4_ := Aside0.mk (bS hb)
                              clear BK492
                              clear BK497
                              clear BK502
                              clear BK515
                              clear HB
                              have BK492 := n0_
                              have BK497 := n1_
                              have BK502 := n2_
                              have BK515 := n3_
                              have HB := n4_
                              clear n0_ n1_ n2_ n3_ n4_
                              (try clear hb)
                              (try clear hb2)
                              (try clear hk)
                              (try clear hi)
                              refine hK.out _ _ ⟨(blk_cell BK497.out 0).trans rfl, (blk_cell BK497.out 1).trans rfl⟩ (fun hHeld => ?_)
                              clear hK K
                              refine norm_ (a' := ?_) ?_ ?_
                              rotate_left
                              · show Act.put _ (some 79) _ = _
                                simp only [Act.put, List.setIfInBounds_toArray, List.set_cons_zero, List.set_cons_succ, i64_w, i32_w]
                                rfl
                              refine pure_ (i := 3) (N := some 76) (v := ?_) (a' := ?_) #[true, true, true, true, false, false, true, false, false] rfl rfl (any_of HT_.out (by kernel_rfl)) (fun _ _ _ h => h) (Or.inl ⟨by rfl, ?_⟩) ?_ ?_
                              rotate_left
                              · intro w'
                                go_simp
                                with_reducible rfl
                              rotate_left
                              · simp only [Act.put, List.setIfInBounds_toArray, List.set_cons_zero, List.set_cons_succ, i64_w, i32_w]
                                rfl
                              refine pure_ (i := 4) (N := some 80) (v := ?_) (a' := ?_) #[true, true, true, true, true, false, true, false, false] rfl rfl (any_of HT_.out (by kernel_rfl)) (fun _ _ _ h => h) (Or.inl ⟨by rfl, ?_⟩) ?_ ?_
                              rotate_left
                              · intro w'
                                go_simp
                                with_reducible rfl
                              rotate_left
                              · simp only [Act.put, List.setIfInBounds_toArray, List.set_cons_zero, List.set_cons_succ, i64_w, i32_w]
                                rfl
                              refine pure_ (i := 5) (N := some 81) (v := ?_) (a' := ?_) #[true, true, true, true, true, true, true, false, false] rfl rfl (any_of HT_.out (by kernel_rfl)) (fun _ _ _ h => h) (Or.inl ⟨by rfl, ?_⟩) ?_ ?_
                              rotate_left
                              · intro w'
                                go_simp
                                with_reducible rfl
                              rotate_left
                              · simp only [Act.put, List.setIfInBounds_toArray, List.set_cons_zero, List.set_cons_succ, i64_w, i32_w]
                                rfl
                              exact norm_ (by simp only [putAll, Act.put, List.setIfInBounds_toArray, List.set_cons_zero, List.set_cons_succ]) (hCont (gb515) _ ⟨hHeld, (by (with_reducible repeat (first | refine blk_drewN ?_ _ | refine blk_drew ?_ | refine blk_alloc ?_ _)); exact BK492.out), (by (with_reducible repeat (first | refine blk_drewN ?_ _ | refine blk_drew ?_ | refine blk_alloc ?_ _)); exact BK497.out), (by (with_reducible repeat (first | refine blk_drewN ?_ _ | refine blk_drew ?_ | refine blk_alloc ?_ _)); exact BK502.out), (by (with_reducible repeat (first | refine blk_drewN ?_ _ | refine blk_drew ?_ | refine blk_alloc ?_ _)); exact BK515.out), GW515.out, GE515.out, NB492_515.out, NB515_492.out, NB497_515.out, NB515_497.out, NB502_515.out, NB515_502.out, (bE)⟩)
                          · skip
                            refine box_step ?hg (N := 12) ?hd (cs := #[.int .i64 0, .int .u64 0]) (t := 24) ?hr ?_; (case hd => rfl); (case hg => rfl); (case hr => first | (go_simp; done) | (go_simp; rfl))
                            intro gb515 hg w75 hbox hb
                            have n0_ := Aside0.mk (bK BK492 hb)
                            have n1_ := Aside0.mk (bK BK497 hb)
                            have n2_ := Aside0.mk (bK BK502 hb)
                            have n3_ := Aside0.mk (bS hb)
                            have n4_ := Aside0.mk (hbox)
                            have n5_ := Aside0.mk ((by rw [hg]; exact (below_size (bE)) : w.heap.size ≤ gb515))
                            have n6_ := Aside0.mk ((by rw [hg]; exact (below_size (bE)) : w.heap.size ≤ gb515))
                            have n7_ := Aside0.mk ((by rw [hg]; exact Nat.ne_of_lt (blk_lt (g := gb492) (o := .cells #[.int .i64 a0_0, .int .u64 a0_1] 24 (0, 0)) (by (with_reducible repeat (first | refine blk_drewN ?_ _ | refine blk_drew ?_ | refine blk_alloc ?_ _)); exact BK492.out)) : gb492 ≠ gb515))
                            have n8_ := Aside0.mk ((by rw [hg]; exact Nat.ne_of_gt (blk_lt (g := gb492) (o := .cells #[.int .i64 a0_0, .int .u64 a0_1] 24 (0, 0)) (by (with_reducible repeat (first | refine blk_drewN ?_ _ | refine blk_drew ?_ | refine blk_alloc ?_ _)); exact BK492.out)) : gb515 ≠ gb492))
                            have n9_ := Aside0.mk ((by rw [hg]; exact Nat.ne_of_lt (blk_lt (g := gb497) (o := .cells #[.int .i64 t493, .int .u64 t494] 24 (0, 0)) (by (with_reducible repeat (first | refine blk_drewN ?_ _ | refine blk_drew ?_ | refine blk_alloc ?_ _)); exact BK497.out)) : gb497 ≠ gb515))
                            have n10_ := Aside0.mk ((by rw [hg]; exact Nat.ne_of_gt (blk_lt (g := gb497) (o := .cells #[.int .i64 t493, .int .u64 t494] 24 (0, 0)) (by (with_reducible repeat (first | refine blk_drewN ?_ _ | refine blk_drew ?_ | refine blk_alloc ?_ _)); exact BK497.out)) : gb515 ≠ gb497))
                            have n11_ := Aside0.mk ((by rw [hg]; exact Nat.ne_of_lt (blk_lt (g := gb502) (o := .cells #[.int .i64 t499, .int .u64 t500] 24 (0, 0)) (by (with_reducible repeat (first | refine blk_drewN ?_ _ | refine blk_drew ?_ | refine blk_alloc ?_ _)); exact BK502.out)) : gb502 ≠ gb515))
                            have n12_ := Aside0.mk ((by rw [hg]; exact Nat.ne_of_gt (blk_lt (g := gb502) (o := .cells #[.int .i64 t499, .int .u64 t500] 24 (0, 0)) (by (with_reducible repeat (first | refine blk_drewN ?_ _ | refine blk_drew ?_ | refine blk_alloc ?_ _)); exact BK502.out)) : gb515 ≠ gb502))
                            clear BK492
                            clear BK497
                            clear BK502
                            clear HB
                            have BK492 := n0_
                            have BK497 := n1_
                            have BK502 := n2_
                            have HB := n3_
                            have BK515 := n4_
                            have GW515 := n5_
                            have GE515 := n6_
                            have NB492_515 := n7_
                            have NB515_492 := n8_
                            have NB497_515 := n9_
                            have NB515_497 := n10_
                            have NB502_515 := n11_
                            have NB515_502 := n12_
                            clear n0_ n1_ n2_ n3_ n4_ n5_ n6_ n7_ n8_ n9_ n10_ n11_ n12_
                            clear hb hbox hg
                            refine hK.out _ _ ⟨(blk_cell BK497.out 0).trans rfl, (blk_cell BK497.out 1).trans rfl⟩ (fun hHeld => ?_)
                            clear hK K
                            refine norm_ (a' := ?_) ?_ ?_
                            rotate_left
                            · show Act.put _ (some 12) _ = _
                              simp only [Act.put, List.setIfInBounds_toArray, List.set_cons_zero, List.set_cons_succ, i64_w, i32_w]
                              rfl
                            refine one_ (i := 1) (N := some 78) #[true, true, false, false, false, false, true, false, false] rfl rfl (one_of HT_.out (by kernel_rfl)) (by decide) (fun K hK => ?_)
                            refine goes_ Try.func23 (by kernel_rfl) rfl #[.int .i64 1] (by rfl) rfl rfl aG ?_
                            with_reducible refine (wide_Of.calls 1 t510 t511 _ A54.out).mono ?_
                            rintro e w76 ⟨rfl, hb⟩
                            refine ⟨_, rfl, ?_⟩
                            have n0_ := Aside0.mk (bK BK492 hb)
                            have n1_ := Aside0.mk (bK BK497 hb)
                            have n2_ := Aside0.mk (bK BK502 hb)
                            have n3_ := Aside0.mk (bK BK515 hb)
                            have n4_ := Aside0.mk (bS hb)
                            clear BK492
                            clear BK497
                            clear BK502
                            clear BK515
                            clear HB
                            have BK492 := n0_
                            have BK497 := n1_
                            have BK502 := n2_
                            have BK515 := n3_
                            have HB := n4_
                            clear n0_ n1_ n2_ n3_ n4_
                            (try clear hb)
                            (try clear hb2)
                            (try clear hk)
                            (try clear hi)
                            refine hK.out _ _ ⟨(blk_cell BK497.out 0).trans rfl, (blk_cell BK497.out 1).trans rfl⟩ (fun hHeld => ?_)
                            clear hK K
                            refine norm_ (a' := ?_) ?_ ?_
                            rotate_left
                            · show Act.put _ (some 78) _ = _
                              simp only [Act.put, List.setIfInBounds_toArray, List.set_cons_zero, List.set_cons_succ, i64_w, i32_w]
                              rfl
                            refine one_ (i := 2) (N := some 79) #[true, true, true, false, false, false, true, false, false] rfl rfl (one_of HT_.out (by kernel_rfl)) (by decide) (fun K hK => ?_)
                            refine goes_ Try.func25 (by kernel_rfl) rfl #[.agg #[.int .i64 t493, .int .u64 t494], .agg #[.int .i64 t510, .int .u64 t511]] (by rfl) rfl rfl aG ?_
                            with_reducible refine (wide_Add.calls t493 t494 t510 t511 t512 t513 t514 _ A55.out).mono ?_
                            rintro e w77 ⟨rfl, hb⟩
                            refine ⟨_, rfl, ?_⟩
                            have n0_ := Aside0.mk (bK BK492 hb)
                            have n1_ := Aside0.mk (bK BK497 hb)
                            have n2_ := Aside0.mk (bK BK502 hb)
                            have n3_ := Aside0.mk (bK BK515 hb)
                            have n4_ := Aside0.mk (bS hb)
                            clear BK492
                            clear BK497
                            clear BK502
                            clear BK515
                            clear HB
                            have BK492 := n0_
                            have BK497 := n1_
                            have BK502 := n2_
                            have BK515 := n3_
                            have HB := n4_
                            clear n0_ n1_ n2_ n3_ n4_
                            (try clear hb)
                            (try clear hb2)
                            (try clear hk)
                            (try clear hi)
                            refine hK.out _ _ ⟨(blk_cell BK497.out 0).trans rfl, (blk_cell BK497.out 1).trans rfl⟩ (fun hHeld => ?_)
                            clear hK K
                            refine norm_ (a' := ?_) ?_ ?_
                            rotate_left
                            · show Act.put _ (some 79) _ = _
                              simp only [Act.put, List.setIfInBounds_toArray, List.set_cons_zero, List.set_cons_succ, i64_w, i32_w]
                              rfl
                            refine pure_ (i := 3) (N := some 76) (v := ?_) (a' := ?_) #[true, true, true, true, false, false, true, false, false] rfl rfl (any_of HT_.out (by kernel_rfl)) (fun _ _ _ h => h) (Or.inl ⟨by rfl, ?_⟩) ?_ ?_
                            rotate_left
                            · intro w'
                              go_simp
                              with_reducible rfl
                            rotate_left
                            · simp only [Act.put, List.setIfInBounds_toArray, List.set_cons_zero, List.set_cons_succ, i64_w, i32_w]
                              rfl
                            refine pure_ (i := 4) (N := some 80) (v := ?_) (a' := ?_) #[true, true, true, true, true, false, true, false, false] rfl rfl (any_of HT_.out (by kernel_rfl)) (fun _ _ _ h => h) (Or.inl ⟨by rfl, ?_⟩) ?_ ?_
                            rotate_left
                            · intro w'
                              go_simp
                              with_reducible rfl
                            rotate_left
                            · simp only [Act.put, List.setIfInBounds_toArray, List.set_cons_zero, List.set_cons_succ, i64_w, i32_w]
                              rfl
                            refine pure_ (i := 5) (N := some 81) (v := ?_) (a' := ?_) #[true, true, true, true, true, true, true, false, false] rfl rfl (any_of HT_.out (by kernel_rfl)) (fun _ _ _ h => h) (Or.inl ⟨by rfl, ?_⟩) ?_ ?_
                            rotate_left
                            · intro w'
                              go_simp
                              with_reducible rfl
                            rotate_left
                            · simp only [Act.put, List.setIfInBounds_toArray, List.set_cons_zero, List.set_cons_succ, i64_w, i32_w]
                              rfl
                            exact norm_ (by simp only [putAll, Act.put, List.setIfInBounds_toArray, List.set_cons_zero, List.set_cons_succ]) (hCont (gb515) _ ⟨hHeld, (by (with_reducible repeat (first | refine blk_drewN ?_ _ | refine blk_drew ?_ | refine blk_alloc ?_ _)); exact BK492.out), (by (with_reducible repeat (first | refine blk_drewN ?_ _ | refine blk_drew ?_ | refine blk_alloc ?_ _)); exact BK497.out), (by (with_reducible repeat (first | refine blk_drewN ?_ _ | refine blk_drew ?_ | refine blk_alloc ?_ _)); exact BK502.out), (by (with_reducible repeat (first | refine blk_drewN ?_ _ | refine blk_drew ?_ | refine blk_alloc ?_ _)); exact BK515.out), GW515.out, GE515.out, NB492_515.out, NB515_492.out, NB497_515.out, NB515_497.out, NB502_515.out, NB515_502.out, (bE)⟩)
                        rintro gb515 w78 ⟨hS_, h0_, h1_, h2_, h3_, h4_, h5_, h6_, h7_, h8_, h9_, h10_, h11_, h12_⟩
                        have n0_ : Aside0 (w78.heap[gb492]? = some (.cells #[.int .i64 a0_0, .int .u64 a0_1] 24 (0, 0))) := ⟨h0_⟩
                        have n1_ : Aside0 (w78.heap[gb497]? = some (.cells #[.int .i64 t493, .int .u64 t494] 24 (0, 0))) := ⟨h1_⟩
                        have n2_ : Aside0 (w78.heap[gb502]? = some (.cells #[.int .i64 t499, .int .u64 t500] 24 (0, 0))) := ⟨h2_⟩
                        have n3_ : Aside0 (w78.heap[gb515]? = some (.cells #[.int .i64 0, .int .u64 0] 24 (0, 0))) := ⟨h3_⟩
                        have n4_ : Aside0 (w.heap.size ≤ gb515) := ⟨h4_⟩
                        have n5_ : Aside0 (w.heap.size ≤ gb515) := ⟨h5_⟩
                        have n6_ : Aside0 (gb492 ≠ gb515) := ⟨h6_⟩
                        have n7_ : Aside0 (gb515 ≠ gb492) := ⟨h7_⟩
                        have n8_ : Aside0 (gb497 ≠ gb515) := ⟨h8_⟩
                        have n9_ : Aside0 (gb515 ≠ gb497) := ⟨h9_⟩
                        have n10_ : Aside0 (gb502 ≠ gb515) := ⟨h10_⟩
                        have n11_ : Aside0 (gb515 ≠ gb502) := ⟨h11_⟩
                        have n12_ : Aside0 (Below w.heap.size w w78) := ⟨h12_⟩
                        clear BK492
                        clear BK497
                        clear BK502
                        clear HB
                        clear h0_ h1_ h2_ h3_ h4_ h5_ h6_ h7_ h8_ h9_ h10_ h11_ h12_
                        have BK492 := n0_
                        have BK497 := n1_
                        have BK502 := n2_
                        have BK515 := n3_
                        have GW515 := n4_
                        have GE515 := n5_
                        have NB492_515 := n6_
                        have NB515_492 := n7_
                        have NB497_515 := n8_
                        have NB515_497 := n9_
                        have NB502_515 := n10_
                        have NB515_502 := n11_
                        have HB := n12_
                        clear n0_ n1_ n2_ n3_ n4_ n5_ n6_ n7_ n8_ n9_ n10_ n11_ n12_
                        have hHeld : w78.cell? ⟨gb497, 0, none⟩ = some (.int .i64 t493) ∧ w78.cell? ⟨gb497, 1, none⟩ = some (.int .u64 t494) := hS_
                        refine norm_ (a' := ?_) ?_ ?_
                        rotate_left
                        · simp only [putAll, Act.put, List.setIfInBounds_toArray, List.set_cons_zero, List.set_cons_succ]
                          rfl
                        refine one_ (i := 7) (N := none) #[true, true, true, true, true, true, true, true, false] rfl rfl (one_of HT_.out (by kernel_rfl)) (by decide) (fun K hK => ?_)
                        have hs79 : w78.cell? ⟨gb515, 0, none⟩ = some (.int .i64 0) := (blk_cell BK515.out 0).trans rfl
                        have hfs79 := blk_frozen BK515.out 0
                        have hns79_0 := NB492_515.out
                        have hns79_1 := NB497_515.out
                        have hns79_2 := NB502_515.out
                        have hms79_0 := NB515_492.out
                        have hms79_1 := NB515_497.out
                        have hms79_2 := NB515_502.out
                        have hs80 : w78.cell? ⟨gb515, 1, none⟩ = some (.int .u64 0) := (blk_cell BK515.out 1).trans rfl
                        have hfs80 := blk_frozen BK515.out 1
                        have hns80_0 := NB492_515.out
                        have hns80_1 := NB497_515.out
                        have hns80_2 := NB502_515.out
                        have hms80_0 := NB515_492.out
                        have hms80_1 := NB515_497.out
                        have hms80_2 := NB515_502.out
                        refine skip_ (w1 := ?_) (by rfl) rfl ?_ ?_
                        rotate_left
                        · go_simp
                          rfl
                        refine hK.out _ _ ⟨((cell_far (p := ⟨gb515, _, none⟩) NB497_515.out _).trans (((cell_far (p := ⟨gb515, _, none⟩) NB497_515.out _).trans (hHeld.1)))), ((cell_far (p := ⟨gb515, _, none⟩) NB497_515.out _).trans (((cell_far (p := ⟨gb515, _, none⟩) NB497_515.out _).trans (hHeld.2))))⟩ (fun hHeld => ?_)
                        clear hK K
                        refine pure_ (i := 8) (N := some 13) (v := ?_) (a' := ?_) #[true, true, true, true, true, true, true, true, true] rfl rfl (any_of HT_.out (by kernel_rfl)) (fun _ _ _ h => h) (Or.inl ⟨by rfl, ?_⟩) ?_ ?_
                        rotate_left
                        · intro w'
                          go_simp
                          with_reducible rfl
                        rotate_left
                        · simp only [Act.put, List.setIfInBounds_toArray, List.set_cons_zero, List.set_cons_succ, i64_w, i32_w]
                          rfl
                        refine done_ (done_of HT_.out (by kernel_rfl)) ?_
                        have hnb81 := NB515_492.out
                        have hnc81 := NB492_515.out
                        have hnb82 := NB515_497.out
                        have hnc82 := NB497_515.out
                        have hnb83 := NB515_502.out
                        have hnc83 := NB502_515.out
                        have hcz84_0 : w78.cell? ⟨gb515, 0, none⟩ = some (.int .i64 0) := (blk_cell BK515.out 0).trans rfl
                        have hcz84_1 : w78.cell? ⟨gb515, 1, none⟩ = some (.int .u64 0) := (blk_cell BK515.out 1).trans rfl
                        have hfz84_0 := blk_frozen BK515.out 0
                        have hfz84_1 := blk_frozen BK515.out 1
                        try go_wp2_with (first | ((with_reducible refine gate_callee (f := 17) rfl ?_); refine goesL_ (some 85) rfl rfl Try.func17 (by kernel_rfl) rfl #[.agg #[.int .i64 t512, .int .u64 t513], .int .i64 a1] rfl aG ?_; (with_reducible refine (wide_Scale.calls kj15 t512 t513 a1 t516 t517 t518 _ A56.out).mono ?_); rintro e w85 ⟨rfl, hb⟩; refine ⟨_, rfl, ?_⟩; replace BK492 := Aside0.mk (blk_below (g := gb492) (o := .cells #[.int .i64 a0_0, .int .u64 a0_1] 24 (0, 0)) (by (with_reducible repeat (first | refine blk_drewN ?_ _ | refine blk_drew ?_ | refine blk_alloc ?_ _)); refine blk_far ?_ NB492_515.out _; (with_reducible repeat (first | refine blk_drewN ?_ _ | refine blk_drew ?_ | refine blk_alloc ?_ _)); refine blk_far ?_ NB492_515.out _; (with_reducible repeat (first | refine blk_drewN ?_ _ | refine blk_drew ?_ | refine blk_alloc ?_ _)); exact BK492.out) hb); replace BK497 := Aside0.mk (blk_below (g := gb497) (o := .cells #[.int .i64 t493, .int .u64 t494] 24 (0, 0)) (by (with_reducible repeat (first | refine blk_drewN ?_ _ | refine blk_drew ?_ | refine blk_alloc ?_ _)); refine blk_far ?_ NB497_515.out _; (with_reducible repeat (first | refine blk_drewN ?_ _ | refine blk_drew ?_ | refine blk_alloc ?_ _)); refine blk_far ?_ NB497_515.out _; (with_reducible repeat (first | refine blk_drewN ?_ _ | refine blk_drew ?_ | refine blk_alloc ?_ _)); exact BK497.out) hb); replace BK502 := Aside0.mk (blk_below (g := gb502) (o := .cells #[.int .i64 t499, .int .u64 t500] 24 (0, 0)) (by (with_reducible repeat (first | refine blk_drewN ?_ _ | refine blk_drew ?_ | refine blk_alloc ?_ _)); refine blk_far ?_ NB502_515.out _; (with_reducible repeat (first | refine blk_drewN ?_ _ | refine blk_drew ?_ | refine blk_alloc ?_ _)); refine blk_far ?_ NB502_515.out _; (with_reducible repeat (first | refine blk_drewN ?_ _ | refine blk_drew ?_ | refine blk_alloc ?_ _)); exact BK502.out) hb); replace BK515 := Aside0.mk (blk_below (g := gb515) (o := .cells #[.int .i64 t512, .int .u64 t513] 24 (0, 0)) (by (with_reducible repeat (first | refine blk_drewN ?_ _ | refine blk_drew ?_ | refine blk_alloc ?_ _)); refine blk_put (cs := #[.int .i64 t512, .int .u64 0]) ?_ 1 _ rfl; (with_reducible repeat (first | refine blk_drewN ?_ _ | refine blk_drew ?_ | refine blk_alloc ?_ _)); refine blk_put (cs := #[.int .i64 0, .int .u64 0]) ?_ 0 _ rfl; (with_reducible repeat (first | refine blk_drewN ?_ _ | refine blk_drew ?_ | refine blk_alloc ?_ _)); exact BK515.out) hb); replace HB := Aside0.mk (bS hb); (try clear hb); (try clear hb2); (try clear hk); (try clear hi); have hcz86_0 : w85.cell? ⟨gb502, 0, none⟩ = some (.int .i64 t499) := (blk_cell BK502.out 0).trans rfl; have hcz86_1 : w85.cell? ⟨gb502, 1, none⟩ = some (.int .u64 t500) := (blk_cell BK502.out 1).trans rfl; have hfz86_0 := blk_frozen BK502.out 0; have hfz86_1 := blk_frozen BK502.out 1))
                        have n0_ : Aside0 (((w85.setCell ⟨gb502, 0, none⟩ (.int .i64 t516)).setCell ⟨gb502, 1, none⟩ (.int .u64 t517)).heap[gb492]? = some (.cells #[.int .i64 a0_0, .int .u64 a0_1] 24 (0, 0))) := ⟨by (with_reducible repeat (first | refine blk_drewN ?_ _ | refine blk_drew ?_ | refine blk_alloc ?_ _)); refine blk_far ?_ NB492_502.out _; (with_reducible repeat (first | refine blk_drewN ?_ _ | refine blk_drew ?_ | refine blk_alloc ?_ _)); refine blk_far ?_ NB492_502.out _; (with_reducible repeat (first | refine blk_drewN ?_ _ | refine blk_drew ?_ | refine blk_alloc ?_ _)); exact BK492.out⟩
                        have n1_ : Aside0 (((w85.setCell ⟨gb502, 0, none⟩ (.int .i64 t516)).setCell ⟨gb502, 1, none⟩ (.int .u64 t517)).heap[gb497]? = some (.cells #[.int .i64 t493, .int .u64 t494] 24 (0, 0))) := ⟨by (with_reducible repeat (first | refine blk_drewN ?_ _ | refine blk_drew ?_ | refine blk_alloc ?_ _)); refine blk_far ?_ NB497_502.out _; (with_reducible repeat (first | refine blk_drewN ?_ _ | refine blk_drew ?_ | refine blk_alloc ?_ _)); refine blk_far ?_ NB497_502.out _; (with_reducible repeat (first | refine blk_drewN ?_ _ | refine blk_drew ?_ | refine blk_alloc ?_ _)); exact BK497.out⟩
                        have n2_ : Aside0 (((w85.setCell ⟨gb502, 0, none⟩ (.int .i64 t516)).setCell ⟨gb502, 1, none⟩ (.int .u64 t517)).heap[gb502]? = some (.cells #[.int .i64 t516, .int .u64 t517] 24 (0, 0))) := ⟨by (with_reducible repeat (first | refine blk_drewN ?_ _ | refine blk_drew ?_ | refine blk_alloc ?_ _)); refine blk_put (cs := #[.int .i64 t516, .int .u64 t500]) ?_ 1 _ rfl; (with_reducible repeat (first | refine blk_drewN ?_ _ | refine blk_drew ?_ | refine blk_alloc ?_ _)); refine blk_put (cs := #[.int .i64 t499, .int .u64 t500]) ?_ 0 _ rfl; (with_reducible repeat (first | refine blk_drewN ?_ _ | refine blk_drew ?_ | refine blk_alloc ?_ _)); exact BK502.out⟩
                        have n3_ : Aside0 (((w85.setCell ⟨gb502, 0, none⟩ (.int .i64 t516)).setCell ⟨gb502, 1, none⟩ (.int .u64 t517)).heap[gb515]? = some (.cells #[.int .i64 t512, .int .u64 t513] 24 (0, 0))) := ⟨by (with_reducible repeat (first | refine blk_drewN ?_ _ | refine blk_drew ?_ | refine blk_alloc ?_ _)); refine blk_far ?_ NB515_502.out _; (with_reducible repeat (first | refine blk_drewN ?_ _ | refine blk_drew ?_ | refine blk_alloc ?_ _)); refine blk_far ?_ NB515_502.out _; (with_reducible repeat (first | refine blk_drewN ?_ _ | refine blk_drew ?_ | refine blk_alloc ?_ _)); exact BK515.out⟩
                        have n4_ : Aside0 (Below w.heap.size w ((w85.setCell ⟨gb502, 0, none⟩ (.int .i64 t516)).setCell ⟨gb502, 1, none⟩ (.int .u64 t517))) := ⟨bE⟩
                        (try clear BK492)
                        (try clear BK497)
                        (try clear BK502)
                        (try clear BK515)
                        (try clear HB)
                        generalize ((w85.setCell ⟨gb502, 0, none⟩ (.int .i64 t516)).setCell ⟨gb502, 1, none⟩ (.int .u64 t517)) = w87 at n0_ n1_ n2_ n3_ n4_ ⊢
                        have BK492 := n0_
                        have BK497 := n1_
                        have BK502 := n2_
                        have BK515 := n3_
                        have HB := n4_
                        clear n0_ n1_ n2_ n3_ n4_
                        have n0_ := Aside0.mk (blk_drew BK492.out)
                        have n1_ := Aside0.mk (blk_drew BK497.out)
                        have n2_ := Aside0.mk (blk_drew BK502.out)
                        have n3_ := Aside0.mk (blk_drew BK515.out)
                        have n4_ := Aside0.mk (below_drew1 HB.out)
                        clear BK492
                        clear BK497
                        clear BK502
                        clear BK515
                        clear HB
                        have BK492 := n0_
                        have BK497 := n1_
                        have BK502 := n2_
                        have BK515 := n3_
                        have HB := n4_
                        clear n0_ n1_ n2_ n3_ n4_
                        refine start_ (n := 12) (S := fun w' => w'.cell? ⟨gb502, 0, none⟩ = some (.int .i64 t516) ∧ w'.cell? ⟨gb502, 1, none⟩ = some (.int .u64 t517)) (ds := []) #[false, false, false, false, false, false, false, false, false, false, false, false] (by kernel_rfl) rfl rfl ⟨(blk_cell BK502.out 0).trans rfl, (blk_cell BK502.out 1).trans rfl⟩ (fun hHeld => ?_); refine with_tabW corebanklaw01_WideDivides.tab12 corebanklaw01_WideDivides.bits12 (fun HT_ HW_ => ?_)
                        generalize w87.drew = w88 at BK492 BK497 BK502 BK515 HB hHeld ⊢
                        refine pure_ (i := 1) (N := some 90) (v := ?_) (a' := ?_) #[false, true, false, false, false, false, false, false, false, false, false, false] rfl rfl (any_of HT_.out (by kernel_rfl)) (fun _ _ _ h => h) (Or.inl ⟨by rfl, ?_⟩) ?_ ?_
                        rotate_left
                        · intro w'
                          go_simp
                          with_reducible rfl
                        rotate_left
                        · simp only [Act.put, List.setIfInBounds_toArray, List.set_cons_zero, List.set_cons_succ, i64_w, i32_w]
                          rfl
                        refine pure_ (i := 2) (N := some 91) (v := ?_) (a' := ?_) #[false, true, true, false, false, false, false, false, false, false, false, false] rfl rfl (any_of HT_.out (by kernel_rfl)) (fun _ _ _ h => h) (Or.inl ⟨by rfl, ?_⟩) ?_ ?_
                        rotate_left
                        · intro w'
                          go_simp
                          with_reducible rfl
                        rotate_left
                        · simp only [Act.put, List.setIfInBounds_toArray, List.set_cons_zero, List.set_cons_succ, i64_w, i32_w]
                          rfl
                        refine pure_ (i := 3) (N := some 92) (v := ?_) (a' := ?_) #[false, true, true, true, false, false, false, false, false, false, false, false] rfl rfl (any_of HT_.out (by kernel_rfl)) (fun _ _ _ h => h) (Or.inl ⟨by rfl, ?_⟩) ?_ ?_
                        rotate_left
                        · intro w'
                          go_simp
                          with_reducible rfl
                        rotate_left
                        · simp only [Act.put, List.setIfInBounds_toArray, List.set_cons_zero, List.set_cons_succ, i64_w, i32_w]
                          rfl
                        refine take_ (i := 0) (N := some 89) (v := ?_) (a' := ?_) #[true, true, true, true, false, false, false, false, false, false, false, false] rfl rfl (take_ofW HT_.out HW_.out (by kernel_rfl)) (fun _ _ _ h => h) (Or.inl ⟨by rfl, ?_⟩) hHeld ?_ ?_
                        rotate_left
                        · rintro w' ⟨s0, s1⟩
                          go_simp
                          with_reducible rfl
                        rotate_left
                        · simp only [Act.put, List.setIfInBounds_toArray, List.set_cons_zero, List.set_cons_succ, i64_w, i32_w]
                          rfl
                        refine join_ (σ := Nat) 2 #[true, true, true, true, true, true, true, true, true, true, false, false] (fun s_ => [(93, .agg #[.int .i64 t519, .int .u64 t520]), (94, .tuple #[.agg #[.int .i64 t521, .int .u64 t522], .int .i64 t523]), (15, .pointer (some ⟨s_, 0, none⟩)), (88, .tuple #[.agg #[.int .i64 t521, .int .u64 t522], .int .i64 t523]), (95, .agg #[.int .i64 t521, .int .u64 t522]), (96, .int .i64 t523)]) (fun s_ w' => (w'.cell? ⟨gb502, 0, none⟩ = some (.int .i64 t516) ∧ w'.cell? ⟨gb502, 1, none⟩ = some (.int .u64 t517)) ∧ (w'.heap[gb492]? = some (.cells #[.int .i64 a0_0, .int .u64 a0_1] 24 (0, 0))) ∧ (w'.heap[gb497]? = some (.cells #[.int .i64 t493, .int .u64 t494] 24 (0, 0))) ∧ (w'.heap[gb502]? = some (.cells #[.int .i64 t516, .int .u64 t517] 24 (0, 0))) ∧ (w'.heap[gb515]? = some (.cells #[.int .i64 t512, .int .u64 t513] 24 (0, 0))) ∧ (w'.heap[s_]? = some (.cells #[.int .i64 0, .int .u64 0] 24 (0, 0))) ∧ (w.heap.size ≤ s_) ∧ (w.heap.size ≤ s_) ∧ (gb492 ≠ s_) ∧ (s_ ≠ gb492) ∧ (gb497 ≠ s_) ∧ (s_ ≠ gb497) ∧ (gb502 ≠ s_) ∧ (s_ ≠ gb502) ∧ (gb515 ≠ s_) ∧ (s_ ≠ gb515) ∧ (Below w.heap.size w w')) ?_ ?_
                        rotate_left
                        · intro hCont
                          refine two_ (i := 4) (j := 9) (Ni := some 93) (Nj := some 15) #[true, true, true, true, true, false, false, false, false, false, false, false] #[true, true, true, true, false, false, false, false, false, true, false, false] rfl rfl rfl rfl (two_of HT_.out (by kernel_rfl)) (by decide) (by decide) (fun K hK => ?_) (fun K hK => ?_)
                          · skip
                            refine goes_ Try.func23 (by kernel_rfl) rfl #[.int .i64 (wrap64 (a1 - t495))] (by rfl) rfl rfl aG ?_
                            with_reducible refine (wide_Of.calls (wrap64 (a1 - t495)) t519 t520 _ A57.out).mono ?_
                            rintro e w89 ⟨rfl, hb⟩
                            refine ⟨_, rfl, ?_⟩
                            have n0_ := Aside0.mk (bK BK492 hb)
                            have n1_ := Aside0.mk (bK BK497 hb)
                            have n2_ := Aside0.mk (bK BK502 hb)
                            have n3_ := Aside0.mk (bK BK515 hb)
                            have n4_ := Aside0.mk (bS hb)
                            clear BK492
                            clear BK497
                            clear BK502
                            clear BK515
                            clear HB
                            have BK492 := n0_
                            have BK497 := n1_
                            have BK502 := n2_
                            have BK515 := n3_
                            have HB := n4_
                            clear n0_ n1_ n2_ n3_ n4_
                            (try clear hb)
                            (try clear hb2)
                            (try clear hk)
                            (try clear hi)
                            refine hK.out _ _ ⟨(blk_cell BK502.out 0).trans rfl, (blk_cell BK502.out 1).trans rfl⟩ (fun hHeld => ?_)
                            clear hK K
                            refine norm_ (a' := ?_) ?_ ?_
                            rotate_left
                            · show Act.put _ (some 93) _ = _
                              simp only [Act.put, List.setIfInBounds_toArray, List.set_cons_zero, List.set_cons_succ, i64_w, i32_w]
                              rfl
                            refine two_ (i := 5) (j := 9) (Ni := some 94) (Nj := some 15) #[true, true, true, true, true, true, false, false, false, false, false, false] #[true, true, true, true, true, false, false, false, false, true, false, false] rfl rfl rfl rfl (two_of HT_.out (by kernel_rfl)) (by decide) (by decide) (fun K hK => ?_) (fun K hK => ?_)
                            · skip
                              refine goes_ Try.func27 (by kernel_rfl) rfl #[.agg #[.int .i64 t516, .int .u64 t517], .agg #[.int .i64 t519, .int .u64 t520]] (by rfl) rfl rfl aG ?_
                              with_reducible refine (wide_Sub.calls t516 t517 t519 t520 t521 t522 t523 _ A58.out).mono ?_
                              rintro e w90 ⟨rfl, hb⟩
                              refine ⟨_, rfl, ?_⟩
                              have n0_ := Aside0.mk (bK BK492 hb)
                              have n1_ := Aside0.mk (bK BK497 hb)
                              have n2_ := Aside0.mk (bK BK502 hb)
                              have n3_ := Aside0.mk (bK BK515 hb)
                              have n4_ := Aside0.mk (bS hb)
                              clear BK492
                              clear BK497
                              clear BK502
                              clear BK515
                              clear HB
                              have BK492 := n0_
                              have BK497 := n1_
                              have BK502 := n2_
                              have BK515 := n3_
                              have HB := n4_
                              clear n0_ n1_ n2_ n3_ n4_
                              (try clear hb)
                              (try clear hb2)
                              (try clear hk)
                              (try clear hi)
                              refine hK.out _ _ ⟨(blk_cell BK502.out 0).trans rfl, (blk_cell BK502.out 1).trans rfl⟩ (fun hHeld => ?_)
                              clear hK K
                              refine norm_ (a' := ?_) ?_ ?_
                              rotate_left
                              · show Act.put _ (some 94) _ = _
                                simp only [Act.put, List.setIfInBounds_toArray, List.set_cons_zero, List.set_cons_succ, i64_w, i32_w]
                                rfl
                              refine pure_ (i := 6) (N := some 88) (v := ?_) (a' := ?_) #[true, true, true, true, true, true, true, false, false, false, false, false] rfl rfl (any_of HT_.out (by kernel_rfl)) (fun _ _ _ h => h) (Or.inl ⟨by rfl, ?_⟩) ?_ ?_
                              rotate_left
                              · intro w'
                                go_simp
                                with_reducible rfl
                              rotate_left
                              · simp only [Act.put, List.setIfInBounds_toArray, List.set_cons_zero, List.set_cons_succ, i64_w, i32_w]
                                rfl
                              refine pure_ (i := 7) (N := some 95) (v := ?_) (a' := ?_) #[true, true, true, true, true, true, true, true, false, false, false, false] rfl rfl (any_of HT_.out (by kernel_rfl)) (fun _ _ _ h => h) (Or.inl ⟨by rfl, ?_⟩) ?_ ?_
                              rotate_left
                              · intro w'
                                go_simp
                                with_reducible rfl
                              rotate_left
                              · simp only [Act.put, List.setIfInBounds_toArray, List.set_cons_zero, List.set_cons_succ, i64_w, i32_w]
                                rfl
                              refine pure_ (i := 8) (N := some 96) (v := ?_) (a' := ?_) #[true, true, true, true, true, true, true, true, true, false, false, false] rfl rfl (any_of HT_.out (by kernel_rfl)) (fun _ _ _ h => h) (Or.inl ⟨by rfl, ?_⟩) ?_ ?_
                              rotate_left
                              · intro w'
                                go_simp
                                with_reducible rfl
                              rotate_left
                              · simp only [Act.put, List.setIfInBounds_toArray, List.set_cons_zero, List.set_cons_succ, i64_w, i32_w]
                                rfl
                              refine one_ (i := 9) (N := some 15) #[true, true, true, true, true, true, true, true, true, true, false, false] rfl rfl (one_of HT_.out (by kernel_rfl)) (by decide) (fun K hK => ?_)
                              refine box_step ?hg (N := 15) ?hd (cs := #[.int .i64 0, .int .u64 0]) (t := 24) ?hr ?_; (case hd => rfl); (case hg => rfl); (case hr => first | (go_simp; done) | (go_simp; rfl))
                              intro gb524 hg w91 hbox hb
                              have n0_ := Aside0.mk (bK BK492 hb)
                              have n1_ := Aside0.mk (bK BK497 hb)
                              have n2_ := Aside0.mk (bK BK502 hb)
                              have n3_ := Aside0.mk (bK BK515 hb)
                              have n4_ := Aside0.mk (bS hb)
                              have n5_ := Aside0.mk (hbox)
                              have n6_ := Aside0.mk ((by rw [hg]; exact (below_size (bE)) : w.heap.size ≤ gb524))
                              have n7_ := Aside0.mk ((by rw [hg]; exact (below_size (bE)) : w.heap.size ≤ gb524))
                              have n8_ := Aside0.mk ((by rw [hg]; exact Nat.ne_of_lt (blk_lt (g := gb492) (o := .cells #[.int .i64 a0_0, .int .u64 a0_1] 24 (0, 0)) (by (with_reducible repeat (first | refine blk_drewN ?_ _ | refine blk_drew ?_ | refine blk_alloc ?_ _)); exact BK492.out)) : gb492 ≠ gb524))
                              have n9_ := Aside0.mk ((by rw [hg]; exact Nat.ne_of_gt (blk_lt (g := gb492) (o := .cells #[.int .i64 a0_0, .int .u64 a0_1] 24 (0, 0)) (by (with_reducible repeat (first | refine blk_drewN ?_ _ | refine blk_drew ?_ | refine blk_alloc ?_ _)); exact BK492.out)) : gb524 ≠ gb492))
                              have n10_ := Aside0.mk ((by rw [hg]; exact Nat.ne_of_lt (blk_lt (g := gb497) (o := .cells #[.int .i64 t493, .int .u64 t494] 24 (0, 0)) (by (with_reducible repeat (first | refine blk_drewN ?_ _ | refine blk_drew ?_ | refine blk_alloc ?_ _)); exact BK497.out)) : gb497 ≠ gb524))
                              have n11_ := Aside0.mk ((by rw [hg]; exact Nat.ne_of_gt (blk_lt (g := gb497) (o := .cells #[.int .i64 t493, .int .u64 t494] 24 (0, 0)) (by (with_reducible repeat (first | refine blk_drewN ?_ _ | refine blk_drew ?_ | refine blk_alloc ?_ _)); exact BK497.out)) : gb524 ≠ gb497))
                              have n12_ := Aside0.mk ((by rw [hg]; exact Nat.ne_of_lt (blk_lt (g := gb502) (o := .cells #[.int .i64 t516, .int .u64 t517] 24 (0, 0)) (by (with_reducible repeat (first | refine blk_drewN ?_ _ | refine blk_drew ?_ | refine blk_alloc ?_ _)); exact BK502.out)) : gb502 ≠ gb524))
                              have n13_ := Aside0.mk ((by rw [hg]; exact Nat.ne_of_gt (blk_lt (g := gb502) (o := .cells #[.int .i64 t516, .int .u64 t517] 24 (0, 0)) (by (with_reducible repeat (first | refine blk_drewN ?_ _ | refine blk_drew ?_ | refine blk_alloc ?_ _)); exact BK502.out)) : gb524 ≠ gb502))
                              have n14_ := Aside0.mk ((by rw [hg]; exact Nat.ne_of_lt (blk_lt (g := gb515) (o := .cells #[.int .i64 t512, .int .u64 t513] 24 (0, 0)) (by (with_reducible repeat (first | refine blk_drewN ?_ _ | refine blk_drew ?_ | refine blk_alloc ?_ _)); exact BK515.out)) : gb515 ≠ gb524))
                              have n15_ := Aside0.mk ((by rw [hg]; exact Nat.ne_of_gt (blk_lt (g := gb515) (o := .cells #[.int .i64 t512, .int .u64 t513] 24 (0, 0)) (by (with_reducible repeat (first | refine blk_drewN ?_ _ | refine blk_drew ?_ | refine blk_alloc ?_ _)); exact BK515.out)) : gb524 ≠ gb515))
                              clear BK492
                              clear BK497
                              clear BK502
                              clear BK515
                              clear HB
                              have BK492 := n0_
                              have BK497 := n1_
                              have BK502 := n2_
                              have BK515 := n3_
                              have HB := n4_
                              have BK524 := n5_
                              have GW524 := n6_
                              have GE524 := n7_
                              have NB492_524 := n8_
                              have NB524_492 := n9_
                              have NB497_524 := n10_
                              have NB524_497 := n11_
                              have NB502_524 := n12_
                              have NB524_502 := n13_
                              have NB515_524 := n14_
                              have NB524_515 := n15_
                              clear n0_ n1_ n2_ n3_ n4_ n5_ n6_ n7_ n8_ n9_ n10_ n11_ n12_ n13_ n14_ n15_
                              clear hb hbox hg
                              refine hK.out _ _ ⟨(blk_cell BK502.out 0).trans rfl, (blk_cell BK502.out 1).trans rfl⟩ (fun hHeld => ?_)
                              clear hK K
                              refine norm_ (a' := ?_) ?_ ?_
                              rotate_left
                              · show Act.put _ (some 15) _ = _
                                simp only [Act.put, List.setIfInBounds_toArray, List.set_cons_zero, List.set_cons_succ, i64_w, i32_w]
                                rfl
                              exact norm_ (by simp only [putAll, Act.put, List.setIfInBounds_toArray, List.set_cons_zero, List.set_cons_succ]) (hCont (gb524) _ ⟨hHeld, (by (with_reducible repeat (first | refine blk_drewN ?_ _ | refine blk_drew ?_ | refine blk_alloc ?_ _)); exact BK492.out), (by (with_reducible repeat (first | refine blk_drewN ?_ _ | refine blk_drew ?_ | refine blk_alloc ?_ _)); exact BK497.out), (by (with_reducible repeat (first | refine blk_drewN ?_ _ | refine blk_drew ?_ | refine blk_alloc ?_ _)); exact BK502.out), (by (with_reducible repeat (first | refine blk_drewN ?_ _ | refine blk_drew ?_ | refine blk_alloc ?_ _)); exact BK515.out), (by (with_reducible repeat (first | refine blk_drewN ?_ _ | refine blk_drew ?_ | refine blk_alloc ?_ _)); exact BK524.out), GW524.out, GE524.out, NB492_524.out, NB524_492.out, NB497_524.out, NB524_497.out, NB502_524.out, NB524_502.out, NB515_524.out, NB524_515.out, (bE)⟩)
                            · skip
                              refine box_step ?hg (N := 15) ?hd (cs := #[.int .i64 0, .int .u64 0]) (t := 24) ?hr ?_; (case hd => rfl); (case hg => rfl); (case hr => first | (go_simp; done) | (go_simp; rfl))
                              intro gb524 hg w90 hbox hb
                              have n0_ := Aside0.mk (bK BK492 hb)
                              have n1_ := Aside0.mk (bK BK497 hb)
                              have n2_ := Aside0.mk (bK BK502 hb)
                              have n3_ := Aside0.mk (bK BK515 hb)
                              have n4_ := Aside0.mk (bS hb)
                              have n5_ := Aside0.mk (hbox)
                              have n6_ := Aside0.mk ((by rw [hg]; exact (below_size (bE)) : w.heap.size ≤ gb524))
                              have n7_ := Aside0.mk ((by rw [hg]; exact (below_size (bE)) : w.heap.size ≤ gb524))
                              have n8_ := Aside0.mk ((by rw [hg]; exact Nat.ne_of_lt (blk_lt (g := gb492) (o := .cells #[.int .i64 a0_0, .int .u64 a0_1] 24 (0, 0)) (by (with_reducible repeat (first | refine blk_drewN ?_ _ | refine blk_drew ?_ | refine blk_alloc ?_ _)); exact BK492.out)) : gb492 ≠ gb524))
                              have n9_ := Aside0.mk ((by rw [hg]; exact Nat.ne_of_gt (blk_lt (g := gb492) (o := .cells #[.int .i64 a0_0, .int .u64 a0_1] 24 (0, 0)) (by (with_reducible repeat (first | refine blk_drewN ?_ _ | refine blk_drew ?_ | refine blk_alloc ?_ _)); exact BK492.out)) : gb524 ≠ gb492))
                              have n10_ := Aside0.mk ((by rw [hg]; exact Nat.ne_of_lt (blk_lt (g := gb497) (o := .cells #[.int .i64 t493, .int .u64 t494] 24 (0, 0)) (by (with_reducible repeat (first | refine blk_drewN ?_ _ | refine blk_drew ?_ | refine blk_alloc ?_ _)); exact BK497.out)) : gb497 ≠ gb524))
                              have n11_ := Aside0.mk ((by rw [hg]; exact Nat.ne_of_gt (blk_lt (g := gb497) (o := .cells #[.int .i64 t493, .int .u64 t494] 24 (0, 0)) (by (with_reducible repeat (first | refine blk_drewN ?_ _ | refine blk_drew ?_ | refine blk_alloc ?_ _)); exact BK497.out)) : gb524 ≠ gb497))
                              have n12_ := Aside0.mk ((by rw [hg]; exact Nat.ne_of_lt (blk_lt (g := gb502) (o := .cells #[.int .i64 t516, .int .u64 t517] 24 (0, 0)) (by (with_reducible repeat (first | refine blk_drewN ?_ _ | refine blk_drew ?_ | refine blk_alloc ?_ _)); exact BK502.out)) : gb502 ≠ gb524))
                              have n13_ := Aside0.mk ((by rw [hg]; exact Nat.ne_of_gt (blk_lt (g := gb502) (o := .cells #[.int .i64 t516, .int .u64 t517] 24 (0, 0)) (by (with_reducible repeat (first | refine blk_drewN ?_ _ | refine blk_drew ?_ | refine blk_alloc ?_ _)); exact BK502.out)) : gb524 ≠ gb502))
                              have n14_ := Aside0.mk ((by rw [hg]; exact Nat.ne_of_lt (blk_lt (g := gb515) (o := .cells #[.int .i64 t512, .int .u64 t513] 24 (0, 0)) (by (with_reducible repeat (first | refine blk_drewN ?_ _ | refine blk_drew ?_ | refine blk_alloc ?_ _)); exact BK515.out)) : gb515 ≠ gb524))
                              have n15_ := Aside0.mk ((by rw [hg]; exact Nat.ne_of_gt (blk_lt (g := gb515) (o := .cells #[.int .i64 t512, .int .u64 t513] 24 (0, 0)) (by (with_reducible repeat (first | refine blk_drewN ?_ _ | refine blk_drew ?_ | refine blk_alloc ?_ _)); exact BK515.out)) : gb524 ≠ gb515))
                              clear BK492
                              clear BK497
                              clear BK502
                              clear BK515
                              clear HB
                              have BK492 := n0_
                              have BK497 := n1_
                              have BK502 := n2_
                              have BK515 := n3_
                              have HB := n4_
                              have BK524 := n5_
                              have GW524 := n6_
                              have GE524 := n7_
                              have NB492_524 := n8_
                              have NB524_492 := n9_
                              have NB497_524 := n10_
                              have NB524_497 := n11_
                              have NB502_524 := n12_
                              have NB524_502 := n13_
                              have NB515_524 := n14_
                              have NB524_515 := n15_
                              clear n0_ n1_ n2_ n3_ n4_ n5_ n6_ n7_ n8_ n9_ n10_ n11_ n12_ n13_ n14_ n15_
                              clear hb hbox hg
                              refine hK.out _ _ ⟨(blk_cell BK502.out 0).trans rfl, (blk_cell BK502.out 1).trans rfl⟩ (fun hHeld => ?_)
                              clear hK K
                              refine norm_ (a' := ?_) ?_ ?_
                              rotate_left
                              · show Act.put _ (some 15) _ = _
                                simp only [Act.put, List.setIfInBounds_toArray, List.set_cons_zero, List.set_cons_succ, i64_w, i32_w]
                                rfl
                              refine one_ (i := 5) (N := some 94) #[true, true, true, true, true, true, false, false, false, true, false, false] rfl rfl (one_of HT_.out (by kernel_rfl)) (by decide) (fun K hK => ?_)
                              refine goes_ Try.func27 (by kernel_rfl) rfl #[.agg #[.int .i64 t516, .int .u64 t517], .agg #[.int .i64 t519, .int .u64 t520]] (by rfl) rfl rfl aG ?_
                              with_reducible refine (wide_Sub.calls t516 t517 t519 t520 t521 t522 t523 _ A58.out).mono ?_
                              rintro e w91 ⟨rfl, hb⟩
                              refine ⟨_, rfl, ?_⟩
                              have n0_ := Aside0.mk (bK BK492 hb)
                              have n1_ := Aside0.mk (bK BK497 hb)
                              have n2_ := Aside0.mk (bK BK502 hb)
                              have n3_ := Aside0.mk (bK BK515 hb)
                              have n4_ := Aside0.mk (bK BK524 hb)
                              have n5_ := Aside0.mk (bS hb)
                              clear BK492
                              clear BK497
                              clear BK502
                              clear BK515
                              clear BK524
                              clear HB
                              have BK492 := n0_
                              have BK497 := n1_
                              have BK502 := n2_
                              have BK515 := n3_
                              have BK524 := n4_
                              have HB := n5_
                              clear n0_ n1_ n2_ n3_ n4_ n5_
                              (try clear hb)
                              (try clear hb2)
                              (try clear hk)
                              (try clear hi)
                              refine hK.out _ _ ⟨(blk_cell BK502.out 0).trans rfl, (blk_cell BK502.out 1).trans rfl⟩ (fun hHeld => ?_)
                              clear hK K
                              refine norm_ (a' := ?_) ?_ ?_
                              rotate_left
                              · show Act.put _ (some 94) _ = _
                                simp only [Act.put, List.setIfInBounds_toArray, List.set_cons_zero, List.set_cons_succ, i64_w, i32_w]
                                rfl
                              refine pure_ (i := 6) (N := some 88) (v := ?_) (a' := ?_) #[true, true, true, true, true, true, true, false, false, true, false, false] rfl rfl (any_of HT_.out (by kernel_rfl)) (fun _ _ _ h => h) (Or.inl ⟨by rfl, ?_⟩) ?_ ?_
                              rotate_left
                              · intro w'
                                go_simp
                                with_reducible rfl
                              rotate_left
                              · simp only [Act.put, List.setIfInBounds_toArray, List.set_cons_zero, List.set_cons_succ, i64_w, i32_w]
                                rfl
                              refine pure_ (i := 7) (N := some 95) (v := ?_) (a' := ?_) #[true, true, true, true, true, true, true, true, false, true, false, false] rfl rfl (any_of HT_.out (by kernel_rfl)) (fun _ _ _ h => h) (Or.inl ⟨by rfl, ?_⟩) ?_ ?_
                              rotate_left
                              · intro w'
                                go_simp
                                with_reducible rfl
                              rotate_left
                              · simp only [Act.put, List.setIfInBounds_toArray, List.set_cons_zero, List.set_cons_succ, i64_w, i32_w]
                                rfl
                              refine pure_ (i := 8) (N := some 96) (v := ?_) (a' := ?_) #[true, true, true, true, true, true, true, true, true, true, false, false] rfl rfl (any_of HT_.out (by kernel_rfl)) (fun _ _ _ h => h) (Or.inl ⟨by rfl, ?_⟩) ?_ ?_
                              rotate_left
                              · intro w'
                                go_simp
                                with_reducible rfl
                              rotate_left
                              · simp only [Act.put, List.setIfInBounds_toArray, List.set_cons_zero, List.set_cons_succ, i64_w, i32_w]
                                rfl
                              exact norm_ (by simp only [putAll, Act.put, List.setIfInBounds_toArray, List.set_cons_zero, List.set_cons_succ]) (hCont (gb524) _ ⟨hHeld, (by (with_reducible repeat (first | refine blk_drewN ?_ _ | refine blk_drew ?_ | refine blk_alloc ?_ _)); exact BK492.out), (by (with_reducible repeat (first | refine blk_drewN ?_ _ | refine blk_drew ?_ | refine blk_alloc ?_ _)); exact BK497.out), (by (with_reducible repeat (first | refine blk_drewN ?_ _ | refine blk_drew ?_ | refine blk_alloc ?_ _)); exact BK502.out), (by (with_reducible repeat (first | refine blk_drewN ?_ _ | refine blk_drew ?_ | refine blk_alloc ?_ _)); exact BK515.out), (by (with_reducible repeat (first | refine blk_drewN ?_ _ | refine blk_drew ?_ | refine blk_alloc ?_ _)); exact BK524.out), GW524.out, GE524.out, NB492_524.out, NB524_492.out, NB497_524.out, NB524_497.out, NB502_524.out, NB524_502.out, NB515_524.out, NB524_515.out, (bE)⟩)
                          · skip
                            refine box_step ?hg (N := 15) ?hd (cs := #[.int .i64 0, .int .u64 0]) (t := 24) ?hr ?_; (case hd => rfl); (case hg => rfl); (case hr => first | (go_simp; done) | (go_simp; rfl))
                            intro gb524 hg w89 hbox hb
                            have n0_ := Aside0.mk (bK BK492 hb)
                            have n1_ := Aside0.mk (bK BK497 hb)
                            have n2_ := Aside0.mk (bK BK502 hb)
                            have n3_ := Aside0.mk (bK BK515 hb)
                            have n4_ := Aside0.mk (bS hb)
                            have n5_ := Aside0.mk (hbox)
                            have n6_ := Aside0.mk ((by rw [hg]; exact (below_size (bE)) : w.heap.size ≤ gb524))
                            have n7_ := Aside0.mk ((by rw [hg]; exact (below_size (bE)) : w.heap.size ≤ gb524))
                            have n8_ := Aside0.mk ((by rw [hg]; exact Nat.ne_of_lt (blk_lt (g := gb492) (o := .cells #[.int .i64 a0_0, .int .u64 a0_1] 24 (0, 0)) (by (with_reducible repeat (first | refine blk_drewN ?_ _ | refine blk_drew ?_ | refine blk_alloc ?_ _)); exact BK492.out)) : gb492 ≠ gb524))
                            have n9_ := Aside0.mk ((by rw [hg]; exact Nat.ne_of_gt (blk_lt (g := gb492) (o := .cells #[.int .i64 a0_0, .int .u64 a0_1] 24 (0, 0)) (by (with_reducible repeat (first | refine blk_drewN ?_ _ | refine blk_drew ?_ | refine blk_alloc ?_ _)); exact BK492.out)) : gb524 ≠ gb492))
                            have n10_ := Aside0.mk ((by rw [hg]; exact Nat.ne_of_lt (blk_lt (g := gb497) (o := .cells #[.int .i64 t493, .int .u64 t494] 24 (0, 0)) (by (with_reducible repeat (first | refine blk_drewN ?_ _ | refine blk_drew ?_ | refine blk_alloc ?_ _)); exact BK497.out)) : gb497 ≠ gb524))
                            have n11_ := Aside0.mk ((by rw [hg]; exact Nat.ne_of_gt (blk_lt (g := gb497) (o := .cells #[.int .i64 t493, .int .u64 t494] 24 (0, 0)) (by (with_reducible repeat (first | refine blk_drewN ?_ _ | refine blk_drew ?_ | refine blk_alloc ?_ _)); exact BK497.out)) : gb524 ≠ gb497))
                            have n12_ := Aside0.mk ((by rw [hg]; exact Nat.ne_of_lt (blk_lt (g := gb502) (o := .cells #[.int .i64 t516, .int .u64 t517] 24 (0, 0)) (by (with_reducible repeat (first | refine blk_drewN ?_ _ | refine blk_drew ?_ | refine blk_alloc ?_ _)); exact BK502.out)) : gb502 ≠ gb524))
                            have n13_ := Aside0.mk ((by rw [hg]; exact Nat.ne_of_gt (blk_lt (g := gb502) (o := .cells #[.int .i64 t516, .int .u64 t517] 24 (0, 0)) (by (with_reducible repeat (first | refine blk_drewN ?_ _ | refine blk_drew ?_ | refine blk_alloc ?_ _)); exact BK502.out)) : gb524 ≠ gb502))
                            have n14_ := Aside0.mk ((by rw [hg]; exact Nat.ne_of_lt (blk_lt (g := gb515) (o := .cells #[.int .i64 t512, .int .u64 t513] 24 (0, 0)) (by (with_reducible repeat (first | refine blk_drewN ?_ _ | refine blk_drew ?_ | refine blk_alloc ?_ _)); exact BK515.out)) : gb515 ≠ gb524))
                            have n15_ := Aside0.mk ((by rw [hg]; exact Nat.ne_of_gt (blk_lt (g := gb515) (o := .cells #[.int .i64 t512, .int .u64 t513] 24 (0, 0)) (by (with_reducible repeat (first | refine blk_drewN ?_ _ | refine blk_drew ?_ | refine blk_alloc ?_ _)); exact BK515.out)) : gb524 ≠ gb515))
                            clear BK492
                            clear BK497
                            clear BK502
                            clear BK515
                            clear HB
                            have BK492 := n0_
                            have BK497 := n1_
                            have BK502 := n2_
                            have BK515 := n3_
                            have HB := n4_
                            have BK524 := n5_
                            have GW524 := n6_
                            have GE524 := n7_
                            have NB492_524 := n8_
                            have NB524_492 := n9_
                            have NB497_524 := n10_
                            have NB524_497 := n11_
                            have NB502_524 := n12_
                            have NB524_502 := n13_
                            have NB515_524 := n14_
                            have NB524_515 := n15_
                            clear n0_ n1_ n2_ n3_ n4_ n5_ n6_ n7_ n8_ n9_ n10_ n11_ n12_ n13_ n14_ n15_
                            clear hb hbox hg
                            refine hK.out _ _ ⟨(blk_cell BK502.out 0).trans rfl, (blk_cell BK502.out 1).trans rfl⟩ (fun hHeld => ?_)
                            clear hK K
                            refine norm_ (a' := ?_) ?_ ?_
                            rotate_left
                            · show Act.put _ (some 15) _ = _
                              simp only [Act.put, List.setIfInBounds_toArray, List.set_cons_zero, List.set_cons_succ, i64_w, i32_w]
                              rfl
                            refine one_ (i := 4) (N := some 93) #[true, true, true, true, true, false, false, false, false, true, false, false] rfl rfl (one_of HT_.out (by kernel_rfl)) (by decide) (fun K hK => ?_)
                            refine goes_ Try.func23 (by kernel_rfl) rfl #[.int .i64 (wrap64 (a1 - t495))] (by rfl) rfl rfl aG ?_
                            with_reducible refine (wide_Of.calls (wrap64 (a1 - t495)) t519 t520 _ A57.out).mono ?_
                            rintro e w90 ⟨rfl, hb⟩
                            refine ⟨_, rfl, ?_⟩
                            have n0_ := Aside0.mk (bK BK492 hb)
                            have n1_ := Aside0.mk (bK BK497 hb)
                            have n2_ := Aside0.mk (bK BK502 hb)
                            have n3_ := Aside0.mk (bK BK515 hb)
                            have n4_ := Aside0.mk (bK BK524 hb)
                            have n5_ := Aside0.mk (bS hb)
                            clear BK492
                            clear BK497
                            clear BK502
                            clear BK515
                            clear BK524
                            clear HB
                            have BK492 := n0_
                            have BK497 := n1_
                            have BK502 := n2_
                            have BK515 := n3_
                            have BK524 := n4_
                            have HB := n5_
                            clear n0_ n1_ n2_ n3_ n4_ n5_
                            (try clear hb)
                            (try clear hb2)
                            (try clear hk)
                            (try clear hi)
                            refine hK.out _ _ ⟨(blk_cell BK502.out 0).trans rfl, (blk_cell BK502.out 1).trans rfl⟩ (fun hHeld => ?_)
                            clear hK K
                            refine norm_ (a' := ?_) ?_ ?_
                            rotate_left
                            · show Act.put _ (some 93) _ = _
                              simp only [Act.put, List.setIfInBounds_toArray, List.set_cons_zero, List.set_cons_succ, i64_w, i32_w]
                              rfl
                            refine one_ (i := 5) (N := some 94) #[true, true, true, true, true, true, false, false, false, true, false, false] rfl rfl (one_of HT_.out (by kernel_rfl)) (by decide) (fun K hK => ?_)
                            refine goes_ Try.func27 (by kernel_rfl) rfl #[.agg #[.int .i64 t516, .int .u64 t517], .agg #[.int .i64 t519, .int .u64 t520]] (by rfl) rfl rfl aG ?_
                            with_reducible refine (wide_Sub.calls t516 t517 t519 t520 t521 t522 t523 _ A58.out).mono ?_
                            rintro e w91 ⟨rfl, hb⟩
                            refine ⟨_, rfl, ?_⟩
                            have n0_ := Aside0.mk (bK BK492 hb)
                            have n1_ := Aside0.mk (bK BK497 hb)
                            have n2_ := Aside0.mk (bK BK502 hb)
                            have n3_ := Aside0.mk (bK BK515 hb)
                            have n4_ := Aside0.mk (bK BK524 hb)
                            have n5_ := Aside0.mk (bS hb)
                            clear BK492
                            clear BK497
                            clear BK502
                            clear BK515
                            clear BK524
                            clear HB
                            have BK492 := n0_
                            have BK497 := n1_
                            have BK502 := n2_
                            have BK515 := n3_
                            have BK524 := n4_
                            have HB := n5_
                            clear n0_ n1_ n2_ n3_ n4_ n5_
                            (try clear hb)
                            (try clear hb2)
                            (try clear hk)
                            (try clear hi)
                            refine hK.out _ _ ⟨(blk_cell BK502.out 0).trans rfl, (blk_cell BK502.out 1).trans rfl⟩ (fun hHeld => ?_)
                            clear hK K
                            refine norm_ (a' := ?_) ?_ ?_
                            rotate_left
                            · show Act.put _ (some 94) _ = _
                              simp only [Act.put, List.setIfInBounds_toArray, List.set_cons_zero, List.set_cons_succ, i64_w, i32_w]
                              rfl
                            refine pure_ (i := 6) (N := some 88) (v := ?_) (a' := ?_) #[true, true, true, true, true, true, true, false, false, true, false, false] rfl rfl (any_of HT_.out (by kernel_rfl)) (fun _ _ _ h => h) (Or.inl ⟨by rfl, ?_⟩) ?_ ?_
                            rotate_left
                            · intro w'
                              go_simp
                              with_reducible rfl
                            rotate_left
                            · simp only [Act.put, List.setIfInBounds_toArray, List.set_cons_zero, List.set_cons_succ, i64_w, i32_w]
                              rfl
                            refine pure_ (i := 7) (N := some 95) (v := ?_) (a' := ?_) #[true, true, true, true, true, true, true, true, false, true, false, false] rfl rfl (any_of HT_.out (by kernel_rfl)) (fun _ _ _ h => h) (Or.inl ⟨by rfl, ?_⟩) ?_ ?_
                            rotate_left
                            · intro w'
                              go_simp
                              with_reducible rfl
                            rotate_left
                            · simp only [Act.put, List.setIfInBounds_toArray, List.set_cons_zero, List.set_cons_succ, i64_w, i32_w]
                              rfl
                            refine pure_ (i := 8) (N := some 96) (v := ?_) (a' := ?_) #[true, true, true, true, true, true, true, true, true, true, false, false] rfl rfl (any_of HT_.out (by kernel_rfl)) (fun _ _ _ h => h) (Or.inl ⟨by rfl, ?_⟩) ?_ ?_
                            rotate_left
                            · intro w'
                              go_simp
                              with_reducible rfl
                            rotate_left
                            · simp only [Act.put, List.setIfInBounds_toArray, List.set_cons_zero, List.set_cons_succ, i64_w, i32_w]
                              rfl
                            exact norm_ (by simp only [putAll, Act.put, List.setIfInBounds_toArray, List.set_cons_zero, List.set_cons_succ]) (hCont (gb524) _ ⟨hHeld, (by (with_reducible repeat (first | refine blk_drewN ?_ _ | refine blk_drew ?_ | refine blk_alloc ?_ _)); exact BK492.out), (by (with_reducible repeat (first | refine blk_drewN ?_ _ | refine blk_drew ?_ | refine blk_alloc ?_ _)); exact BK497.out), (by (with_reducible repeat (first | refine blk_drewN ?_ _ | refine blk_drew ?_ | refine blk_alloc ?_ _)); exact BK502.out), (by (with_reducible repeat (first | refine blk_drewN ?_ _ | refine blk_drew ?_ | refine blk_alloc ?_ _)); exact BK515.out), (by (with_reducible repeat (first | refine blk_drewN ?_ _ | refine blk_drew ?_ | refine blk_alloc ?_ _)); exact BK524.out), GW524.out, GE524.out, NB492_524.out, NB524_492.out, NB497_524.out, NB524_497.out, NB502_524.out, NB524_502.out, NB515_524.out, NB524_515.out, (bE)⟩)
                        rintro gb524 w92 ⟨hS_, h0_, h1_, h2_, h3_, h4_, h5_, h6_, h7_, h8_, h9_, h10_, h11_, h12_, h13_, h14_, h15_⟩
                        have n0_ : Aside0 (w92.heap[gb492]? = some (.cells #[.int .i64 a0_0, .int .u64 a0_1] 24 (0, 0))) := ⟨h0_⟩
                        have n1_ : Aside0 (w92.heap[gb497]? = some (.cells #[.int .i64 t493, .int .u64 t494] 24 (0, 0))) := ⟨h1_⟩
                        have n2_ : Aside0 (w92.heap[gb502]? = some (.cells #[.int .i64 t516, .int .u64 t517] 24 (0, 0))) := ⟨h2_⟩
                        have n3_ : Aside0 (w92.heap[gb515]? = some (.cells #[.int .i64 t512, .int .u64 t513] 24 (0, 0))) := ⟨h3_⟩
                        have n4_ : Aside0 (w92.heap[gb524]? = some (.cells #[.int .i64 0, .int .u64 0] 24 (0, 0))) := ⟨h4_⟩
                        have n5_ : Aside0 (w.heap.size ≤ gb524) := ⟨h5_⟩
                        have n6_ : Aside0 (w.heap.size ≤ gb524) := ⟨h6_⟩
                        have n7_ : Aside0 (gb492 ≠ gb524) := ⟨h7_⟩
                        have n8_ : Aside0 (gb524 ≠ gb492) := ⟨h8_⟩
                        have n9_ : Aside0 (gb497 ≠ gb524) := ⟨h9_⟩
                        have n10_ : Aside0 (gb524 ≠ gb497) := ⟨h10_⟩
                        have n11_ : Aside0 (gb502 ≠ gb524) := ⟨h11_⟩
                        have n12_ : Aside0 (gb524 ≠ gb502) := ⟨h12_⟩
                        have n13_ : Aside0 (gb515 ≠ gb524) := ⟨h13_⟩
                        have n14_ : Aside0 (gb524 ≠ gb515) := ⟨h14_⟩
                        have n15_ : Aside0 (Below w.heap.size w w92) := ⟨h15_⟩
                        clear BK492
                        clear BK497
                        clear BK502
                        clear BK515
                        clear HB
                        clear h0_ h1_ h2_ h3_ h4_ h5_ h6_ h7_ h8_ h9_ h10_ h11_ h12_ h13_ h14_ h15_
                        have BK492 := n0_
                        have BK497 := n1_
                        have BK502 := n2_
                        have BK515 := n3_
                        have BK524 := n4_
                        have GW524 := n5_
                        have GE524 := n6_
                        have NB492_524 := n7_
                        have NB524_492 := n8_
                        have NB497_524 := n9_
                        have NB524_497 := n10_
                        have NB502_524 := n11_
                        have NB524_502 := n12_
                        have NB515_524 := n13_
                        have NB524_515 := n14_
                        have HB := n15_
                        clear n0_ n1_ n2_ n3_ n4_ n5_ n6_ n7_ n8_ n9_ n10_ n11_ n12_ n13_ n14_ n15_
                        have hHeld : w92.cell? ⟨gb502, 0, none⟩ = some (.int .i64 t516) ∧ w92.cell? ⟨gb502, 1, none⟩ = some (.int .u64 t517) := hS_
                        refine norm_ (a' := ?_) ?_ ?_
                        rotate_left
                        · simp only [putAll, Act.put, List.setIfInBounds_toArray, List.set_cons_zero, List.set_cons_succ]
                          rfl
                        refine one_ (i := 10) (N := none) #[true, true, true, true, true, true, true, true, true, true, true, false] rfl rfl (one_of HT_.out (by kernel_rfl)) (by decide) (fun K hK => ?_)
                        have hs93 : w92.cell? ⟨gb524, 0, none⟩ = some (.int .i64 0) := (blk_cell BK524.out 0).trans rfl
                        have hfs93 := blk_frozen BK524.out 0
                        have hns93_0 := NB492_524.out
                        have hns93_1 := NB497_524.out
                        have hns93_2 := NB502_524.out
                        have hns93_3 := NB515_524.out
                        have hms93_0 := NB524_492.out
                        have hms93_1 := NB524_497.out
                        have hms93_2 := NB524_502.out
                        have hms93_3 := NB524_515.out
                        have hs94 : w92.cell? ⟨gb524, 1, none⟩ = some (.int .u64 0) := (blk_cell BK524.out 1).trans rfl
                        have hfs94 := blk_frozen BK524.out 1
                        have hns94_0 := NB492_524.out
                        have hns94_1 := NB497_524.out
                        have hns94_2 := NB502_524.out
                        have hns94_3 := NB515_524.out
                        have hms94_0 := NB524_492.out
                        have hms94_1 := NB524_497.out
                        have hms94_2 := NB524_502.out
                        have hms94_3 := NB524_515.out
                        refine skip_ (w1 := ?_) (by rfl) rfl ?_ ?_
                        rotate_left
                        · go_simp
                          rfl
                        refine hK.out _ _ ⟨((cell_far (p := ⟨gb524, _, none⟩) NB502_524.out _).trans (((cell_far (p := ⟨gb524, _, none⟩) NB502_524.out _).trans (hHeld.1)))), ((cell_far (p := ⟨gb524, _, none⟩) NB502_524.out _).trans (((cell_far (p := ⟨gb524, _, none⟩) NB502_524.out _).trans (hHeld.2))))⟩ (fun hHeld => ?_)
                        clear hK K
                        refine pure_ (i := 11) (N := some 16) (v := ?_) (a' := ?_) #[true, true, true, true, true, true, true, true, true, true, true, true] rfl rfl (any_of HT_.out (by kernel_rfl)) (fun _ _ _ h => h) (Or.inl ⟨by rfl, ?_⟩) ?_ ?_
                        rotate_left
                        · intro w'
                          go_simp
                          with_reducible rfl
                        rotate_left
                        · simp only [Act.put, List.setIfInBounds_toArray, List.set_cons_zero, List.set_cons_succ, i64_w, i32_w]
                          rfl
                        refine done_ (done_of HT_.out (by kernel_rfl)) ?_
                        have hnb95 := NB492_524.out
                        have hnc95 := NB524_492.out
                        have hcz96_0 : w92.cell? ⟨gb492, 0, none⟩ = some (.int .i64 a0_0) := (blk_cell BK492.out 0).trans rfl
                        have hcz96_1 : w92.cell? ⟨gb492, 1, none⟩ = some (.int .u64 a0_1) := (blk_cell BK492.out 1).trans rfl
                        have hfz96_0 := blk_frozen BK492.out 0
                        have hfz96_1 := blk_frozen BK492.out 1
                        have hnb97 := NB524_497.out
                        have hnc97 := NB497_524.out
                        have hnb98 := NB524_502.out
                        have hnc98 := NB502_524.out
                        have hnb99 := NB524_515.out
                        have hnc99 := NB515_524.out
                        have hcz100_0 : w92.cell? ⟨gb524, 0, none⟩ = some (.int .i64 0) := (blk_cell BK524.out 0).trans rfl
                        have hcz100_1 : w92.cell? ⟨gb524, 1, none⟩ = some (.int .u64 0) := (blk_cell BK524.out 1).trans rfl
                        have hfz100_0 := blk_frozen BK524.out 0
                        have hfz100_1 := blk_frozen BK524.out 1
                        try go_wp2_with (first | (go_at_call 12; (with_reducible refine (corebanklaw01_live.calls kj15  t525 _ A65.out).mono ?_); rintro e w101 ⟨rfl, hb⟩; replace BK492 := Aside0.mk (blk_below (g := gb492) (o := .cells #[.int .i64 a0_0, .int .u64 a0_1] 24 (0, 0)) (by (with_reducible repeat (first | refine blk_drewN ?_ _ | refine blk_drew ?_ | refine blk_alloc ?_ _)); refine blk_far ?_ NB492_524.out _; (with_reducible repeat (first | refine blk_drewN ?_ _ | refine blk_drew ?_ | refine blk_alloc ?_ _)); refine blk_far ?_ NB492_524.out _; (with_reducible repeat (first | refine blk_drewN ?_ _ | refine blk_drew ?_ | refine blk_alloc ?_ _)); exact BK492.out) hb); replace BK497 := Aside0.mk (blk_below (g := gb497) (o := .cells #[.int .i64 t493, .int .u64 t494] 24 (0, 0)) (by (with_reducible repeat (first | refine blk_drewN ?_ _ | refine blk_drew ?_ | refine blk_alloc ?_ _)); refine blk_far ?_ NB497_524.out _; (with_reducible repeat (first | refine blk_drewN ?_ _ | refine blk_drew ?_ | refine blk_alloc ?_ _)); refine blk_far ?_ NB497_524.out _; (with_reducible repeat (first | refine blk_drewN ?_ _ | refine blk_drew ?_ | refine blk_alloc ?_ _)); exact BK497.out) hb); replace BK502 := Aside0.mk (blk_below (g := gb502) (o := .cells #[.int .i64 t516, .int .u64 t517] 24 (0, 0)) (by (with_reducible repeat (first | refine blk_drewN ?_ _ | refine blk_drew ?_ | refine blk_alloc ?_ _)); refine blk_far ?_ NB502_524.out _; (with_reducible repeat (first | refine blk_drewN ?_ _ | refine blk_drew ?_ | refine blk_alloc ?_ _)); refine blk_far ?_ NB502_524.out _; (with_reducible repeat (first | refine blk_drewN ?_ _ | refine blk_drew ?_ | refine blk_alloc ?_ _)); exact BK502.out) hb); replace BK515 := Aside0.mk (blk_below (g := gb515) (o := .cells #[.int .i64 t512, .int .u64 t513] 24 (0, 0)) (by (with_reducible repeat (first | refine blk_drewN ?_ _ | refine blk_drew ?_ | refine blk_alloc ?_ _)); refine blk_far ?_ NB515_524.out _; (with_reducible repeat (first | refine blk_drewN ?_ _ | refine blk_drew ?_ | refine blk_alloc ?_ _)); refine blk_far ?_ NB515_524.out _; (with_reducible repeat (first | refine blk_drewN ?_ _ | refine blk_drew ?_ | refine blk_alloc ?_ _)); exact BK515.out) hb); replace BK524 := Aside0.mk (blk_below (g := gb524) (o := .cells #[.int .i64 t521, .int .u64 t522] 24 (0, 0)) (by (with_reducible repeat (first | refine blk_drewN ?_ _ | refine blk_drew ?_ | refine blk_alloc ?_ _)); refine blk_put (cs := #[.int .i64 t521, .int .u64 0]) ?_ 1 _ rfl; (with_reducible repeat (first | refine blk_drewN ?_ _ | refine blk_drew ?_ | refine blk_alloc ?_ _)); refine blk_put (cs := #[.int .i64 0, .int .u64 0]) ?_ 0 _ rfl; (with_reducible repeat (first | refine blk_drewN ?_ _ | refine blk_drew ?_ | refine blk_alloc ?_ _)); exact BK524.out) hb); replace HB := Aside0.mk (bS hb); (try clear hb); (try clear hb2); (try clear hk); (try clear hi)))
                        go_ret
                        exact ⟨by first | rfl | (simp [errW_none, errW_some] <;> rfl) | (simp [*, errW_none, errW_some] <;> rfl), bE⟩
                      · rw [if_neg c64] at H
                        exact absurd H (by simp)
                    · rw [if_neg c63] at H
                      exact absurd H (by simp)
                  · rw [if_neg c62] at H
                    exact absurd H (by simp)
                · rw [if_neg c61] at H
                  exact absurd H (by simp)
              · rw [if_neg c60] at H
                exact absurd H (by simp)
            · rw [if_neg c59] at H
              exact absurd H (by simp)

/-- THE ONE PURE STATEMENT of corebanklaw01_WideDivides. -/
def corebanklaw01_WideDivides.Pure : Prop := ∀ (a0_0 : Int) (a0_1 : Int) (a1 : Int), (Lit.int .i64 a0_0).wf = true → (Lit.int .u64 a0_1).wf = true → (Lit.int .i64 a1).wf = true → ∃ k, corebanklaw01_WideDivides.f k a0_0 a0_1 a1 = some true
theorem corebanklaw01_WideDivides.walk (P : corebanklaw01_WideDivides.Pure) (a0_0 : Int) (a0_1 : Int) (a1 : Int) (w : World) (w0_0 : (Lit.int .i64 a0_0).wf = true) (w0_1 : (Lit.int .u64 a0_1).wf = true) (w1 : (Lit.int .i64 a1).wf = true) :
    Calls Try.prog 8 #[.agg #[.int .i64 a0_0, .int .u64 a0_1], .int .i64 a1] w fun e w' => e = .returned (.bool true) ∧ Below w.heap.size w w' := by
  obtain ⟨k, h⟩ := P a0_0 a0_1 a1 w0_0 w0_1 w1
  refine (corebanklaw01_WideDivides.calls k a0_0 a0_1 a1 true w h).mono ?_
  rintro e w' ⟨rfl, hd⟩
  exact ⟨rfl, hd⟩

end Go.Proofs.Ytkhocaehhflpcaa.PA
