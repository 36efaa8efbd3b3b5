/- Contracts of the Go functions and their plain Lean functions, written by a program of this session out of the translation. -/
import Derived.Test.YtnilmhhidmdlnaaPAx0
import Derived.Test.YtnilmhhidmdlnaaPAx10
namespace Go.Proofs.Ytnilmhhidmdlnaa.PA
open Go.RowKit Go.Proofs.YtnilmhhidmdlnaaW.PrintWords Go.Proofs.YtnilmhhidmdlnaaW.PrintLast Go.Proofs.YtnilmhhidmdlnaaW.PrintMore
attribute [local go_sem] max2_int min2_int max_two min_two max_three min_three max_four min_four   -- for this text's walks alone
set_option linter.unusedVariables false
set_option linter.unusedSimpArgs false

/-! ### corebankref21_Daily: function 19 -/
mutual
def corebankref21_Daily.j0 : Nat → List (S36) → Int → Int → Int → Bool → Option (List Int)
  | 0, _, _, _, _, _ => none
  | k + 1, x0, x1, x2, x3, x29 => if x29 = true then (some ([] : List Int)) else (if 0 ≤ (wrap64 ((wrap64 (x3 - x2)) + 1)) then (if (wrap64 ((wrap64 (x3 - x2)) + 1) : Int).toNat ≤ 35184372088832 then (corebankref21_Daily.l0 k x0 x1 x2 x3 (List.replicate (wrap64 ((wrap64 (x3 - x2)) + 1) : Int).toNat 0) 0) else (none)) else (none))
def corebankref21_Daily.l0 : Nat → List (S36) → Int → Int → Int → List Int → Int → Option (List Int)
  | 0, _, _, _, _, _, _ => none
  | k + 1, x0, x1, x2, x3, x9, x10 => if x10 < (x0.length : Int) then (if 0 ≤ x10 then ((corebankref21_moved.f k ((rd_T36 x0 x10).f0) ((rd_T36 x0 x10).f1) ((rd_T36 x0 x10).f2) ((rd_T36 x0 x10).f3) ((rd_T36 x0 x10).f4) ((rd_T36 x0 x10).f5) ((rd_T36 x0 x10).f6) ((rd_T36 x0 x10).f7) ((rd_T36 x0 x10).f8) ((rd_T36 x0 x10).f9) x1).bind fun t317 => (corebankref21_Daily.l1 k x0 x1 x2 x3 x9 x10 t317 (mx x2 ((rd_T36 x0 x10).f2)))) else (none)) else (some x9)
def corebankref21_Daily.l1 : Nat → List (S36) → Int → Int → Int → List Int → Int → Int → Int → Option (List Int)
  | 0, _, _, _, _, _, _, _, _ => none
  | k + 1, x0, x1, x2, x3, x9, x10, x11, x12 => if x12 ≤ x3 then (if x11 = 0 then (corebankref21_Daily.l0 k x0 x1 x2 x3 x9 (wrap64 (x10 + 1))) else (if 0 ≤ (wrap64 (x12 - x2)) then (if (wrap64 (x12 - x2)) < (x9.length : Int) then (corebankref21_Daily.l1 k x0 x1 x2 x3 (x9.set ((wrap64 (x12 - x2)) : Int).toNat (wrap64 ((rd x9 (wrap64 (x12 - x2))) + x11))) x10 x11 (wrap64 (x12 + 1))) else (none)) else (none))) else (corebankref21_Daily.l0 k x0 x1 x2 x3 x9 (wrap64 (x10 + 1)))
end
def corebankref21_Daily.f (k : Nat) (l0 : List (S36)) (a1 : Int) (a2 : Int) (a3 : Int) : Option (List Int) := if a2 < 0 then (corebankref21_Daily.j0 k l0 a1 a2 a3 true) else (if a3 > 73048 then (corebankref21_Daily.j0 k l0 a1 a2 a3 true) else (if a2 > a3 then (corebankref21_Daily.j0 k l0 a1 a2 a3 true) else (corebankref21_Daily.j0 k l0 a1 a2 a3 (decide ((wrap64 (a3 - a2)) ≥ 4000)))))
theorem corebankref21_Daily.mono_l : ∀ k, (∀ y0 y1 y2 y3 y4, LeO (corebankref21_Daily.j0 k y0 y1 y2 y3 y4) (corebankref21_Daily.j0 (k + 1) y0 y1 y2 y3 y4)) ∧ (∀ y0 y1 y2 y3 y4 y5, LeO (corebankref21_Daily.l0 k y0 y1 y2 y3 y4 y5) (corebankref21_Daily.l0 (k + 1) y0 y1 y2 y3 y4 y5)) ∧ (∀ y0 y1 y2 y3 y4 y5 y6 y7, LeO (corebankref21_Daily.l1 k y0 y1 y2 y3 y4 y5 y6 y7) (corebankref21_Daily.l1 (k + 1) y0 y1 y2 y3 y4 y5 y6 y7))
  | 0 => ⟨fun _ _ _ _ _ r h => by simp [corebankref21_Daily.j0] at h, fun _ _ _ _ _ _ r h => by simp [corebankref21_Daily.l0] at h, fun _ _ _ _ _ _ _ _ r h => by simp [corebankref21_Daily.l1] at h⟩
  | k + 1 => by
    obtain ⟨ih0, ih1, ih2⟩ := corebankref21_Daily.mono_l k
    refine ⟨?_, ?_, ?_⟩
    · intro y0 y1 y2 y3 y4
      unfold corebankref21_Daily.j0
      repeat' first
      | (with_reducible exact ih0 _ _ _ _ _)
      | (with_reducible exact ih1 _ _ _ _ _ _)
      | (with_reducible exact ih2 _ _ _ _ _ _ _ _)
      | (with_reducible exact corebankref21_moved.mono _ _ _ _ _ _ _ _ _ _ _ _)
      | (with_reducible exact LeO.refl _)
      | (with_reducible exact LeO.none _)
      | (with_reducible refine LeO.ite ?_ ?_)
      | (with_reducible refine LeO.bind ?_ (fun _ => ?_))
      | exact ih0 _ _ _ _ _
      | exact ih1 _ _ _ _ _ _
      | exact ih2 _ _ _ _ _ _ _ _
      | exact corebankref21_moved.mono _ _ _ _ _ _ _ _ _ _ _ _
      | exact LeO.none _
      | refine LeO.ite ?_ ?_
      | refine LeO.bind ?_ (fun _ => ?_)
    · intro y0 y1 y2 y3 y4 y5
      unfold corebankref21_Daily.l0
      repeat' first
      | (with_reducible exact ih0 _ _ _ _ _)
      | (with_reducible exact ih1 _ _ _ _ _ _)
      | (with_reducible exact ih2 _ _ _ _ _ _ _ _)
      | (with_reducible exact corebankref21_moved.mono _ _ _ _ _ _ _ _ _ _ _ _)
      | (with_reducible exact LeO.refl _)
      | (with_reducible exact LeO.none _)
      | (with_reducible refine LeO.ite ?_ ?_)
      | (with_reducible refine LeO.bind ?_ (fun _ => ?_))
      | exact ih0 _ _ _ _ _
      | exact ih1 _ _ _ _ _ _
      | exact ih2 _ _ _ _ _ _ _ _
      | exact corebankref21_moved.mono _ _ _ _ _ _ _ _ _ _ _ _
      | exact LeO.none _
      | refine LeO.ite ?_ ?_
      | refine LeO.bind ?_ (fun _ => ?_)
    · intro y0 y1 y2 y3 y4 y5 y6 y7
      unfold corebankref21_Daily.l1
      repeat' first
      | (with_reducible exact ih0 _ _ _ _ _)
      | (with_reducible exact ih1 _ _ _ _ _ _)
      | (with_reducible exact ih2 _ _ _ _ _ _ _ _)
      | (with_reducible exact corebankref21_moved.mono _ _ _ _ _ _ _ _ _ _ _ _)
      | (with_reducible exact LeO.refl _)
      | (with_reducible exact LeO.none _)
      | (with_reducible refine LeO.ite ?_ ?_)
      | (with_reducible refine LeO.bind ?_ (fun _ => ?_))
      | exact ih0 _ _ _ _ _
      | exact ih1 _ _ _ _ _ _
      | exact ih2 _ _ _ _ _ _ _ _
      | exact corebankref21_moved.mono _ _ _ _ _ _ _ _ _ _ _ _
      | exact LeO.none _
      | refine LeO.ite ?_ ?_
      | refine LeO.bind ?_ (fun _ => ?_)
theorem corebankref21_Daily.mono : ∀ a0 a1 a2 a3 k, LeO (corebankref21_Daily.f k a0 a1 a2 a3) (corebankref21_Daily.f (k + 1) a0 a1 a2 a3) := by
  intro a0 a1 a2 a3 k
  obtain ⟨ih0, ih1, ih2⟩ := corebankref21_Daily.mono_l k
  unfold corebankref21_Daily.f
  repeat' first
      | (with_reducible exact ih0 _ _ _ _ _)
      | (with_reducible exact ih1 _ _ _ _ _ _)
      | (with_reducible exact ih2 _ _ _ _ _ _ _ _)
      | (with_reducible exact corebankref21_moved.mono _ _ _ _ _ _ _ _ _ _ _ _)
      | (with_reducible exact LeO.refl _)
      | (with_reducible exact LeO.none _)
      | (with_reducible refine LeO.ite ?_ ?_)
      | (with_reducible refine LeO.bind ?_ (fun _ => ?_))
      | exact ih0 _ _ _ _ _
      | exact ih1 _ _ _ _ _ _
      | exact ih2 _ _ _ _ _ _ _ _
      | exact corebankref21_moved.mono _ _ _ _ _ _ _ _ _ _ _ _
      | exact LeO.none _
      | refine LeO.ite ?_ ?_
      | refine LeO.bind ?_ (fun _ => ?_)
set_option maxHeartbeats 8000000 in
set_option maxRecDepth 100000 in
theorem corebankref21_Daily.calls (k : Nat) (A0 : Option Addr) (c0 : Nat) (l0 : List (S36)) (a1 : Int) (a2 : Int) (a3 : Int) (r : List Int) (w : World) (hr0 : Kd.C k36 w A0 l0.length l0) (hc0 : l0.length ≤ c0) (h : corebankref21_Daily.f k l0 a1 a2 a3 = some r) :
    Calls Try.prog 19 #[.slice A0 l0.length c0, .int .i64 a1, .int .i64 a2, .int .i64 a3] w fun e w' => ∃ v0_ : Value, e = .returned (v0_) ∧ Kd.R (Kd.int .i64) 3 w' w.heap.size (fun _ => True) v0_ r ∧ Below w.heap.size w w' := by
  have hu36 := Try.underlying36
  have HR0 := Aside0.mk hr0
  have HC0 := Aside0.mk hc0
  clear hr0 hc0
  have HB := Aside0.mk (Below.refl w.heap.size w)
  have H : (if a2 < 0 then (corebankref21_Daily.j0 k l0 a1 a2 a3 true) else (if a3 > 73048 then (corebankref21_Daily.j0 k l0 a1 a2 a3 true) else (if a2 > a3 then (corebankref21_Daily.j0 k l0 a1 a2 a3 true) else (corebankref21_Daily.j0 k l0 a1 a2 a3 (decide ((wrap64 (a3 - a2)) ≥ 4000)))))) = some r := h
  clear h
  have HC5 := Aside0.mk H
  clear H
  go_enter Try.func19, Try.ntmps19
  go_upto_region 1 with (fail)
  go_cut [29] (fun v29 wc => ∃ (kq : Nat) (x29_4 : Bool), v29 = .bool x29_4 ∧ Aside0 (corebankref21_Daily.j0 kq l0 a1 a2 a3 x29_4 = some r) ∧ Aside0 (kq ≤ k) ∧ Aside0 (Below w.heap.size w wc))
  case first =>
    have H := HC5.out
    clear HC5
    by_cases c6 : a2 < 0
    · rw [if_pos c6] at H
      have c6b0 : decide (a2 < 0) = true := decide_eq_true c6
      clear c6
      (first | rw [c6b0] | (simp only [i64_w, i32_w]; rw [c6b0]) | skip)
      have H' := Aside0.mk H
      clear H
      go_wp2
      go_meet
      case rel => exact ⟨_, (true), (by first | rfl | (simp; done) | (simp [*]; done)), H', ⟨by first | omega | exact Nat.le_refl _⟩, ⟨bE⟩⟩
    · rw [if_neg c6] at H
      have c6b0 : decide (a2 < 0) = false := decide_eq_false c6
      clear c6
      (first | rw [c6b0] | (simp only [i64_w, i32_w]; rw [c6b0]) | skip)
      by_cases c7 : a3 > 73048
      · rw [if_pos c7] at H
        have c7b0 : decide (73048 < a3) = true := decide_eq_true c7
        clear c7
        have H' := Aside0.mk H
        clear H
        go_wp2
        go_meet
        case rel => exact ⟨_, (true), (by first | rfl | (simp; done) | (simp [*]; done)), H', ⟨by first | omega | exact Nat.le_refl _⟩, ⟨bE⟩⟩
      · rw [if_neg c7] at H
        have c7b0 : decide (73048 < a3) = false := decide_eq_false c7
        clear c7
        by_cases c8 : a2 > a3
        · rw [if_pos c8] at H
          have c8b0 : decide (a3 < a2) = true := decide_eq_true c8
          clear c8
          have H' := Aside0.mk H
          clear H
          go_wp2
          go_meet
          case rel => exact ⟨_, (true), (by first | rfl | (simp; done) | (simp [*]; done)), H', ⟨by first | omega | exact Nat.le_refl _⟩, ⟨bE⟩⟩
        · rw [if_neg c8] at H
          have c8b0 : decide (a3 < a2) = false := decide_eq_false c8
          clear c8
          have H' := Aside0.mk H
          clear H
          go_wp2
          go_meet
          case rel => exact ⟨_, (decide ((wrap64 (a3 - a2)) ≥ 4000)), (by first | rfl | (simp; done) | (simp [*]; done)), H', ⟨by first | omega | exact Nat.le_refl _⟩, ⟨bE⟩⟩
  case rest =>
    clear HC5
    try clear c1
    try clear p2
    try clear c6
    try clear c6b0
    try clear p6
    try clear c7
    try clear c7b0
    try clear c8
    try clear c8b0
    obtain ⟨kq, x29_4, rfl, HA, HJ4, HB⟩ := hcut
    cases kq with
    | zero => exact absurd HA.out (by simp [corebankref21_Daily.j0])
    | succ kj4 =>
      have H := HA.out
      clear HA
      simp only [corebankref21_Daily.j0] at H
      by_cases c9 : x29_4 = true
      · subst c9
        have H1 : (some ([] : List Int)) = some r := by rw [if_pos rfl] at H; exact H
        clear H
        have H := H1
        clear H1
        obtain rfl := Option.some.inj H
        go_wp2
        go_ret
        exact ⟨_, by first | rfl | (simp [errW_none, errW_some] <;> rfl) | (simp [*, errW_none, errW_some] <;> rfl), by first | exact Kd.R_nil _ _ _ _ _ | exact Kd.N_nil _ _ _ _ _ | exact Kd.V_nil _ _ _ _ _ | exact Kd.Q_nil _ _ _ _ _ | exact Kd.S_nil _ _ _ _ _, bE⟩
      · replace c9 := Bool.eq_false_iff.mpr c9
        subst c9
        have H1 : (if 0 ≤ (wrap64 ((wrap64 (a3 - a2)) + 1)) then (if (wrap64 ((wrap64 (a3 - a2)) + 1) : Int).toNat ≤ 35184372088832 then (corebankref21_Daily.l0 kj4 l0 a1 a2 a3 (List.replicate (wrap64 ((wrap64 (a3 - a2)) + 1) : Int).toNat 0) 0) else (none)) else (none)) = some r := by rw [if_neg (show ¬ (false = true) by decide)] at H; exact H
        clear H
        have H := H1
        clear H1
        obtain ⟨ji10, hji10⟩ : ∃ j_ : Int, (wrap64 ((wrap64 (a3 - a2)) + 1)) = j_ := ⟨_, rfl⟩
        replace H : (if 0 ≤ (ji10) then (if (ji10 : Int).toNat ≤ 35184372088832 then (corebankref21_Daily.l0 kj4 l0 a1 a2 a3 (List.replicate (ji10 : Int).toNat 0) 0) else (none)) else (none)) = some r := by first | (rw [hji10] at H; exact H) | (simp only [hji10] at H ⊢; exact H)
        have hji10w : (IntKind.i64.wrap ((wrap64 (a3 - a2)) + 1)) = ji10 := (i64_w _).trans hji10
        by_cases c11 : 0 ≤ (ji10)
        · rw [if_pos c11] at H
          have c11b0 := eq_true c11
          have c11b1 : decide (0 ≤ (ji10)) = true := decide_eq_true c11
          clear c11
          by_cases c12 : (ji10 : Int).toNat ≤ 35184372088832
          · rw [if_pos c12] at H
            have c12b0 := eq_true c12
            have c12b1 : decide ((ji10 : Int).toNat ≤ 35184372088832) = true := decide_eq_true c12
            clear c12
            obtain ⟨y313, hy313⟩ : ∃ y_ : List Int, y_ = (List.replicate (ji10 : Int).toNat 0) := ⟨_, rfl⟩
            replace H : (corebankref21_Daily.l0 kj4 l0 a1 a2 a3 y313 0) = some r := by first | (rw [hy313]; with_reducible exact H) | (have H2_ := (Option.bind_some _ _).symm.trans H; rw [hy313]; with_reducible exact H2_) | (have H2_ := (Option.bind_some _ _).symm.trans H; with_reducible exact H2_) | with_reducible exact H | (rw [hy313]; exact H) | exact H
            have Ny313 := Aside0.mk hy313
            clear hy313
            have H' := Aside0.mk H
            clear H
            go_wp2_with (first | ((with_reducible refine gate_dst (N := 34) rfl ?_); refine Kd.R_make (Kd.int .i64) _ 3 rfl (N := 34) rfl 31 _ _ rfl ji10 rfl rfl Try.underlying31 (.int .i64 0) 8 info3 rfl (by decide) (by omega) 0 (ok := fun _ => True) (okp := fun _ => True) rfl (fun _ hk => hk) trivial (of_decide_eq_true (by first | (with_reducible assumption) | assumption)) (Nat.le_trans (Nat.mul_le_mul_right _ (of_decide_eq_true (by first | (with_reducible assumption) | assumption) : ji10.toNat ≤ 35184372088832)) (by omega)) (Below.refl _ _) (Nat.le_refl _) ?_; intro v314 w13 ho14 hb hg_ hnew_; clear hg_ hnew_; (first | rw [← Ny313.out] at ho14 | (simp only [Int.reduceToNat] at ho14; rw [← Ny313.out] at ho14)); have HO315 := Aside0.mk (Kd.R_lower ho14 (below_size (bE))); replace HB := Aside0.mk (bS hb); clear hb ho14))
            go_loopg [10] kj4 (fun kq v10 w' => ∃ (x9_2 : List Int) (x10_2 : Int), v10 = .int .i64 x10_2 ∧ Aside0 (corebankref21_Daily.l0 kq l0 a1 a2 a3 x9_2 x10_2 = some r) ∧ Aside0 (kq ≤ kj4) ∧ Aside0 (Kd.R (Kd.int .i64) 3 w' w.heap.size (fun _ => True) v314 x9_2) ∧ Aside0 (Below w.heap.size w w'))
            case atStart => exact ⟨(y313), (0), (by first | rfl | (simp; done) | (simp [*]; done)), H', ⟨Nat.le_refl _⟩, ⟨by (with_reducible repeat (first | apply Kd.R_alloc | apply Kd.R_drewN | apply Kd.R_drew)); exact HO315.out⟩, ⟨bE⟩⟩
            case round =>
              clear H'
              try clear c1
              try clear p2
              try clear c6
              try clear c6b0
              try clear p6
              try clear c7
              try clear c7b0
              try clear c8
              try clear c8b0
              try clear c9
              try clear c11
              try clear c11b0
              try clear c11b1
              try clear c12
              try clear c12b0
              try clear c12b1
              try clear p2
              try clear p6
              obtain ⟨x9_2, x10_2, rfl, HA, HK2, HO_9, HB⟩ := hrel
              cases gk with
              | zero => exact absurd HA.out (by simp [corebankref21_Daily.l0])
              | succ k2 =>
                have H := HA.out
                clear HA
                simp only [corebankref21_Daily.l0] at H
                by_cases c15 : x10_2 < (l0.length : Int)
                · rw [if_pos c15] at H
                  have c15b0 : decide (x10_2 < (l0.length : Int)) = true := decide_eq_true c15
                  clear c15
                  by_cases c16 : 0 ≤ x10_2
                  · rw [if_pos c16] at H
                    have c16b0 : decide (0 ≤ x10_2) = true := decide_eq_true c16
                    clear c16
                    replace H := Option.bind_eq_some_iff.mp H
                    obtain ⟨t317, A170, H⟩ := H
                    replace H : (corebankref21_Daily.l1 k2 l0 a1 a2 a3 x9_2 x10_2 t317 (mx a2 ((rd_T36 l0 x10_2).f2))) = some r := H
                    have A17 := Aside0.mk A170
                    clear A170
                    obtain ⟨ji18, hji18⟩ : ∃ j_ : Int, (mx a2 ((rd_T36 l0 x10_2).f2)) = j_ := ⟨_, rfl⟩
                    replace H : (corebankref21_Daily.l1 k2 l0 a1 a2 a3 x9_2 x10_2 t317 ji18) = some r := by first | (rw [hji18] at H; exact H) | (simp only [hji18] at H ⊢; exact H)
                    (try rw [hji18] at A17)
                    have hji18_ : (if a2 < ((rd_T36 l0 x10_2).f2) then ((rd_T36 l0 x10_2).f2) else a2) = ji18 := hji18
                    have H' := Aside0.mk H
                    clear H
                    have p316 : 0 ≤ (x10_2 : Int) := of_decide_eq_true (by first | (with_reducible assumption) | assumption)
                    have q316 : x10_2 < (l0.length : Int) := of_decide_eq_true (by first | (with_reducible assumption) | assumption)
                    obtain ⟨ad316, A316_8, c316_8, e316, hx316_0, hx316_1, hx316_2, hx316_3, hx316_4, hx316_5, hx316_6, hx316_7, hx316_8, hx316_9, hl316_8, hi316_8⟩ := at_T36 HR0.out x10_2 p316 q316
                    cases e316
                    replace hx316_0 := (HB.out.cell (World.block_lt_of_cell? w _ hx316_0)).trans hx316_0
                    replace hx316_1 := (HB.out.cell (World.block_lt_of_cell? w _ hx316_1)).trans hx316_1
                    replace hx316_2 := (HB.out.cell (World.block_lt_of_cell? w _ hx316_2)).trans hx316_2
                    replace hx316_3 := (HB.out.cell (World.block_lt_of_cell? w _ hx316_3)).trans hx316_3
                    replace hx316_4 := (HB.out.cell (World.block_lt_of_cell? w _ hx316_4)).trans hx316_4
                    replace hx316_5 := (HB.out.cell (World.block_lt_of_cell? w _ hx316_5)).trans hx316_5
                    replace hx316_6 := (HB.out.cell (World.block_lt_of_cell? w _ hx316_6)).trans hx316_6
                    replace hx316_7 := (HB.out.cell (World.block_lt_of_cell? w _ hx316_7)).trans hx316_7
                    replace hx316_8 := (HB.out.cell (World.block_lt_of_cell? w _ hx316_8)).trans hx316_8
                    replace hx316_9 := (HB.out.cell (World.block_lt_of_cell? w _ hx316_9)).trans hx316_9
                    have HR316_8 := Aside0.mk hi316_8
                    have HC316_8 := Aside0.mk hl316_8
                    clear hi316_8 hl316_8
                    replace p316 := eq_true p316
                    replace q316 := eq_true q316
                    go_wp2_with (first | ((with_reducible refine gate_callee (f := 32) rfl ?_); refine goesL_ (some 46) rfl rfl Try.func32 (by kernel_rfl) rfl #[.agg #[.int .i64 ((rd_T36 l0 x10_2).f0), .int .i64 ((rd_T36 l0 x10_2).f1), .int .i64 ((rd_T36 l0 x10_2).f2), .int .i64 ((rd_T36 l0 x10_2).f3), .int .i64 ((rd_T36 l0 x10_2).f4), .int .i64 ((rd_T36 l0 x10_2).f5), .string ((rd_T36 l0 x10_2).f6), .string ((rd_T36 l0 x10_2).f7), .slice A316_8 ((rd_T36 l0 x10_2).f8).length c316_8, .int .u64 ((rd_T36 l0 x10_2).f9)], .int .i64 a1] rfl aG ?_; (with_reducible refine (corebankref21_moved.calls k2 ((rd_T36 l0 x10_2).f0) ((rd_T36 l0 x10_2).f1) ((rd_T36 l0 x10_2).f2) ((rd_T36 l0 x10_2).f3) ((rd_T36 l0 x10_2).f4) ((rd_T36 l0 x10_2).f5) ((rd_T36 l0 x10_2).f6) ((rd_T36 l0 x10_2).f7) _ _ ((rd_T36 l0 x10_2).f8) ((rd_T36 l0 x10_2).f9) a1 t317 _ ?side1 ?side2 A17.out).mono ?_); (case side1 => repeat (first | exact (Kd.C_below HR316_8.out HB.out) | (with_reducible refine Kd.C_alloc ?_ _) | (with_reducible refine Kd.C_drewN ?_ _) | (with_reducible refine Kd.C_drew ?_))); (case side2 => exact HC316_8.out); rintro e w19 ⟨rfl, hb⟩; refine ⟨_, rfl, ?_⟩; have n0_ := Aside0.mk (Kd.R_below (by (with_reducible repeat (first | apply Kd.R_alloc | apply Kd.R_drewN | apply Kd.R_drew)); exact HO_9.out) hb); have n1_ := Aside0.mk (bS hb); clear HO_9; clear HB; have HO_9 := n0_; have HB := n1_; clear n0_ n1_; (try clear hb); (try clear hb2); (try clear hk); (try clear hi); have p318 : 0 ≤ (x10_2 : Int) := of_decide_eq_true (by first | (with_reducible assumption) | assumption); have q318 : x10_2 < (l0.length : Int) := of_decide_eq_true (by first | (with_reducible assumption) | assumption); obtain ⟨ad318, A318_8, c318_8, e318, hx318_0, hx318_1, hx318_2, hx318_3, hx318_4, hx318_5, hx318_6, hx318_7, hx318_8, hx318_9, hl318_8, hi318_8⟩ := at_T36 HR0.out x10_2 p318 q318; obtain rfl : ad316 = ad318 := (by injection e318); replace hx318_0 := (HB.out.cell (World.block_lt_of_cell? w _ hx318_0)).trans hx318_0; replace hx318_1 := (HB.out.cell (World.block_lt_of_cell? w _ hx318_1)).trans hx318_1; replace hx318_2 := (HB.out.cell (World.block_lt_of_cell? w _ hx318_2)).trans hx318_2; replace hx318_3 := (HB.out.cell (World.block_lt_of_cell? w _ hx318_3)).trans hx318_3; replace hx318_4 := (HB.out.cell (World.block_lt_of_cell? w _ hx318_4)).trans hx318_4; replace hx318_5 := (HB.out.cell (World.block_lt_of_cell? w _ hx318_5)).trans hx318_5; replace hx318_6 := (HB.out.cell (World.block_lt_of_cell? w _ hx318_6)).trans hx318_6; replace hx318_7 := (HB.out.cell (World.block_lt_of_cell? w _ hx318_7)).trans hx318_7; replace hx318_8 := (HB.out.cell (World.block_lt_of_cell? w _ hx318_8)).trans hx318_8; replace hx318_9 := (HB.out.cell (World.block_lt_of_cell? w _ hx318_9)).trans hx318_9; have HR318_8 := Aside0.mk hi318_8; have HC318_8 := Aside0.mk hl318_8; clear hi318_8 hl318_8; replace p318 := eq_true p318; replace q318 := eq_true q318))
                    go_loopg [12] k2 (fun kq v12 w' => ∃ (x9_3 : List Int) (x12_3 : Int), v12 = .int .i64 x12_3 ∧ Aside0 (corebankref21_Daily.l1 kq l0 a1 a2 a3 x9_3 x10_2 t317 x12_3 = some r) ∧ Aside0 (kq ≤ k2) ∧ Aside0 (Kd.R (Kd.int .i64) 3 w' w.heap.size (fun _ => True) v314 x9_3) ∧ Aside0 (Below w.heap.size w w'))
                    case atStart => exact ⟨(x9_2), (ji18), (by first | rfl | (simp; done) | (simp only [← hji18] <;> (first | rfl | simp)) | (simp [*]; done)), H', ⟨Nat.le_refl _⟩, ⟨by (with_reducible repeat (first | apply Kd.R_alloc | apply Kd.R_drewN | apply Kd.R_drew)); exact HO_9.out⟩, ⟨bE⟩⟩
                    case round =>
                      clear H'
                      try clear c1
                      try clear p2
                      try clear c3
                      try clear p3
                      try clear q3
                      try clear hx3
                      try clear c6
                      try clear c6b0
                      try clear p6
                      try clear c7
                      try clear c7b0
                      try clear c8
                      try clear c8b0
                      try clear c9
                      try clear c11
                      try clear c11b0
                      try clear c11b1
                      try clear c12
                      try clear c12b0
                      try clear c12b1
                      try clear c15
                      try clear c15b0
                      try clear c16
                      try clear c16b0
                      try clear c19
                      try clear hx316_0
                      try clear hx316_1
                      try clear hx316_2
                      try clear hx316_3
                      try clear hx316_4
                      try clear hx316_5
                      try clear hx316_6
                      try clear hx316_7
                      try clear hx316_8
                      try clear hx316_9
                      try clear hx318_0
                      try clear hx318_1
                      try clear hx318_2
                      try clear hx318_3
                      try clear hx318_4
                      try clear hx318_5
                      try clear hx318_6
                      try clear hx318_7
                      try clear hx318_8
                      try clear hx318_9
                      try clear p2
                      try clear p316
                      try clear p318
                      try clear p6
                      try clear q316
                      try clear q318
                      obtain ⟨x9_3, x12_3, rfl, HA, HK3, HO_9, HB⟩ := hrel
                      cases gk with
                      | zero => exact absurd HA.out (by simp [corebankref21_Daily.l1])
                      | succ k3 =>
                        have H := HA.out
                        clear HA
                        simp only [corebankref21_Daily.l1] at H
                        by_cases c20 : x12_3 ≤ a3
                        · rw [if_pos c20] at H
                          have c20b0 : decide (x12_3 ≤ a3) = true := decide_eq_true c20
                          clear c20
                          by_cases c21 : t317 = 0
                          · rw [if_pos c21] at H
                            have c21b0 : (t317 == 0) = true := beq_iff_eq.mpr c21
                            have c21b1 : (t317 != 0) = false := bne_eq_false_iff_eq.mpr c21
                            clear c21
                            have H' := Aside0.mk H
                            clear H
                            go_wp2
                            go_roundg k3
                            case measure => have := HJ4.out; have := HK2.out; have := HK3.out; omega
                            case rel => exact ⟨(x9_3), (wrap64 (x10_2 + 1)), (by first | rfl | (simp; done) | (simp [*]; done)), H', ⟨by have := HJ4.out; have := HK2.out; have := HK3.out; omega⟩, ⟨by (with_reducible repeat (first | apply Kd.R_alloc | apply Kd.R_drewN | apply Kd.R_drew)); exact HO_9.out⟩, ⟨bE⟩⟩
                          · rw [if_neg c21] at H
                            have c21b0 : (t317 == 0) = false := beq_eq_false_iff_ne.mpr c21
                            have c21b1 : (t317 != 0) = true := bne_iff_ne.mpr c21
                            obtain ⟨ji22, hji22⟩ : ∃ j_ : Int, (wrap64 (x12_3 - a2)) = j_ := ⟨_, rfl⟩
                            replace H : (if 0 ≤ (ji22) then (if (ji22) < (x9_3.length : Int) then (corebankref21_Daily.l1 k3 l0 a1 a2 a3 (x9_3.set ((ji22) : Int).toNat (wrap64 ((rd x9_3 (ji22)) + t317))) x10_2 t317 (wrap64 (x12_3 + 1))) else (none)) else (none)) = some r := by first | (rw [hji22] at H; exact H) | (simp only [hji22] at H ⊢; exact H)
                            have hji22w : (IntKind.i64.wrap (x12_3 - a2)) = ji22 := (i64_w _).trans hji22
                            by_cases c23 : 0 ≤ (ji22)
                            · rw [if_pos c23] at H
                              have c23b0 : decide (0 ≤ (ji22)) = true := decide_eq_true c23
                              clear c23
                              by_cases c24 : (ji22) < (x9_3.length : Int)
                              · rw [if_pos c24] at H
                                have c24b0 : decide ((ji22) < (x9_3.length : Int)) = true := decide_eq_true c24
                                clear c24
                                obtain ⟨y320, hy320⟩ : ∃ y_ : List Int, y_ = (x9_3.set ((ji22) : Int).toNat (wrap64 ((rd x9_3 (ji22)) + t317))) := ⟨_, rfl⟩
                                replace H : (corebankref21_Daily.l1 k3 l0 a1 a2 a3 y320 x10_2 t317 (wrap64 (x12_3 + 1))) = some r := by first | (rw [hy320]; with_reducible exact H) | (have H2_ := (Option.bind_some _ _).symm.trans H; rw [hy320]; with_reducible exact H2_) | (have H2_ := (Option.bind_some _ _).symm.trans H; with_reducible exact H2_) | with_reducible exact H | (rw [hy320]; exact H) | exact H
                                have Ny320 := Aside0.mk hy320
                                clear hy320
                                have H' := Aside0.mk H
                                clear H
                                obtain ⟨Ao26, co26, eo26⟩ := Kd.R_slice HO_9.out
                                subst eo26
                                have p319 : 0 ≤ ((ji22) : Int) := of_decide_eq_true (by first | (with_reducible assumption) | assumption)
                                have q319 : (ji22) < (x9_3.length : Int) := of_decide_eq_true (by first | (with_reducible assumption) | assumption)
                                obtain ⟨ad319, e319, hx319_0⟩ := Kd.at_int (Kd.R_reads' HO_9.out).2.2 (ji22) p319 q319
                                cases e319
                                replace p319 := eq_true p319
                                replace q319 := eq_true q319
                                have p25 : 0 ≤ ((ji22) : Int) := of_decide_eq_true (by first | (with_reducible assumption) | assumption)
                                have q25 : ((ji22) : Int) < ((x9_3.length : Int) : Int) := of_decide_eq_true (by first | (with_reducible assumption) | assumption)
                                obtain ⟨go25, co25, eo25, gb25, gl25, cl25, HG25⟩ := Kd.R_form HO_9.out (by omega)
                                (first | cases eo25 | (injection eo25 with ea_ en_ ec_; (first | subst ea_ | (injection ea_ with ea_; subst ea_)); subst ec_; clear en_))
                                have GB25 := Aside0.mk gb25
                                have GG25 := Aside0.mk HG25
                                clear gb25 gl25 HG25
                                (first | simp only [add_plain] at hx319_0 | skip)
                                obtain ⟨hx25_0, hf25_0⟩ := Kd.R_celln 0 HO_9.out ((ji22) : Int) p25 q25
                                replace p25 := eq_true p25
                                replace q25 := eq_true q25
                                have HP27 := Kd.R_putg HO_9.out ((ji22) : Int) (wrap64 ((rd x9_3 (ji22)) + t317))
                                go_wp2_with (first | ((with_reducible refine gate_store (t := 3) (p := 75) rfl ?_); refine store_event (t := 3) (p := 75) (v := ?vo_w28) (w1 := (wr.setCell ⟨go25, ((ji22) : Int).toNat, none⟩ (.int .i64 (wrap64 ((rd x9_3 (ji22)) + t317))))) ?hg ?ho ?hn ?hr ?_; (case ho => rfl); (case hg => rfl); (case hn => rfl); (case hr => first | (go_simp; done) | (go_simp; rfl)); intro w28 hw; have hg : wr.grownBy w28 (some go25) := (by rw [hw]; exact HP27.2); have hp_ : Kd.R (Kd.int .i64) 3 w28 w.heap.size (fun _ => True) (.slice (some ⟨go25, 0, none⟩) x9_3.length co26) y320 := (by rw [hw, Ny320.out]; exact HP27.1); clear HP27; have n0_ := Aside0.mk (hp_); have n1_ := Aside0.mk ((by rw [hw]; exact below_set (HB.out) GB25.out : Below w.heap.size w w28)); clear HO_9; clear HB; have HO_9 := n0_; have HB := n1_; clear n0_ n1_; clear hg hw hp_))
                                go_roundg k3
                                case measure => have := HJ4.out; have := HK2.out; have := HK3.out; omega
                                case rel => exact ⟨(y320), (wrap64 (x12_3 + 1)), (by first | rfl | (simp; done) | (simp [*]; done)), H', ⟨by have := HJ4.out; have := HK2.out; have := HK3.out; omega⟩, ⟨by (with_reducible repeat (first | apply Kd.R_alloc | apply Kd.R_drewN | apply Kd.R_drew)); exact HO_9.out⟩, ⟨bE⟩⟩
                              · rw [if_neg c24] at H
                                exact absurd H (by simp)
                            · rw [if_neg c23] at H
                              exact absurd H (by simp)
                        · rw [if_neg c20] at H
                          have c20b0 : decide (x12_3 ≤ a3) = false := decide_eq_false c20
                          clear c20
                          have H' := Aside0.mk H
                          clear H
                          go_wp2
                          go_roundg k3
                          case measure => have := HJ4.out; have := HK2.out; have := HK3.out; omega
                          case rel => exact ⟨(x9_3), (wrap64 (x10_2 + 1)), (by first | rfl | (simp; done) | (simp [*]; done)), H', ⟨by have := HJ4.out; have := HK2.out; have := HK3.out; omega⟩, ⟨by (with_reducible repeat (first | apply Kd.R_alloc | apply Kd.R_drewN | apply Kd.R_drew)); exact HO_9.out⟩, ⟨bE⟩⟩
                  · rw [if_neg c16] at H
                    exact absurd H (by simp)
                · rw [if_neg c15] at H
                  have c15b0 : decide (x10_2 < (l0.length : Int)) = false := decide_eq_false c15
                  clear c15
                  obtain rfl := Option.some.inj H
                  go_wp2
                  go_ret
                  exact ⟨_, by first | rfl | (simp [errW_none, errW_some] <;> rfl) | (simp only [← hji10]; first | rfl | (simp [errW_none, errW_some] <;> rfl)) | (simp [*, errW_none, errW_some] <;> rfl), by (with_reducible repeat (first | apply Kd.R_alloc | apply Kd.R_drewN | apply Kd.R_drew)); exact HO_9.out, bE⟩
          · rw [if_neg c12] at H
            exact absurd H (by simp)
        · rw [if_neg c11] at H
          exact absurd H (by simp)

end Go.Proofs.Ytnilmhhidmdlnaa.PA
