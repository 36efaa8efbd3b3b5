/- Contracts of the Go functions and their plain Lean functions, written by a program of this session out of the translation. -/
import Derived.Test.YtdieblejeeojhaaPAx0
namespace Go.Proofs.Ytdieblejeeojhaa.PA
open Go.RowKit Go.Proofs.YtdieblejeeojhaaW.PrintWords Go.Proofs.YtdieblejeeojhaaW.PrintLast Go.Proofs.YtdieblejeeojhaaW.PrintMore
attribute [local go_sem] max2_int min2_int max_two min_two max_three min_three max_four min_four   -- for this text's walks alone
set_option linter.unusedVariables false
set_option linter.unusedSimpArgs false

/-! ### corebankref44_Items: function 26 -/
mutual
def corebankref44_Items.l0 : Nat → List (S71) → Int → Int → Int → List (S40) → Int → Option ((List (S40)))
  | 0, _, _, _, _, _, _ => none
  | k + 1, x0, x1, x2, x3, x9, x10 => if x10 < (x0.length : Int) then (corebankref44_Items.l1 k x0 x1 x2 x3 x9 x10 0) else (some x9)
def corebankref44_Items.l1 : Nat → List (S71) → Int → Int → Int → List (S40) → Int → Int → Option ((List (S40)))
  | 0, _, _, _, _, _, _, _ => none
  | k + 1, x0, x1, x2, x3, x9, x10, x11 => if 0 ≤ x10 then (if x10 < (x0.length : Int) then (if x11 < (((rd_T71 x0 x10).f8).length : Int) then (if ((rd_T71 x0 x10).f1) ≥ x2 then (corebankref44_Items.j2 k x0 x1 x2 x3 x9 x10 x11 (decide (((rd_T71 x0 x10).f1) ≤ x3))) else (corebankref44_Items.j2 k x0 x1 x2 x3 x9 x10 x11 false)) else (corebankref44_Items.j2 k x0 x1 x2 x3 x9 x10 x11 false)) else (none)) else (none)
def corebankref44_Items.j2 : Nat → List (S71) → Int → Int → Int → List (S40) → Int → Int → Bool → Option ((List (S40)))
  | 0, _, _, _, _, _, _, _, _ => none
  | k + 1, x0, x1, x2, x3, x9, x10, x11, x44 => if x44 = true then (if 0 ≤ x10 then (if x10 < (x0.length : Int) then (if 0 ≤ x11 then (if x11 < (((rd_T71 x0 x10).f8).length : Int) then (if ((rd_T73 ((rd_T71 x0 x10).f8) x11).f0) = x1 then (if x9.length < 4398046511104 then (corebankref44_Items.l1 k x0 x1 x2 x3 (x9 ++ [(⟨(rd_T71 x0 x10).f6, (rd_T71 x0 x10).f2, wrap64 (-((rd_T73 ((rd_T71 x0 x10).f8) x11).f1))⟩ : S40)]) x10 (wrap64 (x11 + 1))) else (none)) else (corebankref44_Items.l1 k x0 x1 x2 x3 x9 x10 (wrap64 (x11 + 1)))) else (none)) else (none)) else (none)) else (none)) else (corebankref44_Items.l0 k x0 x1 x2 x3 x9 (wrap64 (x10 + 1)))
end
def corebankref44_Items.f (k : Nat) (l0 : List (S71)) (a1 : Int) (a2 : Int) (a3 : Int) : Option ((List (S40))) := corebankref44_Items.l0 k l0 a1 a2 a3 (([] : List (S40))) 0
theorem corebankref44_Items.mono_l : ∀ k, (∀ y0 y1 y2 y3 y4 y5, LeO (corebankref44_Items.l0 k y0 y1 y2 y3 y4 y5) (corebankref44_Items.l0 (k + 1) y0 y1 y2 y3 y4 y5)) ∧ (∀ y0 y1 y2 y3 y4 y5 y6, LeO (corebankref44_Items.l1 k y0 y1 y2 y3 y4 y5 y6) (corebankref44_Items.l1 (k + 1) y0 y1 y2 y3 y4 y5 y6)) ∧ (∀ y0 y1 y2 y3 y4 y5 y6 y7, LeO (corebankref44_Items.j2 k y0 y1 y2 y3 y4 y5 y6 y7) (corebankref44_Items.j2 (k + 1) y0 y1 y2 y3 y4 y5 y6 y7))
  | 0 => ⟨fun _ _ _ _ _ _ r h => by simp [corebankref44_Items.l0] at h, fun _ _ _ _ _ _ _ r h => by simp [corebankref44_Items.l1] at h, fun _ _ _ _ _ _ _ _ r h => by simp [corebankref44_Items.j2] at h⟩
  | k + 1 => by
    obtain ⟨ih0, ih1, ih2⟩ := corebankref44_Items.mono_l k
    refine ⟨?_, ?_, ?_⟩
    · intro y0 y1 y2 y3 y4 y5
      unfold corebankref44_Items.l0
      repeat' first
      | (with_reducible exact ih0 _ _ _ _ _ _)
      | (with_reducible exact ih1 _ _ _ _ _ _ _)
      | (with_reducible exact ih2 _ _ _ _ _ _ _ _)
      | (with_reducible exact LeO.refl _)
      | (with_reducible exact LeO.none _)
      | (with_reducible refine LeO.ite ?_ ?_)
      | (with_reducible refine LeO.bind ?_ (fun _ => ?_))
      | exact ih0 _ _ _ _ _ _
      | exact ih1 _ _ _ _ _ _ _
      | exact ih2 _ _ _ _ _ _ _ _
      | exact LeO.none _
      | refine LeO.ite ?_ ?_
      | refine LeO.bind ?_ (fun _ => ?_)
    · intro y0 y1 y2 y3 y4 y5 y6
      unfold corebankref44_Items.l1
      repeat' first
      | (with_reducible exact ih0 _ _ _ _ _ _)
      | (with_reducible exact ih1 _ _ _ _ _ _ _)
      | (with_reducible exact ih2 _ _ _ _ _ _ _ _)
      | (with_reducible exact LeO.refl _)
      | (with_reducible exact LeO.none _)
      | (with_reducible refine LeO.ite ?_ ?_)
      | (with_reducible refine LeO.bind ?_ (fun _ => ?_))
      | exact ih0 _ _ _ _ _ _
      | exact ih1 _ _ _ _ _ _ _
      | exact ih2 _ _ _ _ _ _ _ _
      | exact LeO.none _
      | refine LeO.ite ?_ ?_
      | refine LeO.bind ?_ (fun _ => ?_)
    · intro y0 y1 y2 y3 y4 y5 y6 y7
      unfold corebankref44_Items.j2
      repeat' first
      | (with_reducible exact ih0 _ _ _ _ _ _)
      | (with_reducible exact ih1 _ _ _ _ _ _ _)
      | (with_reducible exact ih2 _ _ _ _ _ _ _ _)
      | (with_reducible exact LeO.refl _)
      | (with_reducible exact LeO.none _)
      | (with_reducible refine LeO.ite ?_ ?_)
      | (with_reducible refine LeO.bind ?_ (fun _ => ?_))
      | exact ih0 _ _ _ _ _ _
      | exact ih1 _ _ _ _ _ _ _
      | exact ih2 _ _ _ _ _ _ _ _
      | exact LeO.none _
      | refine LeO.ite ?_ ?_
      | refine LeO.bind ?_ (fun _ => ?_)
theorem corebankref44_Items.mono : ∀ a0 a1 a2 a3 k, LeO (corebankref44_Items.f k a0 a1 a2 a3) (corebankref44_Items.f (k + 1) a0 a1 a2 a3) := by
  intro a0 a1 a2 a3 k
  obtain ⟨ih0, ih1, ih2⟩ := corebankref44_Items.mono_l k
  unfold corebankref44_Items.f
  repeat' first
      | (with_reducible exact ih0 _ _ _ _ _ _)
      | (with_reducible exact ih1 _ _ _ _ _ _ _)
      | (with_reducible exact ih2 _ _ _ _ _ _ _ _)
      | (with_reducible exact LeO.refl _)
      | (with_reducible exact LeO.none _)
      | (with_reducible refine LeO.ite ?_ ?_)
      | (with_reducible refine LeO.bind ?_ (fun _ => ?_))
      | exact ih0 _ _ _ _ _ _
      | exact ih1 _ _ _ _ _ _ _
      | exact ih2 _ _ _ _ _ _ _ _
      | exact LeO.none _
      | refine LeO.ite ?_ ?_
      | refine LeO.bind ?_ (fun _ => ?_)
def corebankref44_Items.T9 : Bool × List (List Nat × List Nat) := (true, [([], []), ([], []), ([], []), ([1, 2], [1, 2]), ([3], [3]), ([4], [4]), ([], []), ([], []), ([6, 7], [6, 7]), ([8], [8]), ([9], [9]), ([], []), ([], []), ([11, 12], [11, 12]), ([13], [13]), ([14], [14]), ([], []), ([15, 16], [15, 16]), ([17], [17]), ([18], [18]), ([19], [19]), ([5, 10, 20], [5, 10, 20]), ([21], [21]), ([0, 22], [0, 22]), ([23, 23, 0, 1, 2, 3, 4, 5, 6, 7, 8, 9, 10, 11, 12, 13, 14, 15, 16, 17, 18, 19, 20, 21, 22, 23], [0, 23])])
def corebankref44_Items.B9 : List Nat := [0, 0, 0, 6, 14, 30, 0, 0, 192, 448, 960, 0, 0, 6144, 14336, 30720, 0, 129024, 260096, 522240, 1046528, 2097150, 4194302, 8388607, 16777215]
theorem corebankref44_Items.tab9 : rtab .any (opsOf Try.f26 9) = corebankref44_Items.T9 := by kernel_rfl
theorem corebankref44_Items.bits9 : waitsOk corebankref44_Items.T9.2 corebankref44_Items.B9 = true := by kernel_rfl
set_option maxHeartbeats 8000000 in
set_option maxRecDepth 100000 in
theorem corebankref44_Items.calls (k : Nat) (A0 : Option Addr) (c0 : Nat) (l0 : List (S71)) (a1 : Int) (a2 : Int) (a3 : Int) (r : List (S40)) (w : World) (hr0 : Kd.C k71 w A0 l0.length l0) (hc0 : l0.length ≤ c0) (h : corebankref44_Items.f k l0 a1 a2 a3 = some r) :
    Calls Try.prog 26 #[.slice A0 l0.length c0, .int .i64 a1, .int .i64 a2, .int .i64 a3] w fun e w' => ∃ v0_ : Value, e = .returned (v0_) ∧ Kd.R k40 40 w' w.heap.size (fun _ => True) v0_ r ∧ Below w.heap.size w w' := by
  have hu40 := Try.underlying40
  have HR0 := Aside0.mk hr0
  have HC0 := Aside0.mk hc0
  clear hr0 hc0
  have HB := Aside0.mk (Below.refl w.heap.size w)
  have H : (corebankref44_Items.l0 k l0 a1 a2 a3 (([] : List (S40))) 0) = some r := h
  clear h
  obtain ⟨y357, hy357⟩ : ∃ y_ : List (S40), y_ = (([] : List (S40))) := ⟨_, rfl⟩
  replace H : (corebankref44_Items.l0 k l0 a1 a2 a3 y357 0) = some r := by first | (rw [hy357]; with_reducible exact H) | (have H2_ := (Option.bind_some _ _).symm.trans H; rw [hy357]; with_reducible exact H2_) | (have H2_ := (Option.bind_some _ _).symm.trans H; with_reducible exact H2_) | with_reducible exact H | (rw [hy357]; exact H) | exact H
  have Ny357 := Aside0.mk hy357
  clear hy357
  have H' := Aside0.mk H
  clear H
  go_enter Try.func26, Try.ntmps26
  go_wp2_with (first | ((with_reducible refine gate_dst (N := 12) rfl ?_); refine Kd.R_lit k40 _ 40 ?hg (N := 12) ?hd (xs := ([] : List (S40))) (inner := []) (ok := fun _ => True) (okp := fun _ => True) ?hr ?hp (fun _ hk => hk) trivial (Below.refl _ _) (Nat.le_refl _) (by simp) ?_; (case hd => rfl); (case hg => rfl); (case hr => first | (go_simp; done) | (go_simp; rfl)); (case hp => exact (Reps.none _ _)); intro v358 w5 ho6 hb hg_ hnew_; clear hg_ hnew_; (first | rw [← Ny357.out] at ho6 | (simp only [Int.reduceToNat] at ho6; rw [← Ny357.out] at ho6)); have HO359 := Aside0.mk (Kd.R_lower ho6 (below_size (bE))); replace HB := Aside0.mk (bS hb); clear hb ho6))
  go_loopg [9, 10] k (fun kq v9 v10 w' => ∃ (x9_1 : List (S40)) (x10_1 : Int), v10 = .int .i64 x10_1 ∧ Aside0 (corebankref44_Items.l0 kq l0 a1 a2 a3 x9_1 x10_1 = some r) ∧ Aside0 (kq ≤ k) ∧ Aside0 (Kd.R k40 40 w' w.heap.size (fun _ => True) v9 x9_1) ∧ Aside0 (Below w.heap.size w w'))
  case atStart => exact ⟨(y357), (0), (by first | rfl | (simp; done) | (simp [*]; done)), H', ⟨Nat.le_refl _⟩, ⟨by (with_reducible repeat (first | apply Kd.R_alloc | apply Kd.R_drewN | apply Kd.R_drew)); exact HO359.out⟩, ⟨bE⟩⟩
  case round =>
    clear H'
    try clear c2
    try clear p2
    obtain ⟨x9_1, x10_1, rfl, HA, HK1, HO_9, HB⟩ := hrel
    cases gk with
    | zero => exact absurd HA.out (by simp [corebankref44_Items.l0])
    | succ k1 =>
      have H := HA.out
      clear HA
      simp only [corebankref44_Items.l0] at H
      by_cases c7 : x10_1 < (l0.length : Int)
      · rw [if_pos c7] at H
        have c7b0 : decide (x10_1 < (l0.length : Int)) = true := decide_eq_true c7
        clear c7
        have H' := Aside0.mk H
        clear H
        go_wp2
        go_loopg [9, 11] k1 (fun kq v9 v11 w' => ∃ (x9_2 : List (S40)) (x11_2 : Int), v11 = .int .i64 x11_2 ∧ Aside0 (corebankref44_Items.l1 kq l0 a1 a2 a3 x9_2 x10_1 x11_2 = some r) ∧ Aside0 (kq ≤ k1) ∧ Aside0 (Kd.R k40 40 w' w.heap.size (fun _ => True) v9 x9_2) ∧ Aside0 (Below w.heap.size w w'))
        case atStart => exact ⟨(x9_1), (0), (by first | rfl | (simp; done) | (simp [*]; done)), H', ⟨Nat.le_refl _⟩, ⟨by (with_reducible repeat (first | apply Kd.R_alloc | apply Kd.R_drewN | apply Kd.R_drew)); exact HO_9.out⟩, ⟨bE⟩⟩
        case round =>
          clear H'
          try clear c2
          try clear p2
          try clear c7
          try clear c7b0
          try clear p2
          obtain ⟨x9_2, x11_2, rfl, HA, HK2, HO_9, HB⟩ := hrel
          cases gk with
          | zero => exact absurd HA.out (by simp [corebankref44_Items.l1])
          | succ k2 =>
            have H := HA.out
            clear HA
            simp only [corebankref44_Items.l1] at H
            have HC8 := Aside0.mk H
            clear H
            go_upto_region 6 with (fail)
            go_cut [44] (fun v44 wc => ∃ (kq : Nat) (x44_7 : Bool), v44 = .bool x44_7 ∧ Aside0 (corebankref44_Items.j2 kq l0 a1 a2 a3 x9_2 x10_1 x11_2 x44_7 = some r) ∧ Aside0 (kq ≤ k2) ∧ Aside0 (Kd.R k40 40 wc w.heap.size (fun _ => True) u9 x9_2) ∧ Aside0 (Below w.heap.size w wc))
            case first =>
              have H := HC8.out
              clear HC8
              by_cases c9 : 0 ≤ x10_1
              · rw [if_pos c9] at H
                have c9b0 : decide (0 ≤ x10_1) = true := decide_eq_true c9
                clear c9
                (first | rw [c9b0] | (simp only [i64_w, i32_w]; rw [c9b0]) | skip)
                by_cases c10 : x10_1 < (l0.length : Int)
                · rw [if_pos c10] at H
                  have c10b0 : decide (x10_1 < (l0.length : Int)) = true := decide_eq_true c10
                  clear c10
                  by_cases c11 : x11_2 < (((rd_T71 l0 x10_1).f8).length : Int)
                  · rw [if_pos c11] at H
                    have c11b0 : decide (x11_2 < (((rd_T71 l0 x10_1).f8).length : Int)) = true := decide_eq_true c11
                    clear c11
                    by_cases c12 : ((rd_T71 l0 x10_1).f1) ≥ a2
                    · rw [if_pos c12] at H
                      have c12b0 : decide (a2 ≤ ((rd_T71 l0 x10_1).f1)) = true := decide_eq_true c12
                      clear c12
                      have H' := Aside0.mk H
                      clear H
                      have p360 : 0 ≤ (x10_1 : Int) := of_decide_eq_true (by first | (with_reducible assumption) | assumption)
                      have q360 : x10_1 < (l0.length : Int) := of_decide_eq_true (by first | (with_reducible assumption) | assumption)
                      obtain ⟨ad360, A360_8, c360_8, e360, hx360_0, hx360_1, hx360_2, hx360_3, hx360_4, hx360_5, hx360_6, hx360_7, hx360_8, hx360_9, hl360_8, hi360_8⟩ := at_T71 HR0.out x10_1 p360 q360
                      cases e360
                      replace hx360_0 := (HB.out.cell (World.block_lt_of_cell? w _ hx360_0)).trans hx360_0
                      replace hx360_1 := (HB.out.cell (World.block_lt_of_cell? w _ hx360_1)).trans hx360_1
                      replace hx360_2 := (HB.out.cell (World.block_lt_of_cell? w _ hx360_2)).trans hx360_2
                      replace hx360_3 := (HB.out.cell (World.block_lt_of_cell? w _ hx360_3)).trans hx360_3
                      replace hx360_4 := (HB.out.cell (World.block_lt_of_cell? w _ hx360_4)).trans hx360_4
                      replace hx360_5 := (HB.out.cell (World.block_lt_of_cell? w _ hx360_5)).trans hx360_5
                      replace hx360_6 := (HB.out.cell (World.block_lt_of_cell? w _ hx360_6)).trans hx360_6
                      replace hx360_7 := (HB.out.cell (World.block_lt_of_cell? w _ hx360_7)).trans hx360_7
                      replace hx360_8 := (HB.out.cell (World.block_lt_of_cell? w _ hx360_8)).trans hx360_8
                      replace hx360_9 := (HB.out.cell (World.block_lt_of_cell? w _ hx360_9)).trans hx360_9
                      have HR360_8 := Aside0.mk hi360_8
                      have HC360_8 := Aside0.mk hl360_8
                      clear hi360_8 hl360_8
                      replace p360 := eq_true p360
                      replace q360 := eq_true q360
                      have p361 : 0 ≤ (x10_1 : Int) := of_decide_eq_true (by first | (with_reducible assumption) | assumption)
                      have q361 : x10_1 < (l0.length : Int) := of_decide_eq_true (by first | (with_reducible assumption) | assumption)
                      obtain ⟨ad361, A361_8, c361_8, e361, hx361_0, hx361_1, hx361_2, hx361_3, hx361_4, hx361_5, hx361_6, hx361_7, hx361_8, hx361_9, hl361_8, hi361_8⟩ := at_T71 HR0.out x10_1 p361 q361
                      obtain rfl : ad360 = ad361 := (by injection e361)
                      replace hx361_0 := (HB.out.cell (World.block_lt_of_cell? w _ hx361_0)).trans hx361_0
                      replace hx361_1 := (HB.out.cell (World.block_lt_of_cell? w _ hx361_1)).trans hx361_1
                      replace hx361_2 := (HB.out.cell (World.block_lt_of_cell? w _ hx361_2)).trans hx361_2
                      replace hx361_3 := (HB.out.cell (World.block_lt_of_cell? w _ hx361_3)).trans hx361_3
                      replace hx361_4 := (HB.out.cell (World.block_lt_of_cell? w _ hx361_4)).trans hx361_4
                      replace hx361_5 := (HB.out.cell (World.block_lt_of_cell? w _ hx361_5)).trans hx361_5
                      replace hx361_6 := (HB.out.cell (World.block_lt_of_cell? w _ hx361_6)).trans hx361_6
                      replace hx361_7 := (HB.out.cell (World.block_lt_of_cell? w _ hx361_7)).trans hx361_7
                      replace hx361_8 := (HB.out.cell (World.block_lt_of_cell? w _ hx361_8)).trans hx361_8
                      replace hx361_9 := (HB.out.cell (World.block_lt_of_cell? w _ hx361_9)).trans hx361_9
                      have HR361_8 := Aside0.mk hi361_8
                      have HC361_8 := Aside0.mk hl361_8
                      clear hi361_8 hl361_8
                      replace p361 := eq_true p361
                      replace q361 := eq_true q361
                      have ea_ := Option.some.inj (hx360_8.symm.trans hx361_8)
                      injection ea_ with ea_ en_ ec_
                      subst ea_
                      subst ec_
                      clear en_
                      have p362 : 0 ≤ (x10_1 : Int) := of_decide_eq_true (by first | (with_reducible assumption) | assumption)
                      have q362 : x10_1 < (l0.length : Int) := of_decide_eq_true (by first | (with_reducible assumption) | assumption)
                      obtain ⟨ad362, A362_8, c362_8, e362, hx362_0, hx362_1, hx362_2, hx362_3, hx362_4, hx362_5, hx362_6, hx362_7, hx362_8, hx362_9, hl362_8, hi362_8⟩ := at_T71 HR0.out x10_1 p362 q362
                      obtain rfl : ad360 = ad362 := (by injection e362)
                      replace hx362_0 := (HB.out.cell (World.block_lt_of_cell? w _ hx362_0)).trans hx362_0
                      replace hx362_1 := (HB.out.cell (World.block_lt_of_cell? w _ hx362_1)).trans hx362_1
                      replace hx362_2 := (HB.out.cell (World.block_lt_of_cell? w _ hx362_2)).trans hx362_2
                      replace hx362_3 := (HB.out.cell (World.block_lt_of_cell? w _ hx362_3)).trans hx362_3
                      replace hx362_4 := (HB.out.cell (World.block_lt_of_cell? w _ hx362_4)).trans hx362_4
                      replace hx362_5 := (HB.out.cell (World.block_lt_of_cell? w _ hx362_5)).trans hx362_5
                      replace hx362_6 := (HB.out.cell (World.block_lt_of_cell? w _ hx362_6)).trans hx362_6
                      replace hx362_7 := (HB.out.cell (World.block_lt_of_cell? w _ hx362_7)).trans hx362_7
                      replace hx362_8 := (HB.out.cell (World.block_lt_of_cell? w _ hx362_8)).trans hx362_8
                      replace hx362_9 := (HB.out.cell (World.block_lt_of_cell? w _ hx362_9)).trans hx362_9
                      have HR362_8 := Aside0.mk hi362_8
                      have HC362_8 := Aside0.mk hl362_8
                      clear hi362_8 hl362_8
                      replace p362 := eq_true p362
                      replace q362 := eq_true q362
                      have ea_ := Option.some.inj (hx360_8.symm.trans hx362_8)
                      injection ea_ with ea_ en_ ec_
                      subst ea_
                      subst ec_
                      clear en_
                      go_wp2
                      go_meet
                      case rel => exact ⟨_, (decide (((rd_T71 l0 x10_1).f1) ≤ a3)), (by first | rfl | (simp; done) | (simp [*]; done)), H', ⟨by have := HK1.out; have := HK2.out; first | omega | exact Nat.le_refl _⟩, ⟨by (with_reducible repeat (first | apply Kd.R_alloc | apply Kd.R_drewN | apply Kd.R_drew)); exact HO_9.out⟩, ⟨bE⟩⟩
                    · rw [if_neg c12] at H
                      have c12b0 : decide (a2 ≤ ((rd_T71 l0 x10_1).f1)) = false := decide_eq_false c12
                      clear c12
                      have H' := Aside0.mk H
                      clear H
                      have p360 : 0 ≤ (x10_1 : Int) := of_decide_eq_true (by first | (with_reducible assumption) | assumption)
                      have q360 : x10_1 < (l0.length : Int) := of_decide_eq_true (by first | (with_reducible assumption) | assumption)
                      obtain ⟨ad360, A360_8, c360_8, e360, hx360_0, hx360_1, hx360_2, hx360_3, hx360_4, hx360_5, hx360_6, hx360_7, hx360_8, hx360_9, hl360_8, hi360_8⟩ := at_T71 HR0.out x10_1 p360 q360
                      cases e360
                      replace hx360_0 := (HB.out.cell (World.block_lt_of_cell? w _ hx360_0)).trans hx360_0
                      replace hx360_1 := (HB.out.cell (World.block_lt_of_cell? w _ hx360_1)).trans hx360_1
                      replace hx360_2 := (HB.out.cell (World.block_lt_of_cell? w _ hx360_2)).trans hx360_2
                      replace hx360_3 := (HB.out.cell (World.block_lt_of_cell? w _ hx360_3)).trans hx360_3
                      replace hx360_4 := (HB.out.cell (World.block_lt_of_cell? w _ hx360_4)).trans hx360_4
                      replace hx360_5 := (HB.out.cell (World.block_lt_of_cell? w _ hx360_5)).trans hx360_5
                      replace hx360_6 := (HB.out.cell (World.block_lt_of_cell? w _ hx360_6)).trans hx360_6
                      replace hx360_7 := (HB.out.cell (World.block_lt_of_cell? w _ hx360_7)).trans hx360_7
                      replace hx360_8 := (HB.out.cell (World.block_lt_of_cell? w _ hx360_8)).trans hx360_8
                      replace hx360_9 := (HB.out.cell (World.block_lt_of_cell? w _ hx360_9)).trans hx360_9
                      have HR360_8 := Aside0.mk hi360_8
                      have HC360_8 := Aside0.mk hl360_8
                      clear hi360_8 hl360_8
                      replace p360 := eq_true p360
                      replace q360 := eq_true q360
                      have p361 : 0 ≤ (x10_1 : Int) := of_decide_eq_true (by first | (with_reducible assumption) | assumption)
                      have q361 : x10_1 < (l0.length : Int) := of_decide_eq_true (by first | (with_reducible assumption) | assumption)
                      obtain ⟨ad361, A361_8, c361_8, e361, hx361_0, hx361_1, hx361_2, hx361_3, hx361_4, hx361_5, hx361_6, hx361_7, hx361_8, hx361_9, hl361_8, hi361_8⟩ := at_T71 HR0.out x10_1 p361 q361
                      obtain rfl : ad360 = ad361 := (by injection e361)
                      replace hx361_0 := (HB.out.cell (World.block_lt_of_cell? w _ hx361_0)).trans hx361_0
                      replace hx361_1 := (HB.out.cell (World.block_lt_of_cell? w _ hx361_1)).trans hx361_1
                      replace hx361_2 := (HB.out.cell (World.block_lt_of_cell? w _ hx361_2)).trans hx361_2
                      replace hx361_3 := (HB.out.cell (World.block_lt_of_cell? w _ hx361_3)).trans hx361_3
                      replace hx361_4 := (HB.out.cell (World.block_lt_of_cell? w _ hx361_4)).trans hx361_4
                      replace hx361_5 := (HB.out.cell (World.block_lt_of_cell? w _ hx361_5)).trans hx361_5
                      replace hx361_6 := (HB.out.cell (World.block_lt_of_cell? w _ hx361_6)).trans hx361_6
                      replace hx361_7 := (HB.out.cell (World.block_lt_of_cell? w _ hx361_7)).trans hx361_7
                      replace hx361_8 := (HB.out.cell (World.block_lt_of_cell? w _ hx361_8)).trans hx361_8
                      replace hx361_9 := (HB.out.cell (World.block_lt_of_cell? w _ hx361_9)).trans hx361_9
                      have HR361_8 := Aside0.mk hi361_8
                      have HC361_8 := Aside0.mk hl361_8
                      clear hi361_8 hl361_8
                      replace p361 := eq_true p361
                      replace q361 := eq_true q361
                      have ea_ := Option.some.inj (hx360_8.symm.trans hx361_8)
                      injection ea_ with ea_ en_ ec_
                      subst ea_
                      subst ec_
                      clear en_
                      go_wp2
                      go_meet
                      case rel => exact ⟨_, (false), (by first | rfl | (simp; done) | (simp [*]; done)), H', ⟨by have := HK1.out; have := HK2.out; first | omega | exact Nat.le_refl _⟩, ⟨by (with_reducible repeat (first | apply Kd.R_alloc | apply Kd.R_drewN | apply Kd.R_drew)); exact HO_9.out⟩, ⟨bE⟩⟩
                  · rw [if_neg c11] at H
                    have c11b0 : decide (x11_2 < (((rd_T71 l0 x10_1).f8).length : Int)) = false := decide_eq_false c11
                    clear c11
                    have H' := Aside0.mk H
                    clear H
                    have p360 : 0 ≤ (x10_1 : Int) := of_decide_eq_true (by first | (with_reducible assumption) | assumption)
                    have q360 : x10_1 < (l0.length : Int) := of_decide_eq_true (by first | (with_reducible assumption) | assumption)
                    obtain ⟨ad360, A360_8, c360_8, e360, hx360_0, hx360_1, hx360_2, hx360_3, hx360_4, hx360_5, hx360_6, hx360_7, hx360_8, hx360_9, hl360_8, hi360_8⟩ := at_T71 HR0.out x10_1 p360 q360
                    cases e360
                    replace hx360_0 := (HB.out.cell (World.block_lt_of_cell? w _ hx360_0)).trans hx360_0
                    replace hx360_1 := (HB.out.cell (World.block_lt_of_cell? w _ hx360_1)).trans hx360_1
                    replace hx360_2 := (HB.out.cell (World.block_lt_of_cell? w _ hx360_2)).trans hx360_2
                    replace hx360_3 := (HB.out.cell (World.block_lt_of_cell? w _ hx360_3)).trans hx360_3
                    replace hx360_4 := (HB.out.cell (World.block_lt_of_cell? w _ hx360_4)).trans hx360_4
                    replace hx360_5 := (HB.out.cell (World.block_lt_of_cell? w _ hx360_5)).trans hx360_5
                    replace hx360_6 := (HB.out.cell (World.block_lt_of_cell? w _ hx360_6)).trans hx360_6
                    replace hx360_7 := (HB.out.cell (World.block_lt_of_cell? w _ hx360_7)).trans hx360_7
                    replace hx360_8 := (HB.out.cell (World.block_lt_of_cell? w _ hx360_8)).trans hx360_8
                    replace hx360_9 := (HB.out.cell (World.block_lt_of_cell? w _ hx360_9)).trans hx360_9
                    have HR360_8 := Aside0.mk hi360_8
                    have HC360_8 := Aside0.mk hl360_8
                    clear hi360_8 hl360_8
                    replace p360 := eq_true p360
                    replace q360 := eq_true q360
                    go_wp2
                    go_meet
                    case rel => exact ⟨_, (false), (by first | rfl | (simp; done) | (simp [*]; done)), H', ⟨by have := HK1.out; have := HK2.out; first | omega | exact Nat.le_refl _⟩, ⟨by (with_reducible repeat (first | apply Kd.R_alloc | apply Kd.R_drewN | apply Kd.R_drew)); exact HO_9.out⟩, ⟨bE⟩⟩
                · rw [if_neg c10] at H
                  exact absurd H (by simp)
              · rw [if_neg c9] at H
                exact absurd H (by simp)
            case rest =>
              clear HC8
              try clear c1
              try clear c2
              try clear p2
              try clear c3
              try clear p3
              try clear q3
              try clear hx3
              try clear c7
              try clear c7b0
              try clear c9
              try clear c9b0
              try clear c10
              try clear c10b0
              try clear c11
              try clear c11b0
              try clear c12
              try clear c12b0
              try clear hx360_0
              try clear hx360_1
              try clear hx360_2
              try clear hx360_3
              try clear hx360_4
              try clear hx360_5
              try clear hx360_6
              try clear hx360_7
              try clear hx360_8
              try clear hx360_9
              try clear hx361_0
              try clear hx361_1
              try clear hx361_2
              try clear hx361_3
              try clear hx361_4
              try clear hx361_5
              try clear hx361_6
              try clear hx361_7
              try clear hx361_8
              try clear hx361_9
              try clear hx362_0
              try clear hx362_1
              try clear hx362_2
              try clear hx362_3
              try clear hx362_4
              try clear hx362_5
              try clear hx362_6
              try clear hx362_7
              try clear hx362_8
              try clear hx362_9
              try clear p2
              try clear p360
              try clear p361
              try clear p362
              try clear q360
              try clear q361
              try clear q362
              obtain ⟨kq, x44_7, rfl, HA, HJ7, HO_9, HB⟩ := hcut
              cases kq with
              | zero => exact absurd HA.out (by simp [corebankref44_Items.j2])
              | succ kj7 =>
                have H := HA.out
                clear HA
                simp only [corebankref44_Items.j2] at H
                by_cases c13 : x44_7 = true
                · subst c13
                  have H1 : (if 0 ≤ x10_1 then (if x10_1 < (l0.length : Int) then (if 0 ≤ x11_2 then (if x11_2 < (((rd_T71 l0 x10_1).f8).length : Int) then (if ((rd_T73 ((rd_T71 l0 x10_1).f8) x11_2).f0) = a1 then (if x9_2.length < 4398046511104 then (corebankref44_Items.l1 kj7 l0 a1 a2 a3 (x9_2 ++ [(⟨(rd_T71 l0 x10_1).f6, (rd_T71 l0 x10_1).f2, wrap64 (-((rd_T73 ((rd_T71 l0 x10_1).f8) x11_2).f1))⟩ : S40)]) x10_1 (wrap64 (x11_2 + 1))) else (none)) else (corebankref44_Items.l1 kj7 l0 a1 a2 a3 x9_2 x10_1 (wrap64 (x11_2 + 1)))) else (none)) else (none)) else (none)) else (none)) = some r := by rw [if_pos rfl] at H; exact H
                  clear H
                  have H := H1
                  clear H1
                  by_cases c14 : 0 ≤ x10_1
                  · rw [if_pos c14] at H
                    have c14b0 : decide (0 ≤ x10_1) = true := decide_eq_true c14
                    clear c14
                    by_cases c15 : x10_1 < (l0.length : Int)
                    · rw [if_pos c15] at H
                      have c15b0 : decide (x10_1 < (l0.length : Int)) = true := decide_eq_true c15
                      clear c15
                      by_cases c16 : 0 ≤ x11_2
                      · rw [if_pos c16] at H
                        have c16b0 : decide (0 ≤ x11_2) = true := decide_eq_true c16
                        clear c16
                        by_cases c17 : x11_2 < (((rd_T71 l0 x10_1).f8).length : Int)
                        · rw [if_pos c17] at H
                          have c17b0 : decide (x11_2 < (((rd_T71 l0 x10_1).f8).length : Int)) = true := decide_eq_true c17
                          clear c17
                          by_cases c18 : ((rd_T73 ((rd_T71 l0 x10_1).f8) x11_2).f0) = a1
                          · rw [if_pos c18] at H
                            have c18b0 : (((rd_T73 ((rd_T71 l0 x10_1).f8) x11_2).f0) == a1) = true := beq_iff_eq.mpr c18
                            have c18b1 : (((rd_T73 ((rd_T71 l0 x10_1).f8) x11_2).f0) != a1) = false := bne_eq_false_iff_eq.mpr c18
                            clear c18
                            by_cases c19 : x9_2.length < 4398046511104
                            · rw [if_pos c19] at H
                              have LMc19 := Aside0.mk c19
                              clear c19
                              obtain ⟨y369, hy369⟩ : ∃ y_ : List (S40), y_ = (x9_2 ++ [(⟨(rd_T71 l0 x10_1).f6, (rd_T71 l0 x10_1).f2, wrap64 (-((rd_T73 ((rd_T71 l0 x10_1).f8) x11_2).f1))⟩ : S40)]) := ⟨_, rfl⟩
                              replace H : (corebankref44_Items.l1 kj7 l0 a1 a2 a3 y369 x10_1 (wrap64 (x11_2 + 1))) = some r := by first | (rw [hy369]; with_reducible exact H) | (have H2_ := (Option.bind_some _ _).symm.trans H; rw [hy369]; with_reducible exact H2_) | (have H2_ := (Option.bind_some _ _).symm.trans H; with_reducible exact H2_) | with_reducible exact H | (rw [hy369]; exact H) | exact H
                              have Ny369 := Aside0.mk hy369
                              clear hy369
                              have H' := Aside0.mk H
                              clear H
                              have p363 : 0 ≤ (x10_1 : Int) := of_decide_eq_true (by first | (with_reducible assumption) | assumption)
                              have q363 : x10_1 < (l0.length : Int) := of_decide_eq_true (by first | (with_reducible assumption) | assumption)
                              obtain ⟨ad363, A363_8, c363_8, e363, hx363_0, hx363_1, hx363_2, hx363_3, hx363_4, hx363_5, hx363_6, hx363_7, hx363_8, hx363_9, hl363_8, hi363_8⟩ := at_T71 HR0.out x10_1 p363 q363
                              cases e363
                              replace hx363_0 := (HB.out.cell (World.block_lt_of_cell? w _ hx363_0)).trans hx363_0
                              replace hx363_1 := (HB.out.cell (World.block_lt_of_cell? w _ hx363_1)).trans hx363_1
                              replace hx363_2 := (HB.out.cell (World.block_lt_of_cell? w _ hx363_2)).trans hx363_2
                              replace hx363_3 := (HB.out.cell (World.block_lt_of_cell? w _ hx363_3)).trans hx363_3
                              replace hx363_4 := (HB.out.cell (World.block_lt_of_cell? w _ hx363_4)).trans hx363_4
                              replace hx363_5 := (HB.out.cell (World.block_lt_of_cell? w _ hx363_5)).trans hx363_5
                              replace hx363_6 := (HB.out.cell (World.block_lt_of_cell? w _ hx363_6)).trans hx363_6
                              replace hx363_7 := (HB.out.cell (World.block_lt_of_cell? w _ hx363_7)).trans hx363_7
                              replace hx363_8 := (HB.out.cell (World.block_lt_of_cell? w _ hx363_8)).trans hx363_8
                              replace hx363_9 := (HB.out.cell (World.block_lt_of_cell? w _ hx363_9)).trans hx363_9
                              have HR363_8 := Aside0.mk hi363_8
                              have HC363_8 := Aside0.mk hl363_8
                              clear hi363_8 hl363_8
                              replace p363 := eq_true p363
                              replace q363 := eq_true q363
                              have p364 : 0 ≤ (x11_2 : Int) := of_decide_eq_true (by first | (with_reducible assumption) | assumption)
                              have q364 : x11_2 < (((rd_T71 l0 x10_1).f8).length : Int) := of_decide_eq_true (by first | (with_reducible assumption) | assumption)
                              obtain ⟨ad364, e364, hx364_0, hx364_1, hx364_2⟩ := at_T73 HR363_8.out x11_2 p364 q364
                              cases e364
                              replace hx364_0 := (HB.out.cell (World.block_lt_of_cell? w _ hx364_0)).trans hx364_0
                              replace hx364_1 := (HB.out.cell (World.block_lt_of_cell? w _ hx364_1)).trans hx364_1
                              replace hx364_2 := (HB.out.cell (World.block_lt_of_cell? w _ hx364_2)).trans hx364_2
                              replace p364 := eq_true p364
                              replace q364 := eq_true q364
                              try go_wp2
                              have n0_ := Aside0.mk (Kd.R_drew HO_9.out)
                              have n1_ := Aside0.mk (below_drew1 HB.out)
                              clear HO_9
                              clear HB
                              have HO_9 := n0_
                              have HB := n1_
                              clear n0_ n1_
                              have p365 : 0 ≤ (x10_1 : Int) := of_decide_eq_true (by first | (with_reducible assumption) | assumption)
                              have q365 : x10_1 < (l0.length : Int) := of_decide_eq_true (by first | (with_reducible assumption) | assumption)
                              obtain ⟨ad365, A365_8, c365_8, e365, hx365_0, hx365_1, hx365_2, hx365_3, hx365_4, hx365_5, hx365_6, hx365_7, hx365_8, hx365_9, hl365_8, hi365_8⟩ := at_T71 HR0.out x10_1 p365 q365
                              have hw365_9 := hx365_9
                              have hw365_8 := hx365_8
                              have hw365_7 := hx365_7
                              have hw365_6 := hx365_6
                              have hw365_5 := hx365_5
                              have hw365_4 := hx365_4
                              have hw365_3 := hx365_3
                              have hw365_2 := hx365_2
                              have hw365_1 := hx365_1
                              have hw365_0 := hx365_0
                              obtain rfl : ad363 = ad365 := (by injection e365)
                              replace hx365_0 := (HB.out.cell (World.block_lt_of_cell? w _ hx365_0)).trans hx365_0
                              replace hx365_1 := (HB.out.cell (World.block_lt_of_cell? w _ hx365_1)).trans hx365_1
                              replace hx365_2 := (HB.out.cell (World.block_lt_of_cell? w _ hx365_2)).trans hx365_2
                              replace hx365_3 := (HB.out.cell (World.block_lt_of_cell? w _ hx365_3)).trans hx365_3
                              replace hx365_4 := (HB.out.cell (World.block_lt_of_cell? w _ hx365_4)).trans hx365_4
                              replace hx365_5 := (HB.out.cell (World.block_lt_of_cell? w _ hx365_5)).trans hx365_5
                              replace hx365_6 := (HB.out.cell (World.block_lt_of_cell? w _ hx365_6)).trans hx365_6
                              replace hx365_7 := (HB.out.cell (World.block_lt_of_cell? w _ hx365_7)).trans hx365_7
                              replace hx365_8 := (HB.out.cell (World.block_lt_of_cell? w _ hx365_8)).trans hx365_8
                              replace hx365_9 := (HB.out.cell (World.block_lt_of_cell? w _ hx365_9)).trans hx365_9
                              have HR365_8 := Aside0.mk hi365_8
                              have HC365_8 := Aside0.mk hl365_8
                              clear hi365_8 hl365_8
                              replace p365 := eq_true p365
                              replace q365 := eq_true q365
                              have p366 : 0 ≤ (x10_1 : Int) := of_decide_eq_true (by first | (with_reducible assumption) | assumption)
                              have q366 : x10_1 < (l0.length : Int) := of_decide_eq_true (by first | (with_reducible assumption) | assumption)
                              obtain ⟨ad366, A366_8, c366_8, e366, hx366_0, hx366_1, hx366_2, hx366_3, hx366_4, hx366_5, hx366_6, hx366_7, hx366_8, hx366_9, hl366_8, hi366_8⟩ := at_T71 HR0.out x10_1 p366 q366
                              have hw366_9 := hx366_9
                              have hw366_8 := hx366_8
                              have hw366_7 := hx366_7
                              have hw366_6 := hx366_6
                              have hw366_5 := hx366_5
                              have hw366_4 := hx366_4
                              have hw366_3 := hx366_3
                              have hw366_2 := hx366_2
                              have hw366_1 := hx366_1
                              have hw366_0 := hx366_0
                              obtain rfl : ad363 = ad366 := (by injection e366)
                              replace hx366_0 := (HB.out.cell (World.block_lt_of_cell? w _ hx366_0)).trans hx366_0
                              replace hx366_1 := (HB.out.cell (World.block_lt_of_cell? w _ hx366_1)).trans hx366_1
                              replace hx366_2 := (HB.out.cell (World.block_lt_of_cell? w _ hx366_2)).trans hx366_2
                              replace hx366_3 := (HB.out.cell (World.block_lt_of_cell? w _ hx366_3)).trans hx366_3
                              replace hx366_4 := (HB.out.cell (World.block_lt_of_cell? w _ hx366_4)).trans hx366_4
                              replace hx366_5 := (HB.out.cell (World.block_lt_of_cell? w _ hx366_5)).trans hx366_5
                              replace hx366_6 := (HB.out.cell (World.block_lt_of_cell? w _ hx366_6)).trans hx366_6
                              replace hx366_7 := (HB.out.cell (World.block_lt_of_cell? w _ hx366_7)).trans hx366_7
                              replace hx366_8 := (HB.out.cell (World.block_lt_of_cell? w _ hx366_8)).trans hx366_8
                              replace hx366_9 := (HB.out.cell (World.block_lt_of_cell? w _ hx366_9)).trans hx366_9
                              have HR366_8 := Aside0.mk hi366_8
                              have HC366_8 := Aside0.mk hl366_8
                              clear hi366_8 hl366_8
                              replace p366 := eq_true p366
                              replace q366 := eq_true q366
                              have ea_ := Option.some.inj (hx365_8.symm.trans hx366_8)
                              injection ea_ with ea_ en_ ec_
                              subst ea_
                              subst ec_
                              clear en_
                              have p367 : 0 ≤ (x10_1 : Int) := of_decide_eq_true (by first | (with_reducible assumption) | assumption)
                              have q367 : x10_1 < (l0.length : Int) := of_decide_eq_true (by first | (with_reducible assumption) | assumption)
                              obtain ⟨ad367, A367_8, c367_8, e367, hx367_0, hx367_1, hx367_2, hx367_3, hx367_4, hx367_5, hx367_6, hx367_7, hx367_8, hx367_9, hl367_8, hi367_8⟩ := at_T71 HR0.out x10_1 p367 q367
                              have hw367_9 := hx367_9
                              have hw367_8 := hx367_8
                              have hw367_7 := hx367_7
                              have hw367_6 := hx367_6
                              have hw367_5 := hx367_5
                              have hw367_4 := hx367_4
                              have hw367_3 := hx367_3
                              have hw367_2 := hx367_2
                              have hw367_1 := hx367_1
                              have hw367_0 := hx367_0
                              obtain rfl : ad363 = ad367 := (by injection e367)
                              replace hx367_0 := (HB.out.cell (World.block_lt_of_cell? w _ hx367_0)).trans hx367_0
                              replace hx367_1 := (HB.out.cell (World.block_lt_of_cell? w _ hx367_1)).trans hx367_1
                              replace hx367_2 := (HB.out.cell (World.block_lt_of_cell? w _ hx367_2)).trans hx367_2
                              replace hx367_3 := (HB.out.cell (World.block_lt_of_cell? w _ hx367_3)).trans hx367_3
                              replace hx367_4 := (HB.out.cell (World.block_lt_of_cell? w _ hx367_4)).trans hx367_4
                              replace hx367_5 := (HB.out.cell (World.block_lt_of_cell? w _ hx367_5)).trans hx367_5
                              replace hx367_6 := (HB.out.cell (World.block_lt_of_cell? w _ hx367_6)).trans hx367_6
                              replace hx367_7 := (HB.out.cell (World.block_lt_of_cell? w _ hx367_7)).trans hx367_7
                              replace hx367_8 := (HB.out.cell (World.block_lt_of_cell? w _ hx367_8)).trans hx367_8
                              replace hx367_9 := (HB.out.cell (World.block_lt_of_cell? w _ hx367_9)).trans hx367_9
                              have HR367_8 := Aside0.mk hi367_8
                              have HC367_8 := Aside0.mk hl367_8
                              clear hi367_8 hl367_8
                              replace p367 := eq_true p367
                              replace q367 := eq_true q367
                              have ea_ := Option.some.inj (hx365_8.symm.trans hx367_8)
                              injection ea_ with ea_ en_ ec_
                              subst ea_
                              subst ec_
                              clear en_
                              have p368 : 0 ≤ (x11_2 : Int) := of_decide_eq_true (by first | (with_reducible assumption) | assumption)
                              have q368 : x11_2 < (((rd_T71 l0 x10_1).f8).length : Int) := of_decide_eq_true (by first | (with_reducible assumption) | assumption)
                              obtain ⟨ad368, e368, hx368_0, hx368_1, hx368_2⟩ := at_T73 HR367_8.out x11_2 p368 q368
                              have hw368_2 := hx368_2
                              have hw368_1 := hx368_1
                              have hw368_0 := hx368_0
                              cases e368
                              replace hx368_0 := (HB.out.cell (World.block_lt_of_cell? w _ hx368_0)).trans hx368_0
                              replace hx368_1 := (HB.out.cell (World.block_lt_of_cell? w _ hx368_1)).trans hx368_1
                              replace hx368_2 := (HB.out.cell (World.block_lt_of_cell? w _ hx368_2)).trans hx368_2
                              replace p368 := eq_true p368
                              replace q368 := eq_true q368
                              refine start_ (n := 25) (S := fun w' => w'.cell? (ad363.add ((x10_1).toNat * 10)) = some (.int .i64 ((rd_T71 l0 x10_1).f0)) ∧ w'.cell? ⟨(ad363.add ((x10_1).toNat * 10)).block, (ad363.add ((x10_1).toNat * 10)).off + 1, none⟩ = some (.int .i64 ((rd_T71 l0 x10_1).f1)) ∧ w'.cell? ⟨(ad363.add ((x10_1).toNat * 10)).block, (ad363.add ((x10_1).toNat * 10)).off + 2, none⟩ = some (.int .i64 ((rd_T71 l0 x10_1).f2)) ∧ w'.cell? ⟨(ad363.add ((x10_1).toNat * 10)).block, (ad363.add ((x10_1).toNat * 10)).off + 3, none⟩ = some (.int .i64 ((rd_T71 l0 x10_1).f3)) ∧ w'.cell? ⟨(ad363.add ((x10_1).toNat * 10)).block, (ad363.add ((x10_1).toNat * 10)).off + 4, none⟩ = some (.int .i64 ((rd_T71 l0 x10_1).f4)) ∧ w'.cell? ⟨(ad363.add ((x10_1).toNat * 10)).block, (ad363.add ((x10_1).toNat * 10)).off + 5, none⟩ = some (.int .i64 ((rd_T71 l0 x10_1).f5)) ∧ w'.cell? ⟨(ad363.add ((x10_1).toNat * 10)).block, (ad363.add ((x10_1).toNat * 10)).off + 6, none⟩ = some (.string ((rd_T71 l0 x10_1).f6)) ∧ w'.cell? ⟨(ad363.add ((x10_1).toNat * 10)).block, (ad363.add ((x10_1).toNat * 10)).off + 7, none⟩ = some (.string ((rd_T71 l0 x10_1).f7)) ∧ w'.cell? ⟨(ad363.add ((x10_1).toNat * 10)).block, (ad363.add ((x10_1).toNat * 10)).off + 8, none⟩ = some (.slice (some ad368) ((rd_T71 l0 x10_1).f8).length c365_8) ∧ w'.cell? ⟨(ad363.add ((x10_1).toNat * 10)).block, (ad363.add ((x10_1).toNat * 10)).off + 9, none⟩ = some (.int .u64 ((rd_T71 l0 x10_1).f9)) ∧ w'.cell? (ad363.add ((x10_1).toNat * 10)) = some (.int .i64 ((rd_T71 l0 x10_1).f0)) ∧ w'.cell? ⟨(ad363.add ((x10_1).toNat * 10)).block, (ad363.add ((x10_1).toNat * 10)).off + 1, none⟩ = some (.int .i64 ((rd_T71 l0 x10_1).f1)) ∧ w'.cell? ⟨(ad363.add ((x10_1).toNat * 10)).block, (ad363.add ((x10_1).toNat * 10)).off + 2, none⟩ = some (.int .i64 ((rd_T71 l0 x10_1).f2)) ∧ w'.cell? ⟨(ad363.add ((x10_1).toNat * 10)).block, (ad363.add ((x10_1).toNat * 10)).off + 3, none⟩ = some (.int .i64 ((rd_T71 l0 x10_1).f3)) ∧ w'.cell? ⟨(ad363.add ((x10_1).toNat * 10)).block, (ad363.add ((x10_1).toNat * 10)).off + 4, none⟩ = some (.int .i64 ((rd_T71 l0 x10_1).f4)) ∧ w'.cell? ⟨(ad363.add ((x10_1).toNat * 10)).block, (ad363.add ((x10_1).toNat * 10)).off + 5, none⟩ = some (.int .i64 ((rd_T71 l0 x10_1).f5)) ∧ w'.cell? ⟨(ad363.add ((x10_1).toNat * 10)).block, (ad363.add ((x10_1).toNat * 10)).off + 6, none⟩ = some (.string ((rd_T71 l0 x10_1).f6)) ∧ w'.cell? ⟨(ad363.add ((x10_1).toNat * 10)).block, (ad363.add ((x10_1).toNat * 10)).off + 7, none⟩ = some (.string ((rd_T71 l0 x10_1).f7)) ∧ w'.cell? ⟨(ad363.add ((x10_1).toNat * 10)).block, (ad363.add ((x10_1).toNat * 10)).off + 8, none⟩ = some (.slice (some ad368) ((rd_T71 l0 x10_1).f8).length c365_8) ∧ w'.cell? ⟨(ad363.add ((x10_1).toNat * 10)).block, (ad363.add ((x10_1).toNat * 10)).off + 9, none⟩ = some (.int .u64 ((rd_T71 l0 x10_1).f9)) ∧ w'.cell? (ad363.add ((x10_1).toNat * 10)) = some (.int .i64 ((rd_T71 l0 x10_1).f0)) ∧ w'.cell? ⟨(ad363.add ((x10_1).toNat * 10)).block, (ad363.add ((x10_1).toNat * 10)).off + 1, none⟩ = some (.int .i64 ((rd_T71 l0 x10_1).f1)) ∧ w'.cell? ⟨(ad363.add ((x10_1).toNat * 10)).block, (ad363.add ((x10_1).toNat * 10)).off + 2, none⟩ = some (.int .i64 ((rd_T71 l0 x10_1).f2)) ∧ w'.cell? ⟨(ad363.add ((x10_1).toNat * 10)).block, (ad363.add ((x10_1).toNat * 10)).off + 3, none⟩ = some (.int .i64 ((rd_T71 l0 x10_1).f3)) ∧ w'.cell? ⟨(ad363.add ((x10_1).toNat * 10)).block, (ad363.add ((x10_1).toNat * 10)).off + 4, none⟩ = some (.int .i64 ((rd_T71 l0 x10_1).f4)) ∧ w'.cell? ⟨(ad363.add ((x10_1).toNat * 10)).block, (ad363.add ((x10_1).toNat * 10)).off + 5, none⟩ = some (.int .i64 ((rd_T71 l0 x10_1).f5)) ∧ w'.cell? ⟨(ad363.add ((x10_1).toNat * 10)).block, (ad363.add ((x10_1).toNat * 10)).off + 6, none⟩ = some (.string ((rd_T71 l0 x10_1).f6)) ∧ w'.cell? ⟨(ad363.add ((x10_1).toNat * 10)).block, (ad363.add ((x10_1).toNat * 10)).off + 7, none⟩ = some (.string ((rd_T71 l0 x10_1).f7)) ∧ w'.cell? ⟨(ad363.add ((x10_1).toNat * 10)).block, (ad363.add ((x10_1).toNat * 10)).off + 8, none⟩ = some (.slice (some ad368) ((rd_T71 l0 x10_1).f8).length c365_8) ∧ w'.cell? ⟨(ad363.add ((x10_1).toNat * 10)).block, (ad363.add ((x10_1).toNat * 10)).off + 9, none⟩ = some (.int .u64 ((rd_T71 l0 x10_1).f9)) ∧ w'.cell? (ad368.add ((x11_2).toNat * 3)) = some (.int .i64 ((rd_T73 ((rd_T71 l0 x10_1).f8) x11_2).f0)) ∧ w'.cell? ⟨(ad368.add ((x11_2).toNat * 3)).block, (ad368.add ((x11_2).toNat * 3)).off + 1, none⟩ = some (.int .i64 ((rd_T73 ((rd_T71 l0 x10_1).f8) x11_2).f1)) ∧ w'.cell? ⟨(ad368.add ((x11_2).toNat * 3)).block, (ad368.add ((x11_2).toNat * 3)).off + 2, none⟩ = some (.string ((rd_T73 ((rd_T71 l0 x10_1).f8) x11_2).f2))) (ds := []) #[false, false, false, false, false, false, false, false, false, false, false, false, false, false, false, false, false, false, false, false, false, false, false, false, false] (by kernel_rfl) rfl rfl ⟨((HB.out.cell (World.block_lt_of_cell? w _ hw365_0)).trans hw365_0), ((HB.out.cell (World.block_lt_of_cell? w _ hw365_1)).trans hw365_1), ((HB.out.cell (World.block_lt_of_cell? w _ hw365_2)).trans hw365_2), ((HB.out.cell (World.block_lt_of_cell? w _ hw365_3)).trans hw365_3), ((HB.out.cell (World.block_lt_of_cell? w _ hw365_4)).trans hw365_4), ((HB.out.cell (World.block_lt_of_cell? w _ hw365_5)).trans hw365_5), ((HB.out.cell (World.block_lt_of_cell? w _ hw365_6)).trans hw365_6), ((HB.out.cell (World.block_lt_of_cell? w _ hw365_7)).trans hw365_7), ((HB.out.cell (World.block_lt_of_cell? w _ hw365_8)).trans hw365_8), ((HB.out.cell (World.block_lt_of_cell? w _ hw365_9)).trans hw365_9), ((HB.out.cell (World.block_lt_of_cell? w _ hw366_0)).trans hw366_0), ((HB.out.cell (World.block_lt_of_cell? w _ hw366_1)).trans hw366_1), ((HB.out.cell (World.block_lt_of_cell? w _ hw366_2)).trans hw366_2), ((HB.out.cell (World.block_lt_of_cell? w _ hw366_3)).trans hw366_3), ((HB.out.cell (World.block_lt_of_cell? w _ hw366_4)).trans hw366_4), ((HB.out.cell (World.block_lt_of_cell? w _ hw366_5)).trans hw366_5), ((HB.out.cell (World.block_lt_of_cell? w _ hw366_6)).trans hw366_6), ((HB.out.cell (World.block_lt_of_cell? w _ hw366_7)).trans hw366_7), ((HB.out.cell (World.block_lt_of_cell? w _ hw366_8)).trans hw366_8), ((HB.out.cell (World.block_lt_of_cell? w _ hw366_9)).trans hw366_9), ((HB.out.cell (World.block_lt_of_cell? w _ hw367_0)).trans hw367_0), ((HB.out.cell (World.block_lt_of_cell? w _ hw367_1)).trans hw367_1), ((HB.out.cell (World.block_lt_of_cell? w _ hw367_2)).trans hw367_2), ((HB.out.cell (World.block_lt_of_cell? w _ hw367_3)).trans hw367_3), ((HB.out.cell (World.block_lt_of_cell? w _ hw367_4)).trans hw367_4), ((HB.out.cell (World.block_lt_of_cell? w _ hw367_5)).trans hw367_5), ((HB.out.cell (World.block_lt_of_cell? w _ hw367_6)).trans hw367_6), ((HB.out.cell (World.block_lt_of_cell? w _ hw367_7)).trans hw367_7), ((HB.out.cell (World.block_lt_of_cell? w _ hw367_8)).trans hw367_8), ((HB.out.cell (World.block_lt_of_cell? w _ hw367_9)).trans hw367_9), ((HB.out.cell (World.block_lt_of_cell? w _ hw368_0)).trans hw368_0), ((HB.out.cell (World.block_lt_of_cell? w _ hw368_1)).trans hw368_1), ((HB.out.cell (World.block_lt_of_cell? w _ hw368_2)).trans hw368_2)⟩ (fun hHeld => ?_); refine with_tabW corebankref44_Items.tab9 corebankref44_Items.bits9 (fun HT_ HW_ => ?_)
                              generalize wc.drew = w20 at HO_9 HB HR365_8 HR366_8 HR367_8 hx365_0 hx365_1 hx365_2 hx365_3 hx365_4 hx365_5 hx365_6 hx365_7 hx365_8 hx365_9 hx366_0 hx366_1 hx366_2 hx366_3 hx366_4 hx366_5 hx366_6 hx366_7 hx366_8 hx366_9 hx367_0 hx367_1 hx367_2 hx367_3 hx367_4 hx367_5 hx367_6 hx367_7 hx367_8 hx367_9 hx368_0 hx368_1 hx368_2 hHeld ⊢
                              refine pure_ (i := 0) (N := some 58) (v := ?_) (a' := ?_) #[true, false, false, false, false, false, false, false, false, false, false, false, false, false, false, false, false, false, false, false, false, false, false, false, false] rfl rfl (any_of HT_.out (by kernel_rfl)) (fun _ _ _ h => h) (Or.inl ⟨by rfl, ?_⟩) ?_ ?_
                              rotate_left
                              · intro w'
                                go_simp
                                with_reducible rfl
                              rotate_left
                              · simp only [Act.put, List.setIfInBounds_toArray, List.set_cons_zero, List.set_cons_succ, i64_w, i32_w]
                                rfl
                              refine pure_ (i := 1) (N := some 59) (v := ?_) (a' := ?_) #[true, true, false, false, false, false, false, false, false, false, false, false, false, false, false, false, false, false, false, false, false, false, false, false, false] rfl rfl (any_of HT_.out (by kernel_rfl)) (fun _ _ _ h => h) (Or.inl ⟨by rfl, ?_⟩) ?_ ?_
                              rotate_left
                              · intro w'
                                go_simp
                                with_reducible rfl
                              rotate_left
                              · simp only [Act.put, List.setIfInBounds_toArray, List.set_cons_zero, List.set_cons_succ, i64_w, i32_w]
                                rfl
                              refine pure_ (i := 2) (N := some 60) (v := ?_) (a' := ?_) #[true, true, true, false, false, false, false, false, false, false, false, false, false, false, false, false, false, false, false, false, false, false, false, false, false] rfl rfl (any_of HT_.out (by kernel_rfl)) (fun _ _ _ h => h) (Or.inl ⟨by rfl, ?_⟩) ?_ ?_
                              rotate_left
                              · intro w'
                                go_simp
                                with_reducible rfl
                              rotate_left
                              · simp only [Act.put, List.setIfInBounds_toArray, List.set_cons_zero, List.set_cons_succ, i64_w, i32_w]
                                rfl
                              refine pure_ (i := 3) (N := some 61) (v := ?_) (a' := ?_) #[true, true, true, true, false, false, false, false, false, false, false, false, false, false, false, false, false, false, false, false, false, false, false, false, false] rfl rfl (any_of HT_.out (by kernel_rfl)) (fun _ _ _ h => h) (Or.inl ⟨by rfl, ?_⟩) ?_ ?_
                              rotate_left
                              · intro w'
                                go_simp
                                with_reducible rfl
                              rotate_left
                              · simp only [Act.put, List.setIfInBounds_toArray, List.set_cons_zero, List.set_cons_succ, i64_w, i32_w]
                                rfl
                              refine pure_ (i := 4) (N := some 62) (v := ?_) (a' := ?_) #[true, true, true, true, true, false, false, false, false, false, false, false, false, false, false, false, false, false, false, false, false, false, false, false, false] rfl rfl (any_of HT_.out (by kernel_rfl)) (fun _ _ _ h => h) (Or.inl ⟨by rfl, ?_⟩) ?_ ?_
                              rotate_left
                              · intro w'
                                go_simp
                                with_reducible rfl
                              rotate_left
                              · simp only [Act.put, List.setIfInBounds_toArray, List.set_cons_zero, List.set_cons_succ, i64_w, i32_w]
                                rfl
                              refine pure_ (i := 6) (N := some 64) (v := ?_) (a' := ?_) #[true, true, true, true, true, false, true, false, false, false, false, false, false, false, false, false, false, false, false, false, false, false, false, false, false] rfl rfl (any_of HT_.out (by kernel_rfl)) (fun _ _ _ h => h) (Or.inl ⟨by rfl, ?_⟩) ?_ ?_
                              rotate_left
                              · intro w'
                                go_simp
                                with_reducible rfl
                              rotate_left
                              · simp only [Act.put, List.setIfInBounds_toArray, List.set_cons_zero, List.set_cons_succ, i64_w, i32_w]
                                rfl
                              refine pure_ (i := 7) (N := some 65) (v := ?_) (a' := ?_) #[true, true, true, true, true, false, true, true, false, false, false, false, false, false, false, false, false, false, false, false, false, false, false, false, false] rfl rfl (any_of HT_.out (by kernel_rfl)) (fun _ _ _ h => h) (Or.inl ⟨by rfl, ?_⟩) ?_ ?_
                              rotate_left
                              · intro w'
                                go_simp
                                with_reducible rfl
                              rotate_left
                              · simp only [Act.put, List.setIfInBounds_toArray, List.set_cons_zero, List.set_cons_succ, i64_w, i32_w]
                                rfl
                              refine pure_ (i := 8) (N := some 66) (v := ?_) (a' := ?_) #[true, true, true, true, true, false, true, true, true, false, false, false, false, false, false, false, false, false, false, false, false, false, false, false, false] rfl rfl (any_of HT_.out (by kernel_rfl)) (fun _ _ _ h => h) (Or.inl ⟨by rfl, ?_⟩) ?_ ?_
                              rotate_left
                              · intro w'
                                go_simp
                                with_reducible rfl
                              rotate_left
                              · simp only [Act.put, List.setIfInBounds_toArray, List.set_cons_zero, List.set_cons_succ, i64_w, i32_w]
                                rfl
                              refine pure_ (i := 9) (N := some 67) (v := ?_) (a' := ?_) #[true, true, true, true, true, false, true, true, true, true, false, false, false, false, false, false, false, false, false, false, false, false, false, false, false] rfl rfl (any_of HT_.out (by kernel_rfl)) (fun _ _ _ h => h) (Or.inl ⟨by rfl, ?_⟩) ?_ ?_
                              rotate_left
                              · intro w'
                                go_simp
                                with_reducible rfl
                              rotate_left
                              · simp only [Act.put, List.setIfInBounds_toArray, List.set_cons_zero, List.set_cons_succ, i64_w, i32_w]
                                rfl
                              refine pure_ (i := 11) (N := some 69) (v := ?_) (a' := ?_) #[true, true, true, true, true, false, true, true, true, true, false, true, false, false, false, false, false, false, false, false, false, false, false, false, false] rfl rfl (any_of HT_.out (by kernel_rfl)) (fun _ _ _ h => h) (Or.inl ⟨by rfl, ?_⟩) ?_ ?_
                              rotate_left
                              · intro w'
                                go_simp
                                with_reducible rfl
                              rotate_left
                              · simp only [Act.put, List.setIfInBounds_toArray, List.set_cons_zero, List.set_cons_succ, i64_w, i32_w]
                                rfl
                              refine pure_ (i := 12) (N := some 70) (v := ?_) (a' := ?_) #[true, true, true, true, true, false, true, true, true, true, false, true, true, false, false, false, false, false, false, false, false, false, false, false, false] rfl rfl (any_of HT_.out (by kernel_rfl)) (fun _ _ _ h => h) (Or.inl ⟨by rfl, ?_⟩) ?_ ?_
                              rotate_left
                              · intro w'
                                go_simp
                                with_reducible rfl
                              rotate_left
                              · simp only [Act.put, List.setIfInBounds_toArray, List.set_cons_zero, List.set_cons_succ, i64_w, i32_w]
                                rfl
                              refine pure_ (i := 13) (N := some 71) (v := ?_) (a' := ?_) #[true, true, true, true, true, false, true, true, true, true, false, true, true, true, false, false, false, false, false, false, false, false, false, false, false] rfl rfl (any_of HT_.out (by kernel_rfl)) (fun _ _ _ h => h) (Or.inl ⟨by rfl, ?_⟩) ?_ ?_
                              rotate_left
                              · intro w'
                                go_simp
                                with_reducible rfl
                              rotate_left
                              · simp only [Act.put, List.setIfInBounds_toArray, List.set_cons_zero, List.set_cons_succ, i64_w, i32_w]
                                rfl
                              refine pure_ (i := 14) (N := some 72) (v := ?_) (a' := ?_) #[true, true, true, true, true, false, true, true, true, true, false, true, true, true, true, false, false, false, false, false, false, false, false, false, false] rfl rfl (any_of HT_.out (by kernel_rfl)) (fun _ _ _ h => h) (Or.inl ⟨by rfl, ?_⟩) ?_ ?_
                              rotate_left
                              · intro w'
                                go_simp
                                with_reducible rfl
                              rotate_left
                              · simp only [Act.put, List.setIfInBounds_toArray, List.set_cons_zero, List.set_cons_succ, i64_w, i32_w]
                                rfl
                              refine pure_ (i := 16) (N := some 74) (v := ?_) (a' := ?_) #[true, true, true, true, true, false, true, true, true, true, false, true, true, true, true, false, true, false, false, false, false, false, false, false, false] rfl rfl (any_of HT_.out (by kernel_rfl)) (fun _ _ _ h => h) (Or.inl ⟨by rfl, ?_⟩) ?_ ?_
                              rotate_left
                              · intro w'
                                go_simp
                                with_reducible rfl
                              rotate_left
                              · simp only [Act.put, List.setIfInBounds_toArray, List.set_cons_zero, List.set_cons_succ, i64_w, i32_w]
                                rfl
                              refine take_ (i := 5) (N := some 63) (v := ?_) (a' := ?_) #[true, true, true, true, true, true, true, true, true, true, false, true, true, true, true, false, true, false, false, false, false, false, false, false, false] rfl rfl (take_ofW HT_.out HW_.out (by kernel_rfl)) (fun _ _ _ h => h) (Or.inl ⟨by rfl, ?_⟩) hHeld ?_ ?_
                              rotate_left
                              · rintro w' ⟨s0, s1, s2, s3, s4, s5, s6, s7, s8, s9, s10, s11, s12, s13, s14, s15, s16, s17, s18, s19, s20, s21, s22, s23, s24, s25, s26, s27, s28, s29, s30, s31, s32⟩
                                go_simp
                                with_reducible rfl
                              rotate_left
                              · simp only [Act.put, List.setIfInBounds_toArray, List.set_cons_zero, List.set_cons_succ, i64_w, i32_w]
                                rfl
                              refine take_ (i := 10) (N := some 68) (v := ?_) (a' := ?_) #[true, true, true, true, true, true, true, true, true, true, true, true, true, true, true, false, true, false, false, false, false, false, false, false, false] rfl rfl (take_ofW HT_.out HW_.out (by kernel_rfl)) (fun _ _ _ h => h) (Or.inl ⟨by rfl, ?_⟩) hHeld ?_ ?_
                              rotate_left
                              · rintro w' ⟨s0, s1, s2, s3, s4, s5, s6, s7, s8, s9, s10, s11, s12, s13, s14, s15, s16, s17, s18, s19, s20, s21, s22, s23, s24, s25, s26, s27, s28, s29, s30, s31, s32⟩
                                go_simp
                                with_reducible rfl
                              rotate_left
                              · simp only [Act.put, List.setIfInBounds_toArray, List.set_cons_zero, List.set_cons_succ, i64_w, i32_w]
                                rfl
                              refine take_ (i := 15) (N := some 73) (v := ?_) (a' := ?_) #[true, true, true, true, true, true, true, true, true, true, true, true, true, true, true, true, true, false, false, false, false, false, false, false, false] rfl rfl (take_ofW HT_.out HW_.out (by kernel_rfl)) (fun _ _ _ h => h) (Or.inl ⟨by rfl, ?_⟩) hHeld ?_ ?_
                              rotate_left
                              · rintro w' ⟨s0, s1, s2, s3, s4, s5, s6, s7, s8, s9, s10, s11, s12, s13, s14, s15, s16, s17, s18, s19, s20, s21, s22, s23, s24, s25, s26, s27, s28, s29, s30, s31, s32⟩
                                go_simp
                                with_reducible rfl
                              rotate_left
                              · simp only [Act.put, List.setIfInBounds_toArray, List.set_cons_zero, List.set_cons_succ, i64_w, i32_w]
                                rfl
                              refine pure_ (i := 17) (N := some 75) (v := ?_) (a' := ?_) #[true, true, true, true, true, true, true, true, true, true, true, true, true, true, true, true, true, true, false, false, false, false, false, false, false] rfl rfl (any_of HT_.out (by kernel_rfl)) (fun _ _ _ h => h) (Or.inl ⟨by rfl, ?_⟩) ?_ ?_
                              rotate_left
                              · intro w'
                                go_simp
                                with_reducible rfl
                              rotate_left
                              · simp only [Act.put, List.setIfInBounds_toArray, List.set_cons_zero, List.set_cons_succ, i64_w, i32_w]
                                rfl
                              refine pure_ (i := 18) (N := some 76) (v := ?_) (a' := ?_) #[true, true, true, true, true, true, true, true, true, true, true, true, true, true, true, true, true, true, true, false, false, false, false, false, false] rfl rfl (any_of HT_.out (by kernel_rfl)) (fun _ _ _ h => h) (Or.inl ⟨by rfl, ?_⟩) ?_ ?_
                              rotate_left
                              · intro w'
                                go_simp
                                with_reducible rfl
                              rotate_left
                              · simp only [Act.put, List.setIfInBounds_toArray, List.set_cons_zero, List.set_cons_succ, i64_w, i32_w]
                                rfl
                              refine take_ (i := 19) (N := some 77) (v := ?_) (a' := ?_) #[true, true, true, true, true, true, true, true, true, true, true, true, true, true, true, true, true, true, true, true, false, false, false, false, false] rfl rfl (take_ofW HT_.out HW_.out (by kernel_rfl)) (fun _ _ _ h => h) (Or.inl ⟨by rfl, ?_⟩) hHeld ?_ ?_
                              rotate_left
                              · rintro w' ⟨s0, s1, s2, s3, s4, s5, s6, s7, s8, s9, s10, s11, s12, s13, s14, s15, s16, s17, s18, s19, s20, s21, s22, s23, s24, s25, s26, s27, s28, s29, s30, s31, s32⟩
                                go_simp
                                with_reducible rfl
                              rotate_left
                              · simp only [Act.put, List.setIfInBounds_toArray, List.set_cons_zero, List.set_cons_succ, i64_w, i32_w]
                                rfl
                              refine pure_ (i := 20) (N := some 78) (v := ?_) (a' := ?_) #[true, true, true, true, true, true, true, true, true, true, true, true, true, true, true, true, true, true, true, true, true, false, false, false, false] rfl rfl (any_of HT_.out (by kernel_rfl)) (fun _ _ _ h => h) (Or.inl ⟨by rfl, ?_⟩) ?_ ?_
                              rotate_left
                              · intro w'
                                go_simp
                                with_reducible rfl
                              rotate_left
                              · simp only [Act.put, List.setIfInBounds_toArray, List.set_cons_zero, List.set_cons_succ, i64_w, i32_w]
                                rfl
                              refine pure_ (i := 21) (N := some 79) (v := ?_) (a' := ?_) #[true, true, true, true, true, true, true, true, true, true, true, true, true, true, true, true, true, true, true, true, true, true, false, false, false] rfl rfl (any_of HT_.out (by kernel_rfl)) (fun _ _ _ h => h) (Or.inl ⟨by rfl, ?_⟩) ?_ ?_
                              rotate_left
                              · intro w'
                                go_simp
                                with_reducible rfl
                              rotate_left
                              · simp only [Act.put, List.setIfInBounds_toArray, List.set_cons_zero, List.set_cons_succ, i64_w, i32_w]
                                rfl
                              refine one_ (i := 22) (N := some 80) #[true, true, true, true, true, true, true, true, true, true, true, true, true, true, true, true, true, true, true, true, true, true, true, false, false] rfl rfl (one_of HT_.out (by kernel_rfl)) (by decide) (fun K hK => ?_)
                              refine value_ (w1 := ?_) (v := ?_) (by rfl) rfl ?_ ?_
                              rotate_left 2
                              · go_simp
                                constructor
                                · rfl
                                · rfl
                              refine hK.out _ _ ⟨(World.cell?_alloc_lt _ _ _ (World.block_lt_of_cell? _ _ (((HB.out.cell (World.block_lt_of_cell? w _ hw365_0)).trans hw365_0)))).trans (((HB.out.cell (World.block_lt_of_cell? w _ hw365_0)).trans hw365_0)), (World.cell?_alloc_lt _ _ _ (World.block_lt_of_cell? _ _ (((HB.out.cell (World.block_lt_of_cell? w _ hw365_1)).trans hw365_1)))).trans (((HB.out.cell (World.block_lt_of_cell? w _ hw365_1)).trans hw365_1)), (World.cell?_alloc_lt _ _ _ (World.block_lt_of_cell? _ _ (((HB.out.cell (World.block_lt_of_cell? w _ hw365_2)).trans hw365_2)))).trans (((HB.out.cell (World.block_lt_of_cell? w _ hw365_2)).trans hw365_2)), (World.cell?_alloc_lt _ _ _ (World.block_lt_of_cell? _ _ (((HB.out.cell (World.block_lt_of_cell? w _ hw365_3)).trans hw365_3)))).trans (((HB.out.cell (World.block_lt_of_cell? w _ hw365_3)).trans hw365_3)), (World.cell?_alloc_lt _ _ _ (World.block_lt_of_cell? _ _ (((HB.out.cell (World.block_lt_of_cell? w _ hw365_4)).trans hw365_4)))).trans (((HB.out.cell (World.block_lt_of_cell? w _ hw365_4)).trans hw365_4)), (World.cell?_alloc_lt _ _ _ (World.block_lt_of_cell? _ _ (((HB.out.cell (World.block_lt_of_cell? w _ hw365_5)).trans hw365_5)))).trans (((HB.out.cell (World.block_lt_of_cell? w _ hw365_5)).trans hw365_5)), (World.cell?_alloc_lt _ _ _ (World.block_lt_of_cell? _ _ (((HB.out.cell (World.block_lt_of_cell? w _ hw365_6)).trans hw365_6)))).trans (((HB.out.cell (World.block_lt_of_cell? w _ hw365_6)).trans hw365_6)), (World.cell?_alloc_lt _ _ _ (World.block_lt_of_cell? _ _ (((HB.out.cell (World.block_lt_of_cell? w _ hw365_7)).trans hw365_7)))).trans (((HB.out.cell (World.block_lt_of_cell? w _ hw365_7)).trans hw365_7)), (World.cell?_alloc_lt _ _ _ (World.block_lt_of_cell? _ _ (((HB.out.cell (World.block_lt_of_cell? w _ hw365_8)).trans hw365_8)))).trans (((HB.out.cell (World.block_lt_of_cell? w _ hw365_8)).trans hw365_8)), (World.cell?_alloc_lt _ _ _ (World.block_lt_of_cell? _ _ (((HB.out.cell (World.block_lt_of_cell? w _ hw365_9)).trans hw365_9)))).trans (((HB.out.cell (World.block_lt_of_cell? w _ hw365_9)).trans hw365_9)), (World.cell?_alloc_lt _ _ _ (World.block_lt_of_cell? _ _ (((HB.out.cell (World.block_lt_of_cell? w _ hw366_0)).trans hw366_0)))).trans (((HB.out.cell (World.block_lt_of_cell? w _ hw366_0)).trans hw366_0)), (World.cell?_alloc_lt _ _ _ (World.block_lt_of_cell? _ _ (((HB.out.cell (World.block_lt_of_cell? w _ hw366_1)).trans hw366_1)))).trans (((HB.out.cell (World.block_lt_of_cell? w _ hw366_1)).trans hw366_1)), (World.cell?_alloc_lt _ _ _ (World.block_lt_of_cell? _ _ (((HB.out.cell (World.block_lt_of_cell? w _ hw366_2)).trans hw366_2)))).trans (((HB.out.cell (World.block_lt_of_cell? w _ hw366_2)).trans hw366_2)), (World.cell?_alloc_lt _ _ _ (World.block_lt_of_cell? _ _ (((HB.out.cell (World.block_lt_of_cell? w _ hw366_3)).trans hw366_3)))).trans (((HB.out.cell (World.block_lt_of_cell? w _ hw366_3)).trans hw366_3)), (World.cell?_alloc_lt _ _ _ (World.block_lt_of_cell? _ _ (((HB.out.cell (World.block_lt_of_cell? w _ hw366_4)).trans hw366_4)))).trans (((HB.out.cell (World.block_lt_of_cell? w _ hw366_4)).trans hw366_4)), (World.cell?_alloc_lt _ _ _ (World.block_lt_of_cell? _ _ (((HB.out.cell (World.block_lt_of_cell? w _ hw366_5)).trans hw366_5)))).trans (((HB.out.cell (World.block_lt_of_cell? w _ hw366_5)).trans hw366_5)), (World.cell?_alloc_lt _ _ _ (World.block_lt_of_cell? _ _ (((HB.out.cell (World.block_lt_of_cell? w _ hw366_6)).trans hw366_6)))).trans (((HB.out.cell (World.block_lt_of_cell? w _ hw366_6)).trans hw366_6)), (World.cell?_alloc_lt _ _ _ (World.block_lt_of_cell? _ _ (((HB.out.cell (World.block_lt_of_cell? w _ hw366_7)).trans hw366_7)))).trans (((HB.out.cell (World.block_lt_of_cell? w _ hw366_7)).trans hw366_7)), (World.cell?_alloc_lt _ _ _ (World.block_lt_of_cell? _ _ (((HB.out.cell (World.block_lt_of_cell? w _ hw366_8)).trans hw366_8)))).trans (((HB.out.cell (World.block_lt_of_cell? w _ hw366_8)).trans hw366_8)), (World.cell?_alloc_lt _ _ _ (World.block_lt_of_cell? _ _ (((HB.out.cell (World.block_lt_of_cell? w _ hw366_9)).trans hw366_9)))).trans (((HB.out.cell (World.block_lt_of_cell? w _ hw366_9)).trans hw366_9)), (World.cell?_alloc_lt _ _ _ (World.block_lt_of_cell? _ _ (((HB.out.cell (World.block_lt_of_cell? w _ hw367_0)).trans hw367_0)))).trans (((HB.out.cell (World.block_lt_of_cell? w _ hw367_0)).trans hw367_0)), (World.cell?_alloc_lt _ _ _ (World.block_lt_of_cell? _ _ (((HB.out.cell (World.block_lt_of_cell? w _ hw367_1)).trans hw367_1)))).trans (((HB.out.cell (World.block_lt_of_cell? w _ hw367_1)).trans hw367_1)), (World.cell?_alloc_lt _ _ _ (World.block_lt_of_cell? _ _ (((HB.out.cell (World.block_lt_of_cell? w _ hw367_2)).trans hw367_2)))).trans (((HB.out.cell (World.block_lt_of_cell? w _ hw367_2)).trans hw367_2)), (World.cell?_alloc_lt _ _ _ (World.block_lt_of_cell? _ _ (((HB.out.cell (World.block_lt_of_cell? w _ hw367_3)).trans hw367_3)))).trans (((HB.out.cell (World.block_lt_of_cell? w _ hw367_3)).trans hw367_3)), (World.cell?_alloc_lt _ _ _ (World.block_lt_of_cell? _ _ (((HB.out.cell (World.block_lt_of_cell? w _ hw367_4)).trans hw367_4)))).trans (((HB.out.cell (World.block_lt_of_cell? w _ hw367_4)).trans hw367_4)), (World.cell?_alloc_lt _ _ _ (World.block_lt_of_cell? _ _ (((HB.out.cell (World.block_lt_of_cell? w _ hw367_5)).trans hw367_5)))).trans (((HB.out.cell (World.block_lt_of_cell? w _ hw367_5)).trans hw367_5)), (World.cell?_alloc_lt _ _ _ (World.block_lt_of_cell? _ _ (((HB.out.cell (World.block_lt_of_cell? w _ hw367_6)).trans hw367_6)))).trans (((HB.out.cell (World.block_lt_of_cell? w _ hw367_6)).trans hw367_6)), (World.cell?_alloc_lt _ _ _ (World.block_lt_of_cell? _ _ (((HB.out.cell (World.block_lt_of_cell? w _ hw367_7)).trans hw367_7)))).trans (((HB.out.cell (World.block_lt_of_cell? w _ hw367_7)).trans hw367_7)), (World.cell?_alloc_lt _ _ _ (World.block_lt_of_cell? _ _ (((HB.out.cell (World.block_lt_of_cell? w _ hw367_8)).trans hw367_8)))).trans (((HB.out.cell (World.block_lt_of_cell? w _ hw367_8)).trans hw367_8)), (World.cell?_alloc_lt _ _ _ (World.block_lt_of_cell? _ _ (((HB.out.cell (World.block_lt_of_cell? w _ hw367_9)).trans hw367_9)))).trans (((HB.out.cell (World.block_lt_of_cell? w _ hw367_9)).trans hw367_9)), (World.cell?_alloc_lt _ _ _ (World.block_lt_of_cell? _ _ (((HB.out.cell (World.block_lt_of_cell? w _ hw368_0)).trans hw368_0)))).trans (((HB.out.cell (World.block_lt_of_cell? w _ hw368_0)).trans hw368_0)), (World.cell?_alloc_lt _ _ _ (World.block_lt_of_cell? _ _ (((HB.out.cell (World.block_lt_of_cell? w _ hw368_1)).trans hw368_1)))).trans (((HB.out.cell (World.block_lt_of_cell? w _ hw368_1)).trans hw368_1)), (World.cell?_alloc_lt _ _ _ (World.block_lt_of_cell? _ _ (((HB.out.cell (World.block_lt_of_cell? w _ hw368_2)).trans hw368_2)))).trans (((HB.out.cell (World.block_lt_of_cell? w _ hw368_2)).trans hw368_2))⟩ (fun hHeld => ?_)
                              clear hK K
                              refine norm_ (a' := ?_) ?_ ?_
                              rotate_left
                              · show Act.put _ (some 80) _ = _
                                simp only [Act.put, List.setIfInBounds_toArray, List.set_cons_zero, List.set_cons_succ, i64_w, i32_w]
                                rfl
                              refine one_ (i := 23) (N := some 81) #[true, true, true, true, true, true, true, true, true, true, true, true, true, true, true, true, true, true, true, true, true, true, true, true, false] rfl rfl (one_of HT_.out (by kernel_rfl)) (by decide) (fun K hK => ?_)
                              refine Kd.R_append_step k40 (w0 := w) w.heap.size (by rfl) (.tmp 58) (.tmp 80) 22 40 (.agg #[(.string ⟨#[]⟩), (.int .i64 0), (.int .i64 0)]) 32 rfl Try.underlying22 info40 rfl (by decide) (by omega) u9 x9_2 (⟨(rd_T71 l0 x10_1).f6, (rd_T71 l0 x10_1).f2, wrap64 (-((rd_T73 ((rd_T71 l0 x10_1).f8) x11_2).f1))⟩ : S40) [.string ((rd_T71 l0 x10_1).f6), .int .i64 ((rd_T71 l0 x10_1).f2), .int .i64 (wrap64 (-((rd_T73 ((rd_T71 l0 x10_1).f8) x11_2).f1)))] (fun _ => True) (fun _ => False) rfl rfl ?aP (fun _ hk => hk.elim) ?aF ?aO ?aB ?aS ?aL ?_
                              (case aP => exact k40_mkM _ _ _ (⟨(rd_T71 l0 x10_1).f6, (rd_T71 l0 x10_1).f2, wrap64 (-((rd_T73 ((rd_T71 l0 x10_1).f8) x11_2).f1))⟩ : S40))
                              (case aB => exact (bE))
                              (case aF => exact (fun _ _ => trivial))
                              (case aO => exact (by (with_reducible repeat (first | apply Kd.R_alloc | apply Kd.R_drewN | apply Kd.R_drew)); exact HO_9.out))
                              (case aS => exact (below_size (bE)))
                              (case aL => have := LMc19.out; omega)
                              intro v370 w21 ho hb hg hat
                              rw [← Ny369.out] at ho
                              have n0_ := Aside0.mk (hb)
                              have n1_ := Aside0.mk (ho)
                              clear HB
                              clear HO_9
                              have HB := n0_
                              have HO371 := n1_
                              clear n0_ n1_
                              clear ho hb hg hat
                              refine hK.out _ _ ⟨((HB.out.cell (World.block_lt_of_cell? w _ hw365_0)).trans hw365_0), ((HB.out.cell (World.block_lt_of_cell? w _ hw365_1)).trans hw365_1), ((HB.out.cell (World.block_lt_of_cell? w _ hw365_2)).trans hw365_2), ((HB.out.cell (World.block_lt_of_cell? w _ hw365_3)).trans hw365_3), ((HB.out.cell (World.block_lt_of_cell? w _ hw365_4)).trans hw365_4), ((HB.out.cell (World.block_lt_of_cell? w _ hw365_5)).trans hw365_5), ((HB.out.cell (World.block_lt_of_cell? w _ hw365_6)).trans hw365_6), ((HB.out.cell (World.block_lt_of_cell? w _ hw365_7)).trans hw365_7), ((HB.out.cell (World.block_lt_of_cell? w _ hw365_8)).trans hw365_8), ((HB.out.cell (World.block_lt_of_cell? w _ hw365_9)).trans hw365_9), ((HB.out.cell (World.block_lt_of_cell? w _ hw366_0)).trans hw366_0), ((HB.out.cell (World.block_lt_of_cell? w _ hw366_1)).trans hw366_1), ((HB.out.cell (World.block_lt_of_cell? w _ hw366_2)).trans hw366_2), ((HB.out.cell (World.block_lt_of_cell? w _ hw366_3)).trans hw366_3), ((HB.out.cell (World.block_lt_of_cell? w _ hw366_4)).trans hw366_4), ((HB.out.cell (World.block_lt_of_cell? w _ hw366_5)).trans hw366_5), ((HB.out.cell (World.block_lt_of_cell? w _ hw366_6)).trans hw366_6), ((HB.out.cell (World.block_lt_of_cell? w _ hw366_7)).trans hw366_7), ((HB.out.cell (World.block_lt_of_cell? w _ hw366_8)).trans hw366_8), ((HB.out.cell (World.block_lt_of_cell? w _ hw366_9)).trans hw366_9), ((HB.out.cell (World.block_lt_of_cell? w _ hw367_0)).trans hw367_0), ((HB.out.cell (World.block_lt_of_cell? w _ hw367_1)).trans hw367_1), ((HB.out.cell (World.block_lt_of_cell? w _ hw367_2)).trans hw367_2), ((HB.out.cell (World.block_lt_of_cell? w _ hw367_3)).trans hw367_3), ((HB.out.cell (World.block_lt_of_cell? w _ hw367_4)).trans hw367_4), ((HB.out.cell (World.block_lt_of_cell? w _ hw367_5)).trans hw367_5), ((HB.out.cell (World.block_lt_of_cell? w _ hw367_6)).trans hw367_6), ((HB.out.cell (World.block_lt_of_cell? w _ hw367_7)).trans hw367_7), ((HB.out.cell (World.block_lt_of_cell? w _ hw367_8)).trans hw367_8), ((HB.out.cell (World.block_lt_of_cell? w _ hw367_9)).trans hw367_9), ((HB.out.cell (World.block_lt_of_cell? w _ hw368_0)).trans hw368_0), ((HB.out.cell (World.block_lt_of_cell? w _ hw368_1)).trans hw368_1), ((HB.out.cell (World.block_lt_of_cell? w _ hw368_2)).trans hw368_2)⟩ (fun hHeld => ?_)
                              clear hK K
                              refine norm_ (a' := ?_) ?_ ?_
                              rotate_left
                              · show Act.put _ (some 81) _ = _
                                simp only [Act.put, List.setIfInBounds_toArray, List.set_cons_zero, List.set_cons_succ, i64_w, i32_w]
                                rfl
                              refine pure_ (i := 24) (N := some 9) (v := ?_) (a' := ?_) #[true, true, true, true, true, true, true, true, true, true, true, true, true, true, true, true, true, true, true, true, true, true, true, true, true] rfl rfl (any_of HT_.out (by kernel_rfl)) (fun _ _ _ h => h) (Or.inl ⟨by rfl, ?_⟩) ?_ ?_
                              rotate_left
                              · intro w'
                                go_simp
                                with_reducible rfl
                              rotate_left
                              · simp only [Act.put, List.setIfInBounds_toArray, List.set_cons_zero, List.set_cons_succ, i64_w, i32_w]
                                rfl
                              refine done_ (done_of HT_.out (by kernel_rfl)) ?_
                              try go_wp2
                              go_roundg kj7
                              case measure => have := HK1.out; have := HK2.out; have := HJ7.out; omega
                              case rel => exact ⟨(y369), (wrap64 (x11_2 + 1)), (by first | rfl | (simp; done) | (simp [*]; done)), H', ⟨by have := HK1.out; have := HK2.out; have := HJ7.out; omega⟩, ⟨by (with_reducible repeat (first | apply Kd.R_alloc | apply Kd.R_drewN | apply Kd.R_drew)); exact HO371.out⟩, ⟨bE⟩⟩
                            · rw [if_neg c19] at H
                              exact absurd H (by simp)
                          · rw [if_neg c18] at H
                            have c18b0 : (((rd_T73 ((rd_T71 l0 x10_1).f8) x11_2).f0) == a1) = false := beq_eq_false_iff_ne.mpr c18
                            have c18b1 : (((rd_T73 ((rd_T71 l0 x10_1).f8) x11_2).f0) != a1) = true := bne_iff_ne.mpr c18
                            have H' := Aside0.mk H
                            clear H
                            have p363 : 0 ≤ (x10_1 : Int) := of_decide_eq_true (by first | (with_reducible assumption) | assumption)
                            have q363 : x10_1 < (l0.length : Int) := of_decide_eq_true (by first | (with_reducible assumption) | assumption)
                            obtain ⟨ad363, A363_8, c363_8, e363, hx363_0, hx363_1, hx363_2, hx363_3, hx363_4, hx363_5, hx363_6, hx363_7, hx363_8, hx363_9, hl363_8, hi363_8⟩ := at_T71 HR0.out x10_1 p363 q363
                            cases e363
                            replace hx363_0 := (HB.out.cell (World.block_lt_of_cell? w _ hx363_0)).trans hx363_0
                            replace hx363_1 := (HB.out.cell (World.block_lt_of_cell? w _ hx363_1)).trans hx363_1
                            replace hx363_2 := (HB.out.cell (World.block_lt_of_cell? w _ hx363_2)).trans hx363_2
                            replace hx363_3 := (HB.out.cell (World.block_lt_of_cell? w _ hx363_3)).trans hx363_3
                            replace hx363_4 := (HB.out.cell (World.block_lt_of_cell? w _ hx363_4)).trans hx363_4
                            replace hx363_5 := (HB.out.cell (World.block_lt_of_cell? w _ hx363_5)).trans hx363_5
                            replace hx363_6 := (HB.out.cell (World.block_lt_of_cell? w _ hx363_6)).trans hx363_6
                            replace hx363_7 := (HB.out.cell (World.block_lt_of_cell? w _ hx363_7)).trans hx363_7
                            replace hx363_8 := (HB.out.cell (World.block_lt_of_cell? w _ hx363_8)).trans hx363_8
                            replace hx363_9 := (HB.out.cell (World.block_lt_of_cell? w _ hx363_9)).trans hx363_9
                            have HR363_8 := Aside0.mk hi363_8
                            have HC363_8 := Aside0.mk hl363_8
                            clear hi363_8 hl363_8
                            replace p363 := eq_true p363
                            replace q363 := eq_true q363
                            have p364 : 0 ≤ (x11_2 : Int) := of_decide_eq_true (by first | (with_reducible assumption) | assumption)
                            have q364 : x11_2 < (((rd_T71 l0 x10_1).f8).length : Int) := of_decide_eq_true (by first | (with_reducible assumption) | assumption)
                            obtain ⟨ad364, e364, hx364_0, hx364_1, hx364_2⟩ := at_T73 HR363_8.out x11_2 p364 q364
                            cases e364
                            replace hx364_0 := (HB.out.cell (World.block_lt_of_cell? w _ hx364_0)).trans hx364_0
                            replace hx364_1 := (HB.out.cell (World.block_lt_of_cell? w _ hx364_1)).trans hx364_1
                            replace hx364_2 := (HB.out.cell (World.block_lt_of_cell? w _ hx364_2)).trans hx364_2
                            replace p364 := eq_true p364
                            replace q364 := eq_true q364
                            go_wp2
                            go_roundg kj7
                            case measure => have := HK1.out; have := HK2.out; have := HJ7.out; omega
                            case rel => exact ⟨(x9_2), (wrap64 (x11_2 + 1)), (by first | rfl | (simp; done) | (simp [*]; done)), H', ⟨by have := HK1.out; have := HK2.out; have := HJ7.out; omega⟩, ⟨by (with_reducible repeat (first | apply Kd.R_alloc | apply Kd.R_drewN | apply Kd.R_drew)); exact HO_9.out⟩, ⟨bE⟩⟩
                        · rw [if_neg c17] at H
                          exact absurd H (by simp)
                      · rw [if_neg c16] at H
                        exact absurd H (by simp)
                    · rw [if_neg c15] at H
                      exact absurd H (by simp)
                  · rw [if_neg c14] at H
                    exact absurd H (by simp)
                · replace c13 := Bool.eq_false_iff.mpr c13
                  subst c13
                  have H1 : (corebankref44_Items.l0 kj7 l0 a1 a2 a3 x9_2 (wrap64 (x10_1 + 1))) = some r := by rw [if_neg (show ¬ (false = true) by decide)] at H; exact H
                  clear H
                  have H := H1
                  clear H1
                  have H' := Aside0.mk H
                  clear H
                  go_wp2
                  go_roundg kj7
                  case measure => have := HK1.out; have := HK2.out; have := HJ7.out; omega
                  case rel => exact ⟨(x9_2), (wrap64 (x10_1 + 1)), (by first | rfl | (simp; done) | (simp [*]; done)), H', ⟨by have := HK1.out; have := HK2.out; have := HJ7.out; omega⟩, ⟨by (with_reducible repeat (first | apply Kd.R_alloc | apply Kd.R_drewN | apply Kd.R_drew)); exact HO_9.out⟩, ⟨bE⟩⟩
      · rw [if_neg c7] at H
        have c7b0 : decide (x10_1 < (l0.length : Int)) = false := decide_eq_false c7
        clear c7
        obtain rfl := Option.some.inj H
        go_wp2
        go_ret
        exact ⟨_, by first | rfl | (simp [errW_none, errW_some] <;> rfl) | (simp [*, errW_none, errW_some] <;> rfl), by (with_reducible repeat (first | apply Kd.R_alloc | apply Kd.R_drewN | apply Kd.R_drew)); exact HO_9.out, bE⟩

end Go.Proofs.Ytdieblejeeojhaa.PA
