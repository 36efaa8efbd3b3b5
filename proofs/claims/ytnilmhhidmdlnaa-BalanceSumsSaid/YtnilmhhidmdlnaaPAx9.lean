/- Contracts of the Go functions and their plain Lean functions, written by a program of this session out of the translation. -/
import Derived.Test.YtnilmhhidmdlnaaPAx0
namespace Go.Proofs.Ytnilmhhidmdlnaa.PA
open Go.RowKit Go.Proofs.YtnilmhhidmdlnaaW.PrintWords Go.Proofs.YtnilmhhidmdlnaaW.PrintLast Go.Proofs.YtnilmhhidmdlnaaW.PrintMore
attribute [local go_sem] max2_int min2_int max_two min_two max_three min_three max_four min_four   -- for this text's walks alone
set_option linter.unusedVariables false
set_option linter.unusedSimpArgs false

/-! ### corebankref21_Turnover: function 15 -/
mutual
def corebankref21_Turnover.l0 : Nat → List (S36) → Int → Int → Int → Int → Int → Int → Option (Int × Int)
  | 0, _, _, _, _, _, _, _ => none
  | k + 1, x0, x1, x2, x3, x10, x11, x12 => if x12 < (x0.length : Int) then (if 0 ≤ x12 then (if ((rd_T36 x0 x12).f1) < x2 then (corebankref21_Turnover.j1 k x0 x1 x2 x3 x10 x11 x12 true) else (corebankref21_Turnover.j1 k x0 x1 x2 x3 x10 x11 x12 (decide (((rd_T36 x0 x12).f1) > x3)))) else (none)) else (some (x10, x11))
def corebankref21_Turnover.j1 : Nat → List (S36) → Int → Int → Int → Int → Int → Int → Bool → Option (Int × Int)
  | 0, _, _, _, _, _, _, _, _ => none
  | k + 1, x0, x1, x2, x3, x10, x11, x12, x36 => if x36 = true then (corebankref21_Turnover.l0 k x0 x1 x2 x3 x10 x11 (wrap64 (x12 + 1))) else (corebankref21_Turnover.l1 k x0 x1 x2 x3 x10 x11 x12 0)
def corebankref21_Turnover.l1 : Nat → List (S36) → Int → Int → Int → Int → Int → Int → Int → Option (Int × Int)
  | 0, _, _, _, _, _, _, _, _ => none
  | k + 1, x0, x1, x2, x3, x10, x11, x12, x13 => if 0 ≤ x12 then (if x12 < (x0.length : Int) then (if x13 < (((rd_T36 x0 x12).f8).length : Int) then (if 0 ≤ x13 then (if ((rd_T39 ((rd_T36 x0 x12).f8) x13).f0) = x1 then (corebankref21_Turnover.j3 k x0 x1 x2 x3 x10 x11 x12 x13 (decide (((rd_T39 ((rd_T36 x0 x12).f8) x13).f1) > 0)) ((rd_T39 ((rd_T36 x0 x12).f8) x13).f0) ((rd_T39 ((rd_T36 x0 x12).f8) x13).f1) ((rd_T39 ((rd_T36 x0 x12).f8) x13).f2)) else (corebankref21_Turnover.j3 k x0 x1 x2 x3 x10 x11 x12 x13 false ((rd_T39 ((rd_T36 x0 x12).f8) x13).f0) ((rd_T39 ((rd_T36 x0 x12).f8) x13).f1) ((rd_T39 ((rd_T36 x0 x12).f8) x13).f2))) else (none)) else (corebankref21_Turnover.l0 k x0 x1 x2 x3 x10 x11 (wrap64 (x12 + 1)))) else (none)) else (none)
def corebankref21_Turnover.j3 : Nat → List (S36) → Int → Int → Int → Int → Int → Int → Int → Bool → Int → Int → ByteArray → Option (Int × Int)
  | 0, _, _, _, _, _, _, _, _, _, _, _, _ => none
  | k + 1, x0, x1, x2, x3, x10, x11, x12, x13, x63, x292000, x292001, x292002 => if x63 = true then (if x292000 = x1 then (if x292001 < 0 then (corebankref21_Turnover.l1 k x0 x1 x2 x3 (wrap64 (x10 + x292001)) (wrap64 (x11 - x292001)) x12 (wrap64 (x13 + 1))) else (corebankref21_Turnover.l1 k x0 x1 x2 x3 (wrap64 (x10 + x292001)) x11 x12 (wrap64 (x13 + 1)))) else (corebankref21_Turnover.l1 k x0 x1 x2 x3 (wrap64 (x10 + x292001)) x11 x12 (wrap64 (x13 + 1)))) else (if x292000 = x1 then (if x292001 < 0 then (corebankref21_Turnover.l1 k x0 x1 x2 x3 x10 (wrap64 (x11 - x292001)) x12 (wrap64 (x13 + 1))) else (corebankref21_Turnover.l1 k x0 x1 x2 x3 x10 x11 x12 (wrap64 (x13 + 1)))) else (corebankref21_Turnover.l1 k x0 x1 x2 x3 x10 x11 x12 (wrap64 (x13 + 1))))
end
def corebankref21_Turnover.f (k : Nat) (l0 : List (S36)) (a1 : Int) (a2 : Int) (a3 : Int) : Option (Int × Int) := corebankref21_Turnover.l0 k l0 a1 a2 a3 0 0 0
theorem corebankref21_Turnover.mono_l : ∀ k, (∀ y0 y1 y2 y3 y4 y5 y6, LeO (corebankref21_Turnover.l0 k y0 y1 y2 y3 y4 y5 y6) (corebankref21_Turnover.l0 (k + 1) y0 y1 y2 y3 y4 y5 y6)) ∧ (∀ y0 y1 y2 y3 y4 y5 y6 y7, LeO (corebankref21_Turnover.j1 k y0 y1 y2 y3 y4 y5 y6 y7) (corebankref21_Turnover.j1 (k + 1) y0 y1 y2 y3 y4 y5 y6 y7)) ∧ (∀ y0 y1 y2 y3 y4 y5 y6 y7, LeO (corebankref21_Turnover.l1 k y0 y1 y2 y3 y4 y5 y6 y7) (corebankref21_Turnover.l1 (k + 1) y0 y1 y2 y3 y4 y5 y6 y7)) ∧ (∀ y0 y1 y2 y3 y4 y5 y6 y7 y8 y9 y10 y11, LeO (corebankref21_Turnover.j3 k y0 y1 y2 y3 y4 y5 y6 y7 y8 y9 y10 y11) (corebankref21_Turnover.j3 (k + 1) y0 y1 y2 y3 y4 y5 y6 y7 y8 y9 y10 y11))
  | 0 => ⟨fun _ _ _ _ _ _ _ r h => by simp [corebankref21_Turnover.l0] at h, fun _ _ _ _ _ _ _ _ r h => by simp [corebankref21_Turnover.j1] at h, fun _ _ _ _ _ _ _ _ r h => by simp [corebankref21_Turnover.l1] at h, fun _ _ _ _ _ _ _ _ _ _ _ _ r h => by simp [corebankref21_Turnover.j3] at h⟩
  | k + 1 => by
    obtain ⟨ih0, ih1, ih2, ih3⟩ := corebankref21_Turnover.mono_l k
    refine ⟨?_, ?_, ?_, ?_⟩
    · intro y0 y1 y2 y3 y4 y5 y6
      unfold corebankref21_Turnover.l0
      repeat' first
      | (with_reducible exact ih0 _ _ _ _ _ _ _)
      | (with_reducible exact ih1 _ _ _ _ _ _ _ _)
      | (with_reducible exact ih2 _ _ _ _ _ _ _ _)
      | (with_reducible exact ih3 _ _ _ _ _ _ _ _ _ _ _ _)
      | (with_reducible exact LeO.refl _)
      | (with_reducible exact LeO.none _)
      | (with_reducible refine LeO.ite ?_ ?_)
      | (with_reducible refine LeO.bind ?_ (fun _ => ?_))
      | exact ih0 _ _ _ _ _ _ _
      | exact ih1 _ _ _ _ _ _ _ _
      | exact ih2 _ _ _ _ _ _ _ _
      | exact ih3 _ _ _ _ _ _ _ _ _ _ _ _
      | exact LeO.none _
      | refine LeO.ite ?_ ?_
      | refine LeO.bind ?_ (fun _ => ?_)
    · intro y0 y1 y2 y3 y4 y5 y6 y7
      unfold corebankref21_Turnover.j1
      repeat' first
      | (with_reducible exact ih0 _ _ _ _ _ _ _)
      | (with_reducible exact ih1 _ _ _ _ _ _ _ _)
      | (with_reducible exact ih2 _ _ _ _ _ _ _ _)
      | (with_reducible exact ih3 _ _ _ _ _ _ _ _ _ _ _ _)
      | (with_reducible exact LeO.refl _)
      | (with_reducible exact LeO.none _)
      | (with_reducible refine LeO.ite ?_ ?_)
      | (with_reducible refine LeO.bind ?_ (fun _ => ?_))
      | exact ih0 _ _ _ _ _ _ _
      | exact ih1 _ _ _ _ _ _ _ _
      | exact ih2 _ _ _ _ _ _ _ _
      | exact ih3 _ _ _ _ _ _ _ _ _ _ _ _
      | exact LeO.none _
      | refine LeO.ite ?_ ?_
      | refine LeO.bind ?_ (fun _ => ?_)
    · intro y0 y1 y2 y3 y4 y5 y6 y7
      unfold corebankref21_Turnover.l1
      repeat' first
      | (with_reducible exact ih0 _ _ _ _ _ _ _)
      | (with_reducible exact ih1 _ _ _ _ _ _ _ _)
      | (with_reducible exact ih2 _ _ _ _ _ _ _ _)
      | (with_reducible exact ih3 _ _ _ _ _ _ _ _ _ _ _ _)
      | (with_reducible exact LeO.refl _)
      | (with_reducible exact LeO.none _)
      | (with_reducible refine LeO.ite ?_ ?_)
      | (with_reducible refine LeO.bind ?_ (fun _ => ?_))
      | exact ih0 _ _ _ _ _ _ _
      | exact ih1 _ _ _ _ _ _ _ _
      | exact ih2 _ _ _ _ _ _ _ _
      | exact ih3 _ _ _ _ _ _ _ _ _ _ _ _
      | exact LeO.none _
      | refine LeO.ite ?_ ?_
      | refine LeO.bind ?_ (fun _ => ?_)
    · intro y0 y1 y2 y3 y4 y5 y6 y7 y8 y9 y10 y11
      unfold corebankref21_Turnover.j3
      repeat' first
      | (with_reducible exact ih0 _ _ _ _ _ _ _)
      | (with_reducible exact ih1 _ _ _ _ _ _ _ _)
      | (with_reducible exact ih2 _ _ _ _ _ _ _ _)
      | (with_reducible exact ih3 _ _ _ _ _ _ _ _ _ _ _ _)
      | (with_reducible exact LeO.refl _)
      | (with_reducible exact LeO.none _)
      | (with_reducible refine LeO.ite ?_ ?_)
      | (with_reducible refine LeO.bind ?_ (fun _ => ?_))
      | exact ih0 _ _ _ _ _ _ _
      | exact ih1 _ _ _ _ _ _ _ _
      | exact ih2 _ _ _ _ _ _ _ _
      | exact ih3 _ _ _ _ _ _ _ _ _ _ _ _
      | exact LeO.none _
      | refine LeO.ite ?_ ?_
      | refine LeO.bind ?_ (fun _ => ?_)
theorem corebankref21_Turnover.mono : ∀ a0 a1 a2 a3 k, LeO (corebankref21_Turnover.f k a0 a1 a2 a3) (corebankref21_Turnover.f (k + 1) a0 a1 a2 a3) := by
  intro a0 a1 a2 a3 k
  obtain ⟨ih0, ih1, ih2, ih3⟩ := corebankref21_Turnover.mono_l k
  unfold corebankref21_Turnover.f
  repeat' first
      | (with_reducible exact ih0 _ _ _ _ _ _ _)
      | (with_reducible exact ih1 _ _ _ _ _ _ _ _)
      | (with_reducible exact ih2 _ _ _ _ _ _ _ _)
      | (with_reducible exact ih3 _ _ _ _ _ _ _ _ _ _ _ _)
      | (with_reducible exact LeO.refl _)
      | (with_reducible exact LeO.none _)
      | (with_reducible refine LeO.ite ?_ ?_)
      | (with_reducible refine LeO.bind ?_ (fun _ => ?_))
      | exact ih0 _ _ _ _ _ _ _
      | exact ih1 _ _ _ _ _ _ _ _
      | exact ih2 _ _ _ _ _ _ _ _
      | exact ih3 _ _ _ _ _ _ _ _ _ _ _ _
      | exact LeO.none _
      | refine LeO.ite ?_ ?_
      | refine LeO.bind ?_ (fun _ => ?_)
set_option maxHeartbeats 8000000 in
set_option maxRecDepth 100000 in
theorem corebankref21_Turnover.calls (k : Nat) (A0 : Option Addr) (c0 : Nat) (l0 : List (S36)) (a1 : Int) (a2 : Int) (a3 : Int) (r1 : Int) (r2 : Int) (w : World) (hr0 : Kd.C k36 w A0 l0.length l0) (hc0 : l0.length ≤ c0) (h : corebankref21_Turnover.f k l0 a1 a2 a3 = some (r1, r2)) :
    Calls Try.prog 15 #[.slice A0 l0.length c0, .int .i64 a1, .int .i64 a2, .int .i64 a3] w fun e w' => e = .returned (.tuple #[.int .i64 r1, .int .i64 r2]) ∧ Below w.heap.size w w' := by
  have hu39 := Try.underlying39
  have HR0 := Aside0.mk hr0
  have HC0 := Aside0.mk hc0
  clear hr0 hc0
  have HB := Aside0.mk (Below.refl w.heap.size w)
  have H : (corebankref21_Turnover.l0 k l0 a1 a2 a3 0 0 0) = some (r1, r2) := h
  clear h
  have H' := Aside0.mk H
  clear H
  go_enter Try.func15, Try.ntmps15
  go_wp2
  go_loopg [10, 11, 12] k (fun kq v10 v11 v12 w' => ∃ (x10_1 : Int) (x11_1 : Int) (x12_1 : Int), v10 = .int .i64 x10_1 ∧ v11 = .int .i64 x11_1 ∧ v12 = .int .i64 x12_1 ∧ Aside0 (corebankref21_Turnover.l0 kq l0 a1 a2 a3 x10_1 x11_1 x12_1 = some (r1, r2)) ∧ Aside0 (kq ≤ k) ∧ Aside0 (Below w.heap.size w w'))
  case atStart => exact ⟨(0), (0), (0), (by first | rfl | (simp; done) | (simp [*]; done)), (by first | rfl | (simp; done) | (simp [*]; done)), (by first | rfl | (simp; done) | (simp [*]; done)), H', ⟨Nat.le_refl _⟩, ⟨bE⟩⟩
  case round =>
    clear H'
    try clear c1
    try clear p2
    obtain ⟨x10_1, x11_1, x12_1, rfl, rfl, rfl, HA, HK1, HB⟩ := hrel
    cases gk with
    | zero => exact absurd HA.out (by simp [corebankref21_Turnover.l0])
    | succ k1 =>
      have H := HA.out
      clear HA
      simp only [corebankref21_Turnover.l0] at H
      by_cases c5 : x12_1 < (l0.length : Int)
      · rw [if_pos c5] at H
        have c5b0 : decide (x12_1 < (l0.length : Int)) = true := decide_eq_true c5
        clear c5
        have HC6 := Aside0.mk H
        clear H
        go_upto_region 5 with (fail)
        go_cut [36] (fun v36 wc => ∃ (kq : Nat) (x36_5 : Bool), v36 = .bool x36_5 ∧ Aside0 (corebankref21_Turnover.j1 kq l0 a1 a2 a3 x10_1 x11_1 x12_1 x36_5 = some (r1, r2)) ∧ Aside0 (kq ≤ k1) ∧ Aside0 (Below w.heap.size w wc))
        case first =>
          have H := HC6.out
          clear HC6
          by_cases c7 : 0 ≤ x12_1
          · rw [if_pos c7] at H
            have c7b0 : decide (0 ≤ x12_1) = true := decide_eq_true c7
            clear c7
            (first | rw [c7b0] | (simp only [i64_w, i32_w]; rw [c7b0]) | skip)
            by_cases c8 : ((rd_T36 l0 x12_1).f1) < a2
            · rw [if_pos c8] at H
              have c8b0 : decide (((rd_T36 l0 x12_1).f1) < a2) = true := decide_eq_true c8
              clear c8
              have H' := Aside0.mk H
              clear H
              have p286 : 0 ≤ (x12_1 : Int) := of_decide_eq_true (by first | (with_reducible assumption) | assumption)
              have q286 : x12_1 < (l0.length : Int) := of_decide_eq_true (by first | (with_reducible assumption) | assumption)
              obtain ⟨ad286, A286_8, c286_8, e286, hx286_0, hx286_1, hx286_2, hx286_3, hx286_4, hx286_5, hx286_6, hx286_7, hx286_8, hx286_9, hl286_8, hi286_8⟩ := at_T36 HR0.out x12_1 p286 q286
              cases e286
              replace hx286_0 := (HB.out.cell (World.block_lt_of_cell? w _ hx286_0)).trans hx286_0
              replace hx286_1 := (HB.out.cell (World.block_lt_of_cell? w _ hx286_1)).trans hx286_1
              replace hx286_2 := (HB.out.cell (World.block_lt_of_cell? w _ hx286_2)).trans hx286_2
              replace hx286_3 := (HB.out.cell (World.block_lt_of_cell? w _ hx286_3)).trans hx286_3
              replace hx286_4 := (HB.out.cell (World.block_lt_of_cell? w _ hx286_4)).trans hx286_4
              replace hx286_5 := (HB.out.cell (World.block_lt_of_cell? w _ hx286_5)).trans hx286_5
              replace hx286_6 := (HB.out.cell (World.block_lt_of_cell? w _ hx286_6)).trans hx286_6
              replace hx286_7 := (HB.out.cell (World.block_lt_of_cell? w _ hx286_7)).trans hx286_7
              replace hx286_8 := (HB.out.cell (World.block_lt_of_cell? w _ hx286_8)).trans hx286_8
              replace hx286_9 := (HB.out.cell (World.block_lt_of_cell? w _ hx286_9)).trans hx286_9
              have HR286_8 := Aside0.mk hi286_8
              have HC286_8 := Aside0.mk hl286_8
              clear hi286_8 hl286_8
              replace p286 := eq_true p286
              replace q286 := eq_true q286
              go_wp2
              go_meet
              case rel => exact ⟨_, (true), (by first | rfl | (simp; done) | (simp [*]; done)), H', ⟨by have := HK1.out; first | omega | exact Nat.le_refl _⟩, ⟨bE⟩⟩
            · rw [if_neg c8] at H
              have c8b0 : decide (((rd_T36 l0 x12_1).f1) < a2) = false := decide_eq_false c8
              clear c8
              have H' := Aside0.mk H
              clear H
              have p286 : 0 ≤ (x12_1 : Int) := of_decide_eq_true (by first | (with_reducible assumption) | assumption)
              have q286 : x12_1 < (l0.length : Int) := of_decide_eq_true (by first | (with_reducible assumption) | assumption)
              obtain ⟨ad286, A286_8, c286_8, e286, hx286_0, hx286_1, hx286_2, hx286_3, hx286_4, hx286_5, hx286_6, hx286_7, hx286_8, hx286_9, hl286_8, hi286_8⟩ := at_T36 HR0.out x12_1 p286 q286
              cases e286
              replace hx286_0 := (HB.out.cell (World.block_lt_of_cell? w _ hx286_0)).trans hx286_0
              replace hx286_1 := (HB.out.cell (World.block_lt_of_cell? w _ hx286_1)).trans hx286_1
              replace hx286_2 := (HB.out.cell (World.block_lt_of_cell? w _ hx286_2)).trans hx286_2
              replace hx286_3 := (HB.out.cell (World.block_lt_of_cell? w _ hx286_3)).trans hx286_3
              replace hx286_4 := (HB.out.cell (World.block_lt_of_cell? w _ hx286_4)).trans hx286_4
              replace hx286_5 := (HB.out.cell (World.block_lt_of_cell? w _ hx286_5)).trans hx286_5
              replace hx286_6 := (HB.out.cell (World.block_lt_of_cell? w _ hx286_6)).trans hx286_6
              replace hx286_7 := (HB.out.cell (World.block_lt_of_cell? w _ hx286_7)).trans hx286_7
              replace hx286_8 := (HB.out.cell (World.block_lt_of_cell? w _ hx286_8)).trans hx286_8
              replace hx286_9 := (HB.out.cell (World.block_lt_of_cell? w _ hx286_9)).trans hx286_9
              have HR286_8 := Aside0.mk hi286_8
              have HC286_8 := Aside0.mk hl286_8
              clear hi286_8 hl286_8
              replace p286 := eq_true p286
              replace q286 := eq_true q286
              have p287 : 0 ≤ (x12_1 : Int) := of_decide_eq_true (by first | (with_reducible assumption) | assumption)
              have q287 : x12_1 < (l0.length : Int) := of_decide_eq_true (by first | (with_reducible assumption) | assumption)
              obtain ⟨ad287, A287_8, c287_8, e287, hx287_0, hx287_1, hx287_2, hx287_3, hx287_4, hx287_5, hx287_6, hx287_7, hx287_8, hx287_9, hl287_8, hi287_8⟩ := at_T36 HR0.out x12_1 p287 q287
              obtain rfl : ad286 = ad287 := (by injection e287)
              replace hx287_0 := (HB.out.cell (World.block_lt_of_cell? w _ hx287_0)).trans hx287_0
              replace hx287_1 := (HB.out.cell (World.block_lt_of_cell? w _ hx287_1)).trans hx287_1
              replace hx287_2 := (HB.out.cell (World.block_lt_of_cell? w _ hx287_2)).trans hx287_2
              replace hx287_3 := (HB.out.cell (World.block_lt_of_cell? w _ hx287_3)).trans hx287_3
              replace hx287_4 := (HB.out.cell (World.block_lt_of_cell? w _ hx287_4)).trans hx287_4
              replace hx287_5 := (HB.out.cell (World.block_lt_of_cell? w _ hx287_5)).trans hx287_5
              replace hx287_6 := (HB.out.cell (World.block_lt_of_cell? w _ hx287_6)).trans hx287_6
              replace hx287_7 := (HB.out.cell (World.block_lt_of_cell? w _ hx287_7)).trans hx287_7
              replace hx287_8 := (HB.out.cell (World.block_lt_of_cell? w _ hx287_8)).trans hx287_8
              replace hx287_9 := (HB.out.cell (World.block_lt_of_cell? w _ hx287_9)).trans hx287_9
              have HR287_8 := Aside0.mk hi287_8
              have HC287_8 := Aside0.mk hl287_8
              clear hi287_8 hl287_8
              replace p287 := eq_true p287
              replace q287 := eq_true q287
              have ea_ := Option.some.inj (hx286_8.symm.trans hx287_8)
              injection ea_ with ea_ en_ ec_
              subst ea_
              subst ec_
              clear en_
              go_wp2
              go_meet
              case rel => exact ⟨_, (decide (((rd_T36 l0 x12_1).f1) > a3)), (by first | rfl | (simp; done) | (simp [*]; done)), H', ⟨by have := HK1.out; first | omega | exact Nat.le_refl _⟩, ⟨bE⟩⟩
          · rw [if_neg c7] at H
            exact absurd H (by simp)
        case rest =>
          clear HC6
          try clear c1
          try clear c2
          try clear p2
          try clear q2
          try clear hx2
          try clear c5
          try clear c5b0
          try clear c7
          try clear c7b0
          try clear c8
          try clear c8b0
          try clear hx286_0
          try clear hx286_1
          try clear hx286_2
          try clear hx286_3
          try clear hx286_4
          try clear hx286_5
          try clear hx286_6
          try clear hx286_7
          try clear hx286_8
          try clear hx286_9
          try clear hx287_0
          try clear hx287_1
          try clear hx287_2
          try clear hx287_3
          try clear hx287_4
          try clear hx287_5
          try clear hx287_6
          try clear hx287_7
          try clear hx287_8
          try clear hx287_9
          try clear p2
          try clear p286
          try clear p287
          try clear q286
          try clear q287
          obtain ⟨kq, x36_5, rfl, HA, HJ5, HB⟩ := hcut
          cases kq with
          | zero => exact absurd HA.out (by simp [corebankref21_Turnover.j1])
          | succ kj5 =>
            have H := HA.out
            clear HA
            simp only [corebankref21_Turnover.j1] at H
            by_cases c9 : x36_5 = true
            · subst c9
              have H1 : (corebankref21_Turnover.l0 kj5 l0 a1 a2 a3 x10_1 x11_1 (wrap64 (x12_1 + 1))) = some (r1, r2) := by rw [if_pos rfl] at H; exact H
              clear H
              have H := H1
              clear H1
              have H' := Aside0.mk H
              clear H
              go_wp2
              go_roundg kj5
              case measure => have := HK1.out; have := HJ5.out; omega
              case rel => exact ⟨(x10_1), (x11_1), (wrap64 (x12_1 + 1)), (by first | rfl | (simp; done) | (simp [*]; done)), (by first | rfl | (simp; done) | (simp [*]; done)), (by first | rfl | (simp; done) | (simp [*]; done)), H', ⟨by have := HK1.out; have := HJ5.out; omega⟩, ⟨bE⟩⟩
            · replace c9 := Bool.eq_false_iff.mpr c9
              subst c9
              have H1 : (corebankref21_Turnover.l1 kj5 l0 a1 a2 a3 x10_1 x11_1 x12_1 0) = some (r1, r2) := by rw [if_neg (show ¬ (false = true) by decide)] at H; exact H
              clear H
              have H := H1
              clear H1
              have H' := Aside0.mk H
              clear H
              go_wp2
              go_loopg [10, 11, 13] kj5 (fun kq v10 v11 v13 w' => ∃ (x10_3 : Int) (x11_3 : Int) (x13_3 : Int), v10 = .int .i64 x10_3 ∧ v11 = .int .i64 x11_3 ∧ v13 = .int .i64 x13_3 ∧ Aside0 (corebankref21_Turnover.l1 kq l0 a1 a2 a3 x10_3 x11_3 x12_1 x13_3 = some (r1, r2)) ∧ Aside0 (kq ≤ kj5) ∧ Aside0 (Below w.heap.size w w'))
              case atStart => exact ⟨(x10_1), (x11_1), (0), (by first | rfl | (simp; done) | (simp [*]; done)), (by first | rfl | (simp; done) | (simp [*]; done)), (by first | rfl | (simp; done) | (simp [*]; done)), H', ⟨Nat.le_refl _⟩, ⟨bE⟩⟩
              case round =>
                clear H'
                try clear c1
                try clear c2
                try clear p2
                try clear q2
                try clear hx2
                try clear c5
                try clear c5b0
                try clear p6
                try clear c7
                try clear c7b0
                try clear c8
                try clear c8b0
                try clear c9
                try clear hx286_0
                try clear hx286_1
                try clear hx286_2
                try clear hx286_3
                try clear hx286_4
                try clear hx286_5
                try clear hx286_6
                try clear hx286_7
                try clear hx286_8
                try clear hx286_9
                try clear hx287_0
                try clear hx287_1
                try clear hx287_2
                try clear hx287_3
                try clear hx287_4
                try clear hx287_5
                try clear hx287_6
                try clear hx287_7
                try clear hx287_8
                try clear hx287_9
                try clear p2
                try clear p286
                try clear p287
                try clear q2
                try clear q286
                try clear q287
                obtain ⟨x10_3, x11_3, x13_3, rfl, rfl, rfl, HA, HK3, HB⟩ := hrel
                cases gk with
                | zero => exact absurd HA.out (by simp [corebankref21_Turnover.l1])
                | succ k3 =>
                  have H := HA.out
                  clear HA
                  simp only [corebankref21_Turnover.l1] at H
                  by_cases c10 : 0 ≤ x12_1
                  · rw [if_pos c10] at H
                    have c10b0 : decide (0 ≤ x12_1) = true := decide_eq_true c10
                    clear c10
                    by_cases c11 : x12_1 < (l0.length : Int)
                    · rw [if_pos c11] at H
                      have c11b0 : decide (x12_1 < (l0.length : Int)) = true := decide_eq_true c11
                      clear c11
                      by_cases c12 : x13_3 < (((rd_T36 l0 x12_1).f8).length : Int)
                      · rw [if_pos c12] at H
                        have c12b0 : decide (x13_3 < (((rd_T36 l0 x12_1).f8).length : Int)) = true := decide_eq_true c12
                        clear c12
                        by_cases c13 : 0 ≤ x13_3
                        · rw [if_pos c13] at H
                          have c13b0 : decide (0 ≤ x13_3) = true := decide_eq_true c13
                          clear c13
                          have HC14 := Aside0.mk H
                          clear H
                          have p288 : 0 ≤ (x12_1 : Int) := of_decide_eq_true (by first | (with_reducible assumption) | assumption)
                          have q288 : x12_1 < (l0.length : Int) := of_decide_eq_true (by first | (with_reducible assumption) | assumption)
                          obtain ⟨ad288, A288_8, c288_8, e288, hx288_0, hx288_1, hx288_2, hx288_3, hx288_4, hx288_5, hx288_6, hx288_7, hx288_8, hx288_9, hl288_8, hi288_8⟩ := at_T36 HR0.out x12_1 p288 q288
                          cases e288
                          replace hx288_0 := (HB.out.cell (World.block_lt_of_cell? w _ hx288_0)).trans hx288_0
                          replace hx288_1 := (HB.out.cell (World.block_lt_of_cell? w _ hx288_1)).trans hx288_1
                          replace hx288_2 := (HB.out.cell (World.block_lt_of_cell? w _ hx288_2)).trans hx288_2
                          replace hx288_3 := (HB.out.cell (World.block_lt_of_cell? w _ hx288_3)).trans hx288_3
                          replace hx288_4 := (HB.out.cell (World.block_lt_of_cell? w _ hx288_4)).trans hx288_4
                          replace hx288_5 := (HB.out.cell (World.block_lt_of_cell? w _ hx288_5)).trans hx288_5
                          replace hx288_6 := (HB.out.cell (World.block_lt_of_cell? w _ hx288_6)).trans hx288_6
                          replace hx288_7 := (HB.out.cell (World.block_lt_of_cell? w _ hx288_7)).trans hx288_7
                          replace hx288_8 := (HB.out.cell (World.block_lt_of_cell? w _ hx288_8)).trans hx288_8
                          replace hx288_9 := (HB.out.cell (World.block_lt_of_cell? w _ hx288_9)).trans hx288_9
                          have HR288_8 := Aside0.mk hi288_8
                          have HC288_8 := Aside0.mk hl288_8
                          clear hi288_8 hl288_8
                          replace p288 := eq_true p288
                          replace q288 := eq_true q288
                          have p289 : 0 ≤ (x12_1 : Int) := of_decide_eq_true (by first | (with_reducible assumption) | assumption)
                          have q289 : x12_1 < (l0.length : Int) := of_decide_eq_true (by first | (with_reducible assumption) | assumption)
                          obtain ⟨ad289, A289_8, c289_8, e289, hx289_0, hx289_1, hx289_2, hx289_3, hx289_4, hx289_5, hx289_6, hx289_7, hx289_8, hx289_9, hl289_8, hi289_8⟩ := at_T36 HR0.out x12_1 p289 q289
                          obtain rfl : ad288 = ad289 := (by injection e289)
                          replace hx289_0 := (HB.out.cell (World.block_lt_of_cell? w _ hx289_0)).trans hx289_0
                          replace hx289_1 := (HB.out.cell (World.block_lt_of_cell? w _ hx289_1)).trans hx289_1
                          replace hx289_2 := (HB.out.cell (World.block_lt_of_cell? w _ hx289_2)).trans hx289_2
                          replace hx289_3 := (HB.out.cell (World.block_lt_of_cell? w _ hx289_3)).trans hx289_3
                          replace hx289_4 := (HB.out.cell (World.block_lt_of_cell? w _ hx289_4)).trans hx289_4
                          replace hx289_5 := (HB.out.cell (World.block_lt_of_cell? w _ hx289_5)).trans hx289_5
                          replace hx289_6 := (HB.out.cell (World.block_lt_of_cell? w _ hx289_6)).trans hx289_6
                          replace hx289_7 := (HB.out.cell (World.block_lt_of_cell? w _ hx289_7)).trans hx289_7
                          replace hx289_8 := (HB.out.cell (World.block_lt_of_cell? w _ hx289_8)).trans hx289_8
                          replace hx289_9 := (HB.out.cell (World.block_lt_of_cell? w _ hx289_9)).trans hx289_9
                          have HR289_8 := Aside0.mk hi289_8
                          have HC289_8 := Aside0.mk hl289_8
                          clear hi289_8 hl289_8
                          replace p289 := eq_true p289
                          replace q289 := eq_true q289
                          have ea_ := Option.some.inj (hx288_8.symm.trans hx289_8)
                          injection ea_ with ea_ en_ ec_
                          subst ea_
                          subst ec_
                          clear en_
                          have p290 : 0 ≤ (x13_3 : Int) := of_decide_eq_true (by first | (with_reducible assumption) | assumption)
                          have q290 : x13_3 < (((rd_T36 l0 x12_1).f8).length : Int) := of_decide_eq_true (by first | (with_reducible assumption) | assumption)
                          obtain ⟨ad290, e290, hx290_0, hx290_1, hx290_2⟩ := at_T39 HR289_8.out x13_3 p290 q290
                          cases e290
                          replace hx290_0 := (HB.out.cell (World.block_lt_of_cell? w _ hx290_0)).trans hx290_0
                          replace hx290_1 := (HB.out.cell (World.block_lt_of_cell? w _ hx290_1)).trans hx290_1
                          replace hx290_2 := (HB.out.cell (World.block_lt_of_cell? w _ hx290_2)).trans hx290_2
                          replace p290 := eq_true p290
                          replace q290 := eq_true q290
                          go_upto_region 10 with (first | ((with_reducible refine gate_dst (N := 14) rfl ?_); refine box_event ?hg (N := 14) ?hd (cs := #[.int .i64 0, .int .i64 0, .string (⟨#[]⟩ : ByteArray)]) (t := 39) ?hr ?_; (case hd => rfl); (case hg => rfl); (case hr => first | (go_simp; done) | (go_simp; rfl)); intro gb291 hg w15 hbox hb; have nn_ := bT hb hg; have BK291 := Aside0.mk (hbox); have GW291 := Aside0.mk nn_.2; have GE291 := GW291; replace HB := Aside0.mk nn_.1; clear nn_; clear hb hbox hg; have hcz16_0 : w15.cell? ⟨gb291, 0, none⟩ = some (.int .i64 0) := (blk_cell BK291.out 0).trans rfl; have hcz16_1 : w15.cell? ⟨gb291, 1, none⟩ = some (.int .i64 0) := (blk_cell BK291.out 1).trans rfl; have hcz16_2 : w15.cell? ⟨gb291, 2, none⟩ = some (.string (⟨#[]⟩ : ByteArray)) := (blk_cell BK291.out 2).trans rfl; have hfz16_0 := blk_frozen BK291.out 0; have hfz16_1 := blk_frozen BK291.out 1; have hfz16_2 := blk_frozen BK291.out 2))
                          (try simp only [Act.put, List.setIfInBounds_toArray, List.set_cons_zero, List.set_cons_succ])
                          go_cut [63] (fun v63 wc => ∃ (kq : Nat) (x63_13 : Bool), v63 = .bool x63_13 ∧ Aside0 (corebankref21_Turnover.j3 kq l0 a1 a2 a3 x10_3 x11_3 x12_1 x13_3 x63_13 ((rd_T39 ((rd_T36 l0 x12_1).f8) x13_3).f0) ((rd_T39 ((rd_T36 l0 x12_1).f8) x13_3).f1) ((rd_T39 ((rd_T36 l0 x12_1).f8) x13_3).f2) = some (r1, r2)) ∧ Aside0 (kq ≤ k3) ∧ Aside0 (wc.heap[gb291]? = some (.cells #[.int .i64 ((rd_T39 ((rd_T36 l0 x12_1).f8) x13_3).f0), .int .i64 ((rd_T39 ((rd_T36 l0 x12_1).f8) x13_3).f1), .string ((rd_T39 ((rd_T36 l0 x12_1).f8) x13_3).f2)] 39 (0, 0))) ∧ Aside0 (Below w.heap.size w wc))
                          case first =>
                            have H := HC14.out
                            clear HC14
                            by_cases c17 : ((rd_T39 ((rd_T36 l0 x12_1).f8) x13_3).f0) = a1
                            · rw [if_pos c17] at H
                              have c17b0 : (((rd_T39 ((rd_T36 l0 x12_1).f8) x13_3).f0) == a1) = true := beq_iff_eq.mpr c17
                              have c17b1 : (((rd_T39 ((rd_T36 l0 x12_1).f8) x13_3).f0) != a1) = false := bne_eq_false_iff_eq.mpr c17
                              clear c17
                              (first | rw [c17b0] | (simp only [i64_w, i32_w]; rw [c17b0]) | skip)
                              have H' := Aside0.mk H
                              clear H
                              have hcz18_0 : w15.cell? ⟨gb291, 0, none⟩ = some (.int .i64 0) := (blk_cell BK291.out 0).trans rfl
                              have hcz18_1 : w15.cell? ⟨gb291, 1, none⟩ = some (.int .i64 0) := (blk_cell BK291.out 1).trans rfl
                              have hcz18_2 : w15.cell? ⟨gb291, 2, none⟩ = some (.string (⟨#[]⟩ : ByteArray)) := (blk_cell BK291.out 2).trans rfl
                              have hfz18_0 := blk_frozen BK291.out 0
                              have hfz18_1 := blk_frozen BK291.out 1
                              have hfz18_2 := blk_frozen BK291.out 2
                              go_wp2
                              go_meet
                              case rel => exact ⟨_, (decide (((rd_T39 ((rd_T36 l0 x12_1).f8) x13_3).f1) > 0)), (by first | rfl | (simp; done) | (simp [*]; done)), H', ⟨by have := HK1.out; have := HJ5.out; have := HK3.out; first | omega | exact Nat.le_refl _⟩, ⟨by (with_reducible repeat (first | refine blk_drewN ?_ _ | refine blk_drew ?_ | refine blk_alloc ?_ _)); refine blk_put (cs := #[.int .i64 ((rd_T39 ((rd_T36 l0 x12_1).f8) x13_3).f0), .int .i64 ((rd_T39 ((rd_T36 l0 x12_1).f8) x13_3).f1), .string (⟨#[]⟩ : ByteArray)]) ?_ 2 _ rfl; (with_reducible repeat (first | refine blk_drewN ?_ _ | refine blk_drew ?_ | refine blk_alloc ?_ _)); refine blk_put (cs := #[.int .i64 ((rd_T39 ((rd_T36 l0 x12_1).f8) x13_3).f0), .int .i64 0, .string (⟨#[]⟩ : ByteArray)]) ?_ 1 _ rfl; (with_reducible repeat (first | refine blk_drewN ?_ _ | refine blk_drew ?_ | refine blk_alloc ?_ _)); refine blk_put (cs := #[.int .i64 0, .int .i64 0, .string (⟨#[]⟩ : ByteArray)]) ?_ 0 _ rfl; (with_reducible repeat (first | refine blk_drewN ?_ _ | refine blk_drew ?_ | refine blk_alloc ?_ _)); exact BK291.out⟩, ⟨bE⟩⟩
                            · rw [if_neg c17] at H
                              have c17b0 : (((rd_T39 ((rd_T36 l0 x12_1).f8) x13_3).f0) == a1) = false := beq_eq_false_iff_ne.mpr c17
                              have c17b1 : (((rd_T39 ((rd_T36 l0 x12_1).f8) x13_3).f0) != a1) = true := bne_iff_ne.mpr c17
                              (first | rw [c17b0] | (simp only [i64_w, i32_w]; rw [c17b0]) | skip)
                              have H' := Aside0.mk H
                              clear H
                              have hcz19_0 : w15.cell? ⟨gb291, 0, none⟩ = some (.int .i64 0) := (blk_cell BK291.out 0).trans rfl
                              have hcz19_1 : w15.cell? ⟨gb291, 1, none⟩ = some (.int .i64 0) := (blk_cell BK291.out 1).trans rfl
                              have hcz19_2 : w15.cell? ⟨gb291, 2, none⟩ = some (.string (⟨#[]⟩ : ByteArray)) := (blk_cell BK291.out 2).trans rfl
                              have hfz19_0 := blk_frozen BK291.out 0
                              have hfz19_1 := blk_frozen BK291.out 1
                              have hfz19_2 := blk_frozen BK291.out 2
                              go_wp2
                              go_meet
                              case rel => exact ⟨_, (false), (by first | rfl | (simp; done) | (simp [*]; done)), H', ⟨by have := HK1.out; have := HJ5.out; have := HK3.out; first | omega | exact Nat.le_refl _⟩, ⟨by (with_reducible repeat (first | refine blk_drewN ?_ _ | refine blk_drew ?_ | refine blk_alloc ?_ _)); refine blk_put (cs := #[.int .i64 ((rd_T39 ((rd_T36 l0 x12_1).f8) x13_3).f0), .int .i64 ((rd_T39 ((rd_T36 l0 x12_1).f8) x13_3).f1), .string (⟨#[]⟩ : ByteArray)]) ?_ 2 _ rfl; (with_reducible repeat (first | refine blk_drewN ?_ _ | refine blk_drew ?_ | refine blk_alloc ?_ _)); refine blk_put (cs := #[.int .i64 ((rd_T39 ((rd_T36 l0 x12_1).f8) x13_3).f0), .int .i64 0, .string (⟨#[]⟩ : ByteArray)]) ?_ 1 _ rfl; (with_reducible repeat (first | refine blk_drewN ?_ _ | refine blk_drew ?_ | refine blk_alloc ?_ _)); refine blk_put (cs := #[.int .i64 0, .int .i64 0, .string (⟨#[]⟩ : ByteArray)]) ?_ 0 _ rfl; (with_reducible repeat (first | refine blk_drewN ?_ _ | refine blk_drew ?_ | refine blk_alloc ?_ _)); exact BK291.out⟩, ⟨bE⟩⟩
                          case rest =>
                            clear HC14
                            try clear c1
                            try clear c2
                            try clear p2
                            try clear q2
                            try clear hx2
                            try clear c5
                            try clear c5b0
                            try clear p6
                            try clear c7
                            try clear c7b0
                            try clear c8
                            try clear c8b0
                            try clear c9
                            try clear c10
                            try clear c10b0
                            try clear c11
                            try clear c11b0
                            try clear c12
                            try clear c12b0
                            try clear c13
                            try clear c13b0
                            try clear c15
                            try clear c17
                            try clear c17b0
                            try clear c17b1
                            try clear hcz16_0
                            try clear hcz16_1
                            try clear hcz16_2
                            try clear hcz18_0
                            try clear hcz18_1
                            try clear hcz18_2
                            try clear hcz19_0
                            try clear hcz19_1
                            try clear hcz19_2
                            try clear hfz16_0
                            try clear hfz16_1
                            try clear hfz16_2
                            try clear hfz18_0
                            try clear hfz18_1
                            try clear hfz18_2
                            try clear hfz19_0
                            try clear hfz19_1
                            try clear hfz19_2
                            try clear hx286_0
                            try clear hx286_1
                            try clear hx286_2
                            try clear hx286_3
                            try clear hx286_4
                            try clear hx286_5
                            try clear hx286_6
                            try clear hx286_7
                            try clear hx286_8
                            try clear hx286_9
                            try clear hx287_0
                            try clear hx287_1
                            try clear hx287_2
                            try clear hx287_3
                            try clear hx287_4
                            try clear hx287_5
                            try clear hx287_6
                            try clear hx287_7
                            try clear hx287_8
                            try clear hx287_9
                            try clear hx288_0
                            try clear hx288_1
                            try clear hx288_2
                            try clear hx288_3
                            try clear hx288_4
                            try clear hx288_5
                            try clear hx288_6
                            try clear hx288_7
                            try clear hx288_8
                            try clear hx288_9
                            try clear hx289_0
                            try clear hx289_1
                            try clear hx289_2
                            try clear hx289_3
                            try clear hx289_4
                            try clear hx289_5
                            try clear hx289_6
                            try clear hx289_7
                            try clear hx289_8
                            try clear hx289_9
                            try clear hx290_0
                            try clear hx290_1
                            try clear hx290_2
                            try clear p2
                            try clear p286
                            try clear p287
                            try clear p288
                            try clear p289
                            try clear p290
                            try clear p6
                            try clear q2
                            try clear q286
                            try clear q287
                            try clear q288
                            try clear q289
                            try clear q290
                            obtain ⟨kq, x63_13, rfl, HA, HJ13, BK291, HB⟩ := hcut
                            cases kq with
                            | zero => exact absurd HA.out (by simp [corebankref21_Turnover.j3])
                            | succ kj13 =>
                              have H := HA.out
                              clear HA
                              simp only [corebankref21_Turnover.j3] at H
                              by_cases c20 : x63_13 = true
                              · subst c20
                                have H1 : (if ((rd_T39 ((rd_T36 l0 x12_1).f8) x13_3).f0) = a1 then (if ((rd_T39 ((rd_T36 l0 x12_1).f8) x13_3).f1) < 0 then (corebankref21_Turnover.l1 kj13 l0 a1 a2 a3 (wrap64 (x10_3 + ((rd_T39 ((rd_T36 l0 x12_1).f8) x13_3).f1))) (wrap64 (x11_3 - ((rd_T39 ((rd_T36 l0 x12_1).f8) x13_3).f1))) x12_1 (wrap64 (x13_3 + 1))) else (corebankref21_Turnover.l1 kj13 l0 a1 a2 a3 (wrap64 (x10_3 + ((rd_T39 ((rd_T36 l0 x12_1).f8) x13_3).f1))) x11_3 x12_1 (wrap64 (x13_3 + 1)))) else (corebankref21_Turnover.l1 kj13 l0 a1 a2 a3 (wrap64 (x10_3 + ((rd_T39 ((rd_T36 l0 x12_1).f8) x13_3).f1))) x11_3 x12_1 (wrap64 (x13_3 + 1)))) = some (r1, r2) := by rw [if_pos rfl] at H; exact H
                                clear H
                                have H := H1
                                clear H1
                                by_cases c21 : ((rd_T39 ((rd_T36 l0 x12_1).f8) x13_3).f0) = a1
                                · rw [if_pos c21] at H
                                  have c21b0 : (((rd_T39 ((rd_T36 l0 x12_1).f8) x13_3).f0) == a1) = true := beq_iff_eq.mpr c21
                                  have c21b1 : (((rd_T39 ((rd_T36 l0 x12_1).f8) x13_3).f0) != a1) = false := bne_eq_false_iff_eq.mpr c21
                                  clear c21
                                  by_cases c22 : ((rd_T39 ((rd_T36 l0 x12_1).f8) x13_3).f1) < 0
                                  · rw [if_pos c22] at H
                                    have c22b0 : decide (((rd_T39 ((rd_T36 l0 x12_1).f8) x13_3).f1) < 0) = true := decide_eq_true c22
                                    clear c22
                                    have H' := Aside0.mk H
                                    clear H
                                    have hcz23_0 : wc.cell? ⟨gb291, 0, none⟩ = some (.int .i64 ((rd_T39 ((rd_T36 l0 x12_1).f8) x13_3).f0)) := (blk_cell BK291.out 0).trans rfl
                                    have hcz23_1 : wc.cell? ⟨gb291, 1, none⟩ = some (.int .i64 ((rd_T39 ((rd_T36 l0 x12_1).f8) x13_3).f1)) := (blk_cell BK291.out 1).trans rfl
                                    have hcz23_2 : wc.cell? ⟨gb291, 2, none⟩ = some (.string ((rd_T39 ((rd_T36 l0 x12_1).f8) x13_3).f2)) := (blk_cell BK291.out 2).trans rfl
                                    have hfz23_0 := blk_frozen BK291.out 0
                                    have hfz23_1 := blk_frozen BK291.out 1
                                    have hfz23_2 := blk_frozen BK291.out 2
                                    go_wp2
                                    go_roundg kj13
                                    case measure => have := HK1.out; have := HJ5.out; have := HK3.out; have := HJ13.out; omega
                                    case rel => exact ⟨(wrap64 (x10_3 + ((rd_T39 ((rd_T36 l0 x12_1).f8) x13_3).f1))), (wrap64 (x11_3 - ((rd_T39 ((rd_T36 l0 x12_1).f8) x13_3).f1))), (wrap64 (x13_3 + 1)), (by first | rfl | (simp; done) | (simp [*]; done)), (by first | rfl | (simp; done) | (simp [*]; done)), (by first | rfl | (simp; done) | (simp [*]; done)), H', ⟨by have := HK1.out; have := HJ5.out; have := HK3.out; have := HJ13.out; omega⟩, ⟨bE⟩⟩
                                  · rw [if_neg c22] at H
                                    have c22b0 : decide (((rd_T39 ((rd_T36 l0 x12_1).f8) x13_3).f1) < 0) = false := decide_eq_false c22
                                    clear c22
                                    have H' := Aside0.mk H
                                    clear H
                                    have hcz24_0 : wc.cell? ⟨gb291, 0, none⟩ = some (.int .i64 ((rd_T39 ((rd_T36 l0 x12_1).f8) x13_3).f0)) := (blk_cell BK291.out 0).trans rfl
                                    have hcz24_1 : wc.cell? ⟨gb291, 1, none⟩ = some (.int .i64 ((rd_T39 ((rd_T36 l0 x12_1).f8) x13_3).f1)) := (blk_cell BK291.out 1).trans rfl
                                    have hcz24_2 : wc.cell? ⟨gb291, 2, none⟩ = some (.string ((rd_T39 ((rd_T36 l0 x12_1).f8) x13_3).f2)) := (blk_cell BK291.out 2).trans rfl
                                    have hfz24_0 := blk_frozen BK291.out 0
                                    have hfz24_1 := blk_frozen BK291.out 1
                                    have hfz24_2 := blk_frozen BK291.out 2
                                    go_wp2
                                    go_roundg kj13
                                    case measure => have := HK1.out; have := HJ5.out; have := HK3.out; have := HJ13.out; omega
                                    case rel => exact ⟨(wrap64 (x10_3 + ((rd_T39 ((rd_T36 l0 x12_1).f8) x13_3).f1))), (x11_3), (wrap64 (x13_3 + 1)), (by first | rfl | (simp; done) | (simp [*]; done)), (by first | rfl | (simp; done) | (simp [*]; done)), (by first | rfl | (simp; done) | (simp [*]; done)), H', ⟨by have := HK1.out; have := HJ5.out; have := HK3.out; have := HJ13.out; omega⟩, ⟨bE⟩⟩
                                · rw [if_neg c21] at H
                                  have c21b0 : (((rd_T39 ((rd_T36 l0 x12_1).f8) x13_3).f0) == a1) = false := beq_eq_false_iff_ne.mpr c21
                                  have c21b1 : (((rd_T39 ((rd_T36 l0 x12_1).f8) x13_3).f0) != a1) = true := bne_iff_ne.mpr c21
                                  have H' := Aside0.mk H
                                  clear H
                                  have hcz25_0 : wc.cell? ⟨gb291, 0, none⟩ = some (.int .i64 ((rd_T39 ((rd_T36 l0 x12_1).f8) x13_3).f0)) := (blk_cell BK291.out 0).trans rfl
                                  have hcz25_1 : wc.cell? ⟨gb291, 1, none⟩ = some (.int .i64 ((rd_T39 ((rd_T36 l0 x12_1).f8) x13_3).f1)) := (blk_cell BK291.out 1).trans rfl
                                  have hcz25_2 : wc.cell? ⟨gb291, 2, none⟩ = some (.string ((rd_T39 ((rd_T36 l0 x12_1).f8) x13_3).f2)) := (blk_cell BK291.out 2).trans rfl
                                  have hfz25_0 := blk_frozen BK291.out 0
                                  have hfz25_1 := blk_frozen BK291.out 1
                                  have hfz25_2 := blk_frozen BK291.out 2
                                  go_wp2
                                  go_roundg kj13
                                  case measure => have := HK1.out; have := HJ5.out; have := HK3.out; have := HJ13.out; omega
                                  case rel => exact ⟨(wrap64 (x10_3 + ((rd_T39 ((rd_T36 l0 x12_1).f8) x13_3).f1))), (x11_3), (wrap64 (x13_3 + 1)), (by first | rfl | (simp; done) | (simp [*]; done)), (by first | rfl | (simp; done) | (simp [*]; done)), (by first | rfl | (simp; done) | (simp [*]; done)), H', ⟨by have := HK1.out; have := HJ5.out; have := HK3.out; have := HJ13.out; omega⟩, ⟨bE⟩⟩
                              · replace c20 := Bool.eq_false_iff.mpr c20
                                subst c20
                                have H1 : (if ((rd_T39 ((rd_T36 l0 x12_1).f8) x13_3).f0) = a1 then (if ((rd_T39 ((rd_T36 l0 x12_1).f8) x13_3).f1) < 0 then (corebankref21_Turnover.l1 kj13 l0 a1 a2 a3 x10_3 (wrap64 (x11_3 - ((rd_T39 ((rd_T36 l0 x12_1).f8) x13_3).f1))) x12_1 (wrap64 (x13_3 + 1))) else (corebankref21_Turnover.l1 kj13 l0 a1 a2 a3 x10_3 x11_3 x12_1 (wrap64 (x13_3 + 1)))) else (corebankref21_Turnover.l1 kj13 l0 a1 a2 a3 x10_3 x11_3 x12_1 (wrap64 (x13_3 + 1)))) = some (r1, r2) := by rw [if_neg (show ¬ (false = true) by decide)] at H; exact H
                                clear H
                                have H := H1
                                clear H1
                                by_cases c26 : ((rd_T39 ((rd_T36 l0 x12_1).f8) x13_3).f0) = a1
                                · rw [if_pos c26] at H
                                  have c26b0 : (((rd_T39 ((rd_T36 l0 x12_1).f8) x13_3).f0) == a1) = true := beq_iff_eq.mpr c26
                                  have c26b1 : (((rd_T39 ((rd_T36 l0 x12_1).f8) x13_3).f0) != a1) = false := bne_eq_false_iff_eq.mpr c26
                                  clear c26
                                  by_cases c27 : ((rd_T39 ((rd_T36 l0 x12_1).f8) x13_3).f1) < 0
                                  · rw [if_pos c27] at H
                                    have c27b0 : decide (((rd_T39 ((rd_T36 l0 x12_1).f8) x13_3).f1) < 0) = true := decide_eq_true c27
                                    clear c27
                                    have H' := Aside0.mk H
                                    clear H
                                    have hcz28_0 : wc.cell? ⟨gb291, 0, none⟩ = some (.int .i64 ((rd_T39 ((rd_T36 l0 x12_1).f8) x13_3).f0)) := (blk_cell BK291.out 0).trans rfl
                                    have hcz28_1 : wc.cell? ⟨gb291, 1, none⟩ = some (.int .i64 ((rd_T39 ((rd_T36 l0 x12_1).f8) x13_3).f1)) := (blk_cell BK291.out 1).trans rfl
                                    have hcz28_2 : wc.cell? ⟨gb291, 2, none⟩ = some (.string ((rd_T39 ((rd_T36 l0 x12_1).f8) x13_3).f2)) := (blk_cell BK291.out 2).trans rfl
                                    have hfz28_0 := blk_frozen BK291.out 0
                                    have hfz28_1 := blk_frozen BK291.out 1
                                    have hfz28_2 := blk_frozen BK291.out 2
                                    go_wp2
                                    go_roundg kj13
                                    case measure => have := HK1.out; have := HJ5.out; have := HK3.out; have := HJ13.out; omega
                                    case rel => exact ⟨(x10_3), (wrap64 (x11_3 - ((rd_T39 ((rd_T36 l0 x12_1).f8) x13_3).f1))), (wrap64 (x13_3 + 1)), (by first | rfl | (simp; done) | (simp [*]; done)), (by first | rfl | (simp; done) | (simp [*]; done)), (by first | rfl | (simp; done) | (simp [*]; done)), H', ⟨by have := HK1.out; have := HJ5.out; have := HK3.out; have := HJ13.out; omega⟩, ⟨bE⟩⟩
                                  · rw [if_neg c27] at H
                                    have c27b0 : decide (((rd_T39 ((rd_T36 l0 x12_1).f8) x13_3).f1) < 0) = false := decide_eq_false c27
                                    clear c27
                                    have H' := Aside0.mk H
                                    clear H
                                    have hcz29_0 : wc.cell? ⟨gb291, 0, none⟩ = some (.int .i64 ((rd_T39 ((rd_T36 l0 x12_1).f8) x13_3).f0)) := (blk_cell BK291.out 0).trans rfl
                                    have hcz29_1 : wc.cell? ⟨gb291, 1, none⟩ = some (.int .i64 ((rd_T39 ((rd_T36 l0 x12_1).f8) x13_3).f1)) := (blk_cell BK291.out 1).trans rfl
                                    have hcz29_2 : wc.cell? ⟨gb291, 2, none⟩ = some (.string ((rd_T39 ((rd_T36 l0 x12_1).f8) x13_3).f2)) := (blk_cell BK291.out 2).trans rfl
                                    have hfz29_0 := blk_frozen BK291.out 0
                                    have hfz29_1 := blk_frozen BK291.out 1
                                    have hfz29_2 := blk_frozen BK291.out 2
                                    go_wp2
                                    go_roundg kj13
                                    case measure => have := HK1.out; have := HJ5.out; have := HK3.out; have := HJ13.out; omega
                                    case rel => exact ⟨(x10_3), (x11_3), (wrap64 (x13_3 + 1)), (by first | rfl | (simp; done) | (simp [*]; done)), (by first | rfl | (simp; done) | (simp [*]; done)), (by first | rfl | (simp; done) | (simp [*]; done)), H', ⟨by have := HK1.out; have := HJ5.out; have := HK3.out; have := HJ13.out; omega⟩, ⟨bE⟩⟩
                                · rw [if_neg c26] at H
                                  have c26b0 : (((rd_T39 ((rd_T36 l0 x12_1).f8) x13_3).f0) == a1) = false := beq_eq_false_iff_ne.mpr c26
                                  have c26b1 : (((rd_T39 ((rd_T36 l0 x12_1).f8) x13_3).f0) != a1) = true := bne_iff_ne.mpr c26
                                  have H' := Aside0.mk H
                                  clear H
                                  have hcz30_0 : wc.cell? ⟨gb291, 0, none⟩ = some (.int .i64 ((rd_T39 ((rd_T36 l0 x12_1).f8) x13_3).f0)) := (blk_cell BK291.out 0).trans rfl
                                  have hcz30_1 : wc.cell? ⟨gb291, 1, none⟩ = some (.int .i64 ((rd_T39 ((rd_T36 l0 x12_1).f8) x13_3).f1)) := (blk_cell BK291.out 1).trans rfl
                                  have hcz30_2 : wc.cell? ⟨gb291, 2, none⟩ = some (.string ((rd_T39 ((rd_T36 l0 x12_1).f8) x13_3).f2)) := (blk_cell BK291.out 2).trans rfl
                                  have hfz30_0 := blk_frozen BK291.out 0
                                  have hfz30_1 := blk_frozen BK291.out 1
                                  have hfz30_2 := blk_frozen BK291.out 2
                                  go_wp2
                                  go_roundg kj13
                                  case measure => have := HK1.out; have := HJ5.out; have := HK3.out; have := HJ13.out; omega
                                  case rel => exact ⟨(x10_3), (x11_3), (wrap64 (x13_3 + 1)), (by first | rfl | (simp; done) | (simp [*]; done)), (by first | rfl | (simp; done) | (simp [*]; done)), (by first | rfl | (simp; done) | (simp [*]; done)), H', ⟨by have := HK1.out; have := HJ5.out; have := HK3.out; have := HJ13.out; omega⟩, ⟨bE⟩⟩
                        · rw [if_neg c13] at H
                          exact absurd H (by simp)
                      · rw [if_neg c12] at H
                        have c12b0 : decide (x13_3 < (((rd_T36 l0 x12_1).f8).length : Int)) = false := decide_eq_false c12
                        clear c12
                        have H' := Aside0.mk H
                        clear H
                        have p288 : 0 ≤ (x12_1 : Int) := of_decide_eq_true (by first | (with_reducible assumption) | assumption)
                        have q288 : x12_1 < (l0.length : Int) := of_decide_eq_true (by first | (with_reducible assumption) | assumption)
                        obtain ⟨ad288, A288_8, c288_8, e288, hx288_0, hx288_1, hx288_2, hx288_3, hx288_4, hx288_5, hx288_6, hx288_7, hx288_8, hx288_9, hl288_8, hi288_8⟩ := at_T36 HR0.out x12_1 p288 q288
                        cases e288
                        replace hx288_0 := (HB.out.cell (World.block_lt_of_cell? w _ hx288_0)).trans hx288_0
                        replace hx288_1 := (HB.out.cell (World.block_lt_of_cell? w _ hx288_1)).trans hx288_1
                        replace hx288_2 := (HB.out.cell (World.block_lt_of_cell? w _ hx288_2)).trans hx288_2
                        replace hx288_3 := (HB.out.cell (World.block_lt_of_cell? w _ hx288_3)).trans hx288_3
                        replace hx288_4 := (HB.out.cell (World.block_lt_of_cell? w _ hx288_4)).trans hx288_4
                        replace hx288_5 := (HB.out.cell (World.block_lt_of_cell? w _ hx288_5)).trans hx288_5
                        replace hx288_6 := (HB.out.cell (World.block_lt_of_cell? w _ hx288_6)).trans hx288_6
                        replace hx288_7 := (HB.out.cell (World.block_lt_of_cell? w _ hx288_7)).trans hx288_7
                        replace hx288_8 := (HB.out.cell (World.block_lt_of_cell? w _ hx288_8)).trans hx288_8
                        replace hx288_9 := (HB.out.cell (World.block_lt_of_cell? w _ hx288_9)).trans hx288_9
                        have HR288_8 := Aside0.mk hi288_8
                        have HC288_8 := Aside0.mk hl288_8
                        clear hi288_8 hl288_8
                        replace p288 := eq_true p288
                        replace q288 := eq_true q288
                        go_wp2
                        go_roundg k3
                        case measure => have := HK1.out; have := HJ5.out; have := HK3.out; omega
                        case rel => exact ⟨(x10_3), (x11_3), (wrap64 (x12_1 + 1)), (by first | rfl | (simp; done) | (simp [*]; done)), (by first | rfl | (simp; done) | (simp [*]; done)), (by first | rfl | (simp; done) | (simp [*]; done)), H', ⟨by have := HK1.out; have := HJ5.out; have := HK3.out; omega⟩, ⟨bE⟩⟩
                    · rw [if_neg c11] at H
                      exact absurd H (by simp)
                  · rw [if_neg c10] at H
                    exact absurd H (by simp)
      · rw [if_neg c5] at H
        have c5b0 : decide (x12_1 < (l0.length : Int)) = false := decide_eq_false c5
        clear c5
        simp only [Option.some.injEq, Prod.mk.injEq] at H
        obtain ⟨rfl, rfl⟩ := H
        go_wp2
        go_ret2
        exact ⟨by first | rfl | (simp [errW_none, errW_some] <;> rfl) | (simp [*, errW_none, errW_some] <;> rfl), bE⟩

end Go.Proofs.Ytnilmhhidmdlnaa.PA
