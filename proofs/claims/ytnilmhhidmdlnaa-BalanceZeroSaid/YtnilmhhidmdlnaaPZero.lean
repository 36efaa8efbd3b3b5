/- Contracts of the Go functions and their plain Lean functions, written by a program of this session out of the translation. -/
import Derived.Test.YtnilmhhidmdlnaaPAx0
import Derived.Test.YtnilmhhidmdlnaaPAx2
import Derived.Test.YtnilmhhidmdlnaaPAx8
import Derived.Test.YtnilmhhidmdlnaaInfo
namespace Go.Proofs.Ytnilmhhidmdlnaa.PA
open Go.RowKit Go.Proofs.YtnilmhhidmdlnaaW.PrintWords Go.Proofs.YtnilmhhidmdlnaaW.PrintLast Go.Proofs.YtnilmhhidmdlnaaW.PrintMore
attribute [local go_sem] max2_int min2_int max_two min_two max_three min_three max_four min_four   -- for this text's walks alone
set_option linter.unusedVariables false
set_option linter.unusedSimpArgs false

/-! ### corebanklaw21_BalanceZero: function 4 -/
mutual
def corebanklaw21_BalanceZero.j0 : Nat → List (S36) → Bool → Option (Bool)
  | 0, _, _ => none
  | k + 1, x0, x19 => if x19 = true then ((corebanklaw21_lives.f k).bind fun t303 => (some t303)) else ((some (([] : List (S36)) : List (S36))).bind fun y304 => (if y304.length + x0.length < 1256584717458 then (corebanklaw21_BalanceZero.l0 k x0 (y304 ++ x0) 0) else (none)))
def corebanklaw21_BalanceZero.l0 : Nat → List (S36) → List (S36) → Int → Option (Bool)
  | 0, _, _, _ => none
  | k + 1, x0, x3, x4 => if x4 < (x0.length : Int) then (corebanklaw21_BalanceZero.l1 k x0 x3 x4 ([] : List (S39)) 0) else ((balance_Trial.f x3).bind fun t320 => (if (t320.length : Int) = 0 then ((balance_Trial.f x0).bind fun t323 => (corebanklaw21_BalanceZero.l2 k x0 t323 0)) else (none)))
def corebanklaw21_BalanceZero.l1 : Nat → List (S36) → List (S36) → Int → List (S39) → Int → Option (Bool)
  | 0, _, _, _, _, _ => none
  | k + 1, x0, x3, x4, x5, x6 => if 0 ≤ x4 then (if x4 < (x0.length : Int) then (if x6 < (((rd_T36 x0 x4).f8).length : Int) then (if 0 ≤ x6 then (if x5.length < 4398046511104 then (corebanklaw21_BalanceZero.l1 k x0 x3 x4 (x5 ++ [(⟨(rd_T39 ((rd_T36 x0 x4).f8) x6).f0, wrap64 (-((rd_T39 ((rd_T36 x0 x4).f8) x6).f1)), (rd_T39 ((rd_T36 x0 x4).f8) x6).f2⟩ : S39)]) (wrap64 (x6 + 1))) else (none)) else (none)) else (if x3.length < 1256584717458 then (corebanklaw21_BalanceZero.l0 k x0 (x3 ++ [(⟨0, 0, 0, 0, 0, 0, (⟨#[]⟩ : ByteArray), (⟨#[]⟩ : ByteArray), x5, 0⟩ : S36)]) (wrap64 (x4 + 1))) else (none))) else (none)) else (none)
def corebanklaw21_BalanceZero.l2 : Nat → List (S36) → List (S39) → Int → Option (Bool)
  | 0, _, _, _ => none
  | k + 1, x0, x8, x9 => if x9 < (x8.length : Int) then (corebanklaw21_BalanceZero.l3 k x0 x8 x9 0 0) else ((corebanklaw21_lives.f k).bind fun t326 => (some t326))
def corebanklaw21_BalanceZero.l3 : Nat → List (S36) → List (S39) → Int → Int → Int → Option (Bool)
  | 0, _, _, _, _, _ => none
  | k + 1, x0, x8, x9, x10, x11 => if x11 < (x8.length : Int) then (if 0 ≤ x11 then (if 0 ≤ x9 then (if x9 < (x8.length : Int) then (if ((rd_T39 x8 x11).f0) = ((rd_T39 x8 x9).f0) then (corebanklaw21_BalanceZero.l3 k x0 x8 x9 (wrap64 (x10 - ((rd_T39 x8 x11).f1))) (wrap64 (x11 + 1))) else (corebanklaw21_BalanceZero.l3 k x0 x8 x9 x10 (wrap64 (x11 + 1)))) else (none)) else (none)) else (none)) else (if 0 ≤ x9 then (if x9 < (x8.length : Int) then (if ((rd_T39 x8 x9).f1) = 0 then (corebanklaw21_BalanceZero.j5 k x0 x8 x9 true) else ((balance_Of.f x0 ((rd_T39 x8 x9).f0)).bind fun t332 => (corebanklaw21_BalanceZero.j5 k x0 x8 x9 (x10 != t332)))) else (none)) else (none))
def corebanklaw21_BalanceZero.j5 : Nat → List (S36) → List (S39) → Int → Bool → Option (Bool)
  | 0, _, _, _, _ => none
  | k + 1, x0, x8, x9, x116 => if x116 = true then (none) else (if x9 > 0 then (if 0 ≤ x9 then (if x9 < (x8.length : Int) then (if 0 ≤ (wrap64 (x9 - 1)) then (if (wrap64 (x9 - 1)) < (x8.length : Int) then (if ((rd_T39 x8 x9).f0) < ((rd_T39 x8 (wrap64 (x9 - 1))).f0) then (none) else (if ((rd_T39 x8 x9).f0) = ((rd_T39 x8 (wrap64 (x9 - 1))).f0) then (if ((Op.bytesLess (((rd_T39 x8 (wrap64 (x9 - 1))).f2).toList) (((rd_T39 x8 x9).f2).toList)) = true) then (corebanklaw21_BalanceZero.l2 k x0 x8 (wrap64 (x9 + 1))) else (none)) else (corebanklaw21_BalanceZero.l2 k x0 x8 (wrap64 (x9 + 1))))) else (none)) else (none)) else (none)) else (none)) else (corebanklaw21_BalanceZero.l2 k x0 x8 (wrap64 (x9 + 1))))
end
def corebanklaw21_BalanceZero.f (k : Nat) (l0 : List (S36)) : Option (Bool) := if (l0.length : Int) > 50 then (corebanklaw21_BalanceZero.j0 k l0 true) else ((corebanklaw21_few.f k l0).bind fun t302 => (corebanklaw21_BalanceZero.j0 k l0 (!t302)))
theorem corebanklaw21_BalanceZero.mono_l : ∀ k, (∀ y0 y1, LeO (corebanklaw21_BalanceZero.j0 k y0 y1) (corebanklaw21_BalanceZero.j0 (k + 1) y0 y1)) ∧ (∀ y0 y1 y2, LeO (corebanklaw21_BalanceZero.l0 k y0 y1 y2) (corebanklaw21_BalanceZero.l0 (k + 1) y0 y1 y2)) ∧ (∀ y0 y1 y2 y3 y4, LeO (corebanklaw21_BalanceZero.l1 k y0 y1 y2 y3 y4) (corebanklaw21_BalanceZero.l1 (k + 1) y0 y1 y2 y3 y4)) ∧ (∀ y0 y1 y2, LeO (corebanklaw21_BalanceZero.l2 k y0 y1 y2) (corebanklaw21_BalanceZero.l2 (k + 1) y0 y1 y2)) ∧ (∀ y0 y1 y2 y3 y4, LeO (corebanklaw21_BalanceZero.l3 k y0 y1 y2 y3 y4) (corebanklaw21_BalanceZero.l3 (k + 1) y0 y1 y2 y3 y4)) ∧ (∀ y0 y1 y2 y3, LeO (corebanklaw21_BalanceZero.j5 k y0 y1 y2 y3) (corebanklaw21_BalanceZero.j5 (k + 1) y0 y1 y2 y3))
  | 0 => ⟨fun _ _ r h => by simp [corebanklaw21_BalanceZero.j0] at h, fun _ _ _ r h => by simp [corebanklaw21_BalanceZero.l0] at h, fun _ _ _ _ _ r h => by simp [corebanklaw21_BalanceZero.l1] at h, fun _ _ _ r h => by simp [corebanklaw21_BalanceZero.l2] at h, fun _ _ _ _ _ r h => by simp [corebanklaw21_BalanceZero.l3] at h, fun _ _ _ _ r h => by simp [corebanklaw21_BalanceZero.j5] at h⟩
  | k + 1 => by
    obtain ⟨ih0, ih1, ih2, ih3, ih4, ih5⟩ := corebanklaw21_BalanceZero.mono_l k
    refine ⟨?_, ?_, ?_, ?_, ?_, ?_⟩
    · intro y0 y1
      unfold corebanklaw21_BalanceZero.j0
      repeat' first
      | (with_reducible exact ih0 _ _)
      | (with_reducible exact ih1 _ _ _)
      | (with_reducible exact ih2 _ _ _ _ _)
      | (with_reducible exact ih3 _ _ _)
      | (with_reducible exact ih4 _ _ _ _ _)
      | (with_reducible exact ih5 _ _ _ _)
      | (with_reducible exact corebanklaw21_few.mono _ _)
      | (with_reducible exact corebanklaw21_lives.mono _)
      | (with_reducible exact LeO.refl _)
      | (with_reducible exact LeO.none _)
      | (with_reducible refine LeO.ite ?_ ?_)
      | (with_reducible refine LeO.bind ?_ (fun _ => ?_))
      | exact ih0 _ _
      | exact ih1 _ _ _
      | exact ih2 _ _ _ _ _
      | exact ih3 _ _ _
      | exact ih4 _ _ _ _ _
      | exact ih5 _ _ _ _
      | exact corebanklaw21_few.mono _ _
      | exact corebanklaw21_lives.mono _
      | exact LeO.none _
      | refine LeO.ite ?_ ?_
      | refine LeO.bind ?_ (fun _ => ?_)
    · intro y0 y1 y2
      unfold corebanklaw21_BalanceZero.l0
      repeat' first
      | (with_reducible exact ih0 _ _)
      | (with_reducible exact ih1 _ _ _)
      | (with_reducible exact ih2 _ _ _ _ _)
      | (with_reducible exact ih3 _ _ _)
      | (with_reducible exact ih4 _ _ _ _ _)
      | (with_reducible exact ih5 _ _ _ _)
      | (with_reducible exact corebanklaw21_few.mono _ _)
      | (with_reducible exact corebanklaw21_lives.mono _)
      | (with_reducible exact LeO.refl _)
      | (with_reducible exact LeO.none _)
      | (with_reducible refine LeO.ite ?_ ?_)
      | (with_reducible refine LeO.bind ?_ (fun _ => ?_))
      | exact ih0 _ _
      | exact ih1 _ _ _
      | exact ih2 _ _ _ _ _
      | exact ih3 _ _ _
      | exact ih4 _ _ _ _ _
      | exact ih5 _ _ _ _
      | exact corebanklaw21_few.mono _ _
      | exact corebanklaw21_lives.mono _
      | exact LeO.none _
      | refine LeO.ite ?_ ?_
      | refine LeO.bind ?_ (fun _ => ?_)
    · intro y0 y1 y2 y3 y4
      unfold corebanklaw21_BalanceZero.l1
      repeat' first
      | (with_reducible exact ih0 _ _)
      | (with_reducible exact ih1 _ _ _)
      | (with_reducible exact ih2 _ _ _ _ _)
      | (with_reducible exact ih3 _ _ _)
      | (with_reducible exact ih4 _ _ _ _ _)
      | (with_reducible exact ih5 _ _ _ _)
      | (with_reducible exact corebanklaw21_few.mono _ _)
      | (with_reducible exact corebanklaw21_lives.mono _)
      | (with_reducible exact LeO.refl _)
      | (with_reducible exact LeO.none _)
      | (with_reducible refine LeO.ite ?_ ?_)
      | (with_reducible refine LeO.bind ?_ (fun _ => ?_))
      | exact ih0 _ _
      | exact ih1 _ _ _
      | exact ih2 _ _ _ _ _
      | exact ih3 _ _ _
      | exact ih4 _ _ _ _ _
      | exact ih5 _ _ _ _
      | exact corebanklaw21_few.mono _ _
      | exact corebanklaw21_lives.mono _
      | exact LeO.none _
      | refine LeO.ite ?_ ?_
      | refine LeO.bind ?_ (fun _ => ?_)
    · intro y0 y1 y2
      unfold corebanklaw21_BalanceZero.l2
      repeat' first
      | (with_reducible exact ih0 _ _)
      | (with_reducible exact ih1 _ _ _)
      | (with_reducible exact ih2 _ _ _ _ _)
      | (with_reducible exact ih3 _ _ _)
      | (with_reducible exact ih4 _ _ _ _ _)
      | (with_reducible exact ih5 _ _ _ _)
      | (with_reducible exact corebanklaw21_few.mono _ _)
      | (with_reducible exact corebanklaw21_lives.mono _)
      | (with_reducible exact LeO.refl _)
      | (with_reducible exact LeO.none _)
      | (with_reducible refine LeO.ite ?_ ?_)
      | (with_reducible refine LeO.bind ?_ (fun _ => ?_))
      | exact ih0 _ _
      | exact ih1 _ _ _
      | exact ih2 _ _ _ _ _
      | exact ih3 _ _ _
      | exact ih4 _ _ _ _ _
      | exact ih5 _ _ _ _
      | exact corebanklaw21_few.mono _ _
      | exact corebanklaw21_lives.mono _
      | exact LeO.none _
      | refine LeO.ite ?_ ?_
      | refine LeO.bind ?_ (fun _ => ?_)
    · intro y0 y1 y2 y3 y4
      unfold corebanklaw21_BalanceZero.l3
      repeat' first
      | (with_reducible exact ih0 _ _)
      | (with_reducible exact ih1 _ _ _)
      | (with_reducible exact ih2 _ _ _ _ _)
      | (with_reducible exact ih3 _ _ _)
      | (with_reducible exact ih4 _ _ _ _ _)
      | (with_reducible exact ih5 _ _ _ _)
      | (with_reducible exact corebanklaw21_few.mono _ _)
      | (with_reducible exact corebanklaw21_lives.mono _)
      | (with_reducible exact LeO.refl _)
      | (with_reducible exact LeO.none _)
      | (with_reducible refine LeO.ite ?_ ?_)
      | (with_reducible refine LeO.bind ?_ (fun _ => ?_))
      | exact ih0 _ _
      | exact ih1 _ _ _
      | exact ih2 _ _ _ _ _
      | exact ih3 _ _ _
      | exact ih4 _ _ _ _ _
      | exact ih5 _ _ _ _
      | exact corebanklaw21_few.mono _ _
      | exact corebanklaw21_lives.mono _
      | exact LeO.none _
      | refine LeO.ite ?_ ?_
      | refine LeO.bind ?_ (fun _ => ?_)
    · intro y0 y1 y2 y3
      unfold corebanklaw21_BalanceZero.j5
      repeat' first
      | (with_reducible exact ih0 _ _)
      | (with_reducible exact ih1 _ _ _)
      | (with_reducible exact ih2 _ _ _ _ _)
      | (with_reducible exact ih3 _ _ _)
      | (with_reducible exact ih4 _ _ _ _ _)
      | (with_reducible exact ih5 _ _ _ _)
      | (with_reducible exact corebanklaw21_few.mono _ _)
      | (with_reducible exact corebanklaw21_lives.mono _)
      | (with_reducible exact LeO.refl _)
      | (with_reducible exact LeO.none _)
      | (with_reducible refine LeO.ite ?_ ?_)
      | (with_reducible refine LeO.bind ?_ (fun _ => ?_))
      | exact ih0 _ _
      | exact ih1 _ _ _
      | exact ih2 _ _ _ _ _
      | exact ih3 _ _ _
      | exact ih4 _ _ _ _ _
      | exact ih5 _ _ _ _
      | exact corebanklaw21_few.mono _ _
      | exact corebanklaw21_lives.mono _
      | exact LeO.none _
      | refine LeO.ite ?_ ?_
      | refine LeO.bind ?_ (fun _ => ?_)
theorem corebanklaw21_BalanceZero.mono : ∀ a0 k, LeO (corebanklaw21_BalanceZero.f k a0) (corebanklaw21_BalanceZero.f (k + 1) a0) := by
  intro a0 k
  obtain ⟨ih0, ih1, ih2, ih3, ih4, ih5⟩ := corebanklaw21_BalanceZero.mono_l k
  unfold corebanklaw21_BalanceZero.f
  repeat' first
      | (with_reducible exact ih0 _ _)
      | (with_reducible exact ih1 _ _ _)
      | (with_reducible exact ih2 _ _ _ _ _)
      | (with_reducible exact ih3 _ _ _)
      | (with_reducible exact ih4 _ _ _ _ _)
      | (with_reducible exact ih5 _ _ _ _)
      | (with_reducible exact corebanklaw21_few.mono _ _)
      | (with_reducible exact corebanklaw21_lives.mono _)
      | (with_reducible exact LeO.refl _)
      | (with_reducible exact LeO.none _)
      | (with_reducible refine LeO.ite ?_ ?_)
      | (with_reducible refine LeO.bind ?_ (fun _ => ?_))
      | exact ih0 _ _
      | exact ih1 _ _ _
      | exact ih2 _ _ _ _ _
      | exact ih3 _ _ _
      | exact ih4 _ _ _ _ _
      | exact ih5 _ _ _ _
      | exact corebanklaw21_few.mono _ _
      | exact corebanklaw21_lives.mono _
      | exact LeO.none _
      | refine LeO.ite ?_ ?_
      | refine LeO.bind ?_ (fun _ => ?_)
set_option maxHeartbeats 8000000 in
set_option maxRecDepth 100000 in
theorem corebanklaw21_BalanceZero.calls (k : Nat) (P0_ : Nat → Prop) (A0 : Option Addr) (c0 : Nat) (l0 : List (S36)) (r : Bool) (w : World) (hs0 : Kd.V k36 36 w w.heap.size (fun k_ => P0_ k_) (.slice A0 l0.length c0) l0) (h : corebanklaw21_BalanceZero.f k l0 = some r) :
    Calls Try.prog 4 #[.slice A0 l0.length c0] w fun e w' => e = .returned (.bool r) ∧ Below w.heap.size w w' := by
  have hu39 := Try.underlying39
  have hu36 := Try.underlying36
  have HO0 := Aside0.mk (show Kd.V k36 36 w w.heap.size (fun k_ => (P0_ k_ ∨ w.heap.size ≤ k_)) (.slice A0 l0.length c0) l0 from Kd.V_mono hs0 (fun k_ hk => .inl hk))
  have HB := Aside0.mk (Below.refl w.heap.size w)
  have H : (if (l0.length : Int) > 50 then (corebanklaw21_BalanceZero.j0 k l0 true) else ((corebanklaw21_few.f k l0).bind fun t302 => (corebanklaw21_BalanceZero.j0 k l0 (!t302)))) = some r := h
  clear h
  have HC2 := Aside0.mk H
  clear H
  go_enter Try.func4, Try.ntmps4
  go_upto_region 1 with (fail)
  repeat (go_quiet (fail); go_upto_region 1 with (fail))
  go_cut [19] (fun v19 wc => ∃ (kq : Nat) (x19_1 : Bool), v19 = .bool x19_1 ∧ Aside0 (corebanklaw21_BalanceZero.j0 kq l0 x19_1 = some r) ∧ Aside0 (kq ≤ k) ∧ Aside0 (Kd.V k36 36 wc w.heap.size (fun k_ => (P0_ k_ ∨ w.heap.size ≤ k_)) (.slice A0 l0.length c0) l0) ∧ Aside0 (Below w.heap.size w wc))
  case first =>
    have H := HC2.out
    clear HC2
    by_cases c3 : (l0.length : Int) > 50
    · rw [if_pos c3] at H
      have c3b0 : decide (50 < (l0.length : Int)) = true := decide_eq_true c3
      have c3b1 : decide (50 < l0.length) = true := decide_eq_true (by omega)
      clear c3
      (first | rw [c3b0] | (simp only [i64_w, i32_w]; rw [c3b0]) | skip)
      have H' := Aside0.mk H
      clear H
      go_wp2
      repeat (go_quiet (fail); try go_wp2)
      go_meet
      case rel => exact ⟨_, (true), (by first | rfl | (simp; done) | (simp [*]; done)), H', ⟨by first | omega | exact Nat.le_refl _⟩, ⟨by (with_reducible repeat (first | apply Kd.V_alloc | apply Kd.V_drewN | apply Kd.V_drew)); exact HO0.out⟩, ⟨bE⟩⟩
    · rw [if_neg c3] at H
      have c3b0 : decide (50 < (l0.length : Int)) = false := decide_eq_false c3
      have c3b1 : decide (50 < l0.length) = false := decide_eq_false (by omega)
      clear c3
      (first | rw [c3b0] | (simp only [i64_w, i32_w]; rw [c3b0]) | skip)
      replace H := Option.bind_eq_some_iff.mp H
      obtain ⟨t302, A40, H⟩ := H
      replace H : (corebanklaw21_BalanceZero.j0 k l0 (!t302)) = some r := H
      have A4 := Aside0.mk A40
      clear A40
      have H' := Aside0.mk H
      clear H
      go_wp2_with (first | (go_at_call 8; (with_reducible refine (corebanklaw21_few.calls k _ _ l0 t302 _ ?side1 ?side2 A4.out).mono ?_); (case side1 => repeat (first | exact (Kd.V_reads' HO0.out).2.2 | (with_reducible refine Kd.C_alloc ?_ _) | (with_reducible refine Kd.C_drewN ?_ _) | (with_reducible refine Kd.C_drew ?_))); (case side2 => exact (Kd.V_reads' HO0.out).2.1); rintro e w' ⟨rfl, ⟨nd, rfl⟩⟩; (try first | exact ⟨rfl, _, World.drewN_drewN _ _ _⟩ | exact ⟨rfl, _, Eq.trans (World.drewN_drewN _ _ _) (congrArg (World.drewN _) (Nat.add_assoc _ _ _))⟩)))
      repeat (go_quiet (first | (go_at_call 8; (with_reducible refine (corebanklaw21_few.calls k _ _ l0 t302 _ ?side1 ?side2 A4.out).mono ?_); (case side1 => repeat (first | exact (Kd.V_reads' HO0.out).2.2 | (with_reducible refine Kd.C_alloc ?_ _) | (with_reducible refine Kd.C_drewN ?_ _) | (with_reducible refine Kd.C_drew ?_))); (case side2 => exact (Kd.V_reads' HO0.out).2.1); rintro e w' ⟨rfl, ⟨nd, rfl⟩⟩; (try first | exact ⟨rfl, _, World.drewN_drewN _ _ _⟩ | exact ⟨rfl, _, Eq.trans (World.drewN_drewN _ _ _) (congrArg (World.drewN _) (Nat.add_assoc _ _ _))⟩))); try go_wp2_with (first | (go_at_call 8; (with_reducible refine (corebanklaw21_few.calls k _ _ l0 t302 _ ?side1 ?side2 A4.out).mono ?_); (case side1 => repeat (first | exact (Kd.V_reads' HO0.out).2.2 | (with_reducible refine Kd.C_alloc ?_ _) | (with_reducible refine Kd.C_drewN ?_ _) | (with_reducible refine Kd.C_drew ?_))); (case side2 => exact (Kd.V_reads' HO0.out).2.1); rintro e w' ⟨rfl, ⟨nd, rfl⟩⟩; (try first | exact ⟨rfl, _, World.drewN_drewN _ _ _⟩ | exact ⟨rfl, _, Eq.trans (World.drewN_drewN _ _ _) (congrArg (World.drewN _) (Nat.add_assoc _ _ _))⟩))))
      go_meet
      case rel => exact ⟨_, (!t302), (by first | rfl | (simp; done) | (simp [*]; done)), H', ⟨by first | omega | exact Nat.le_refl _⟩, ⟨by (with_reducible repeat (first | apply Kd.V_alloc | apply Kd.V_drewN | apply Kd.V_drew)); exact HO0.out⟩, ⟨bE⟩⟩
  case rest =>
    clear HC2
    try clear p2
    try clear c3
    try clear c3b0
    try clear c3b1
    try clear c4
    obtain ⟨kq, x19_1, rfl, HA, HJ1, HO_0, HB⟩ := hcut
    cases kq with
    | zero => exact absurd HA.out (by simp [corebanklaw21_BalanceZero.j0])
    | succ kj1 =>
      have H := HA.out
      clear HA
      simp only [corebanklaw21_BalanceZero.j0] at H
      by_cases c5 : x19_1 = true
      · subst c5
        have H1 : ((corebanklaw21_lives.f kj1).bind fun t303 => (some t303)) = some r := by rw [if_pos rfl] at H; exact H
        clear H
        have H := H1
        clear H1
        replace H := Option.bind_eq_some_iff.mp H
        obtain ⟨t303, A60, H⟩ := H
        replace H : (some t303) = some r := H
        have A6 := Aside0.mk A60
        clear A60
        obtain rfl := Option.some.inj H
        go_wp2_with (first | (go_at_call 9; (with_reducible refine (corebanklaw21_lives.calls kj1  t303 _ A6.out).mono ?_); rintro e w7 ⟨rfl, hb⟩; have n0_ := Aside0.mk (Kd.V_below (by (with_reducible repeat (first | apply Kd.V_alloc | apply Kd.V_drewN | apply Kd.V_drew)); exact HO_0.out) hb); have n1_ := Aside0.mk (bS hb); clear HO_0; clear HB; have HO_0 := n0_; have HB := n1_; clear n0_ n1_; (try clear hb); (try clear hb2); (try clear hk); (try clear hi)))
        repeat (go_quiet (first | (go_at_call 9; (with_reducible refine (corebanklaw21_lives.calls kj1  t303 _ A6.out).mono ?_); rintro e w7 ⟨rfl, hb⟩; have n0_ := Aside0.mk (Kd.V_below (by (with_reducible repeat (first | apply Kd.V_alloc | apply Kd.V_drewN | apply Kd.V_drew)); exact HO_0.out) hb); have n1_ := Aside0.mk (bS hb); clear HO_0; clear HB; have HO_0 := n0_; have HB := n1_; clear n0_ n1_; (try clear hb); (try clear hb2); (try clear hk); (try clear hi))); try go_wp2_with (first | (go_at_call 9; (with_reducible refine (corebanklaw21_lives.calls kj1  t303 _ A6.out).mono ?_); rintro e w7 ⟨rfl, hb⟩; have n0_ := Aside0.mk (Kd.V_below (by (with_reducible repeat (first | apply Kd.V_alloc | apply Kd.V_drewN | apply Kd.V_drew)); exact HO_0.out) hb); have n1_ := Aside0.mk (bS hb); clear HO_0; clear HB; have HO_0 := n0_; have HB := n1_; clear n0_ n1_; (try clear hb); (try clear hb2); (try clear hk); (try clear hi))))
        go_ret
        exact ⟨by first | rfl | (simp [errW_none, errW_some] <;> rfl) | (simp [*, errW_none, errW_some] <;> rfl), bE⟩
      · replace c5 := Bool.eq_false_iff.mpr c5
        subst c5
        have H1 : ((some (([] : List (S36)) : List (S36))).bind fun y304 => (if y304.length + l0.length < 1256584717458 then (corebanklaw21_BalanceZero.l0 kj1 l0 (y304 ++ l0) 0) else (none))) = some r := by rw [if_neg (show ¬ (false = true) by decide)] at H; exact H
        clear H
        have H := H1
        clear H1
        obtain ⟨y304, hy304⟩ : ∃ y_ : List (S36), y_ = (([] : List (S36))) := ⟨_, rfl⟩
        replace H : (if y304.length + l0.length < 1256584717458 then (corebanklaw21_BalanceZero.l0 kj1 l0 (y304 ++ l0) 0) else (none)) = some r := by first | (rw [hy304]; with_reducible exact H) | (have H2_ := (Option.bind_some _ _).symm.trans H; rw [hy304]; with_reducible exact H2_) | (have H2_ := (Option.bind_some _ _).symm.trans H; with_reducible exact H2_) | with_reducible exact H | (rw [hy304]; exact H) | exact H
        have Ny304 := Aside0.mk hy304
        clear hy304
        by_cases c8 : y304.length + l0.length < 1256584717458
        · rw [if_pos c8] at H
          have LMc8 := Aside0.mk c8
          clear c8
          obtain ⟨y307, hy307⟩ : ∃ y_ : List (S36), y_ = (y304 ++ l0) := ⟨_, rfl⟩
          replace H : (corebanklaw21_BalanceZero.l0 kj1 l0 y307 0) = some r := by first | (rw [hy307]; with_reducible exact H) | (have H2_ := (Option.bind_some _ _).symm.trans H; rw [hy307]; with_reducible exact H2_) | (have H2_ := (Option.bind_some _ _).symm.trans H; with_reducible exact H2_) | with_reducible exact H | (rw [hy307]; exact H) | exact H
          have Ny307 := Aside0.mk hy307
          clear hy307
          have H' := Aside0.mk H
          clear H
          go_wp2_with (first | ((with_reducible refine gate_dst (N := 21) rfl ?_); refine Kd.N_lit k36 _ 36 ?hg (N' := 21) ?hd (xs := ([] : List (S36))) (inner := []) (ok := (fun k_ => (P0_ k_ ∨ w.heap.size ≤ k_))) (okp := (fun k_ => (P0_ k_ ∨ w.heap.size ≤ k_))) ?hr ?hp (fun _ hk => hk) ((show ∀ k_, wc.heap.size ≤ k_ → (fun k_ => (P0_ k_ ∨ w.heap.size ≤ k_)) k_ from fun k_ hk => (.inr (Nat.le_trans (below_size (bE)) hk))) _ (Nat.le_refl _)) (Below.refl _ _) (Nat.le_refl _) (by simp) ?_; (case hd => rfl); (case hg => rfl); (case hr => first | (go_simp; done) | (go_simp; rfl)); (case hp => exact (Reps.none _ _)); intro v305 w9 ho10 hb hg_ hnew_; clear hg_ hnew_; (first | rw [← Ny304.out] at ho10 | (simp only [Int.reduceToNat] at ho10; rw [← Ny304.out] at ho10)); have n0_ := Aside0.mk (Kd.V_elder' (by (with_reducible repeat (first | apply Kd.V_alloc | apply Kd.V_drewN | apply Kd.V_drew)); exact HO_0.out) (Kd.N_base ho10) hb); have n1_ := Aside0.mk (Kd.N_lower ho10 (below_size (bE))); have n2_ := Aside0.mk (bS hb); clear HO_0; clear HB; have HO_0 := n0_; have HO306 := n1_; have HB := n2_; clear n0_ n1_ n2_; clear hb ho10) | ((with_reducible refine gate_builtin (b := .append) (xs := #[.tmp 21, .tmp 22]) rfl ?_); at_builtin; refine Kd.N_append_rows k36 (w0 := w) w.heap.size rfl (.tmp 21) (.tmp 22) 22 36 (.agg #[(.int .i64 0), (.int .i64 0), (.int .i64 0), (.int .i64 0), (.int .i64 0), (.int .i64 0), (.string ⟨#[]⟩), (.string ⟨#[]⟩), (.slice none 0 0), (.int .u64 0)]) 112 rfl Try.underlying22 info36 rfl (by decide) (by omega) v305 y304 l0 _ _ _ (fun k_ => (P0_ k_ ∨ w.heap.size ≤ k_)) (fun k_ => ((fun k_ => (P0_ k_ ∨ w.heap.size ≤ k_))) k_ ∧ some k_ ≠ (v305 : Value).ownBlock) rfl rfl ?aO ?aR (fun _ hk => hk) ?aF ?aB ?aS ?aL ?_; (case aR => exact (by skip; exact Kd.V_F (Kd.V_mono (ok' := (fun k_ => ((fun k_ => (P0_ k_ ∨ w.heap.size ≤ k_))) k_ ∧ some k_ ≠ (v305 : Value).ownBlock)) (HO_0.out) (fun k_ hk => ⟨hk.1, hk.2⟩)))); (case aB => exact (bE)); (case aF => exact (fun k_ hk => (.inr (Nat.le_trans (below_size (bE)) hk)))); (case aO => exact (by (with_reducible repeat (first | apply Kd.N_alloc | apply Kd.N_drewN | apply Kd.N_drew)); exact HO306.out)); (case aS => exact (below_size (bE))); (case aL => have := LMc8.out; omega); intro v308 w11 ho hb hg hat; rw [← Ny307.out] at ho; have n0_ := Aside0.mk (Kd.V_afterv (ok := (fun k_ => (P0_ k_ ∨ w.heap.size ≤ k_))) (by (with_reducible repeat (first | apply Kd.V_alloc | apply Kd.V_drewN | apply Kd.V_drew)); exact HO_0.out) hg hat); have n1_ := Aside0.mk (hb); have n2_ := Aside0.mk (ho); clear HO_0; clear HB; clear HO306; have HO_0 := n0_; have HB := n1_; have HO309 := n2_; clear n0_ n1_ n2_; clear ho hb hg hat))
          repeat (go_quiet (first | ((with_reducible refine gate_dst (N := 21) rfl ?_); refine Kd.N_lit k36 _ 36 ?hg (N' := 21) ?hd (xs := ([] : List (S36))) (inner := []) (ok := (fun k_ => (P0_ k_ ∨ w.heap.size ≤ k_))) (okp := (fun k_ => (P0_ k_ ∨ w.heap.size ≤ k_))) ?hr ?hp (fun _ hk => hk) ((show ∀ k_, wc.heap.size ≤ k_ → (fun k_ => (P0_ k_ ∨ w.heap.size ≤ k_)) k_ from fun k_ hk => (.inr (Nat.le_trans (below_size (bE)) hk))) _ (Nat.le_refl _)) (Below.refl _ _) (Nat.le_refl _) (by simp) ?_; (case hd => rfl); (case hg => rfl); (case hr => first | (go_simp; done) | (go_simp; rfl)); (case hp => exact (Reps.none _ _)); intro v305 w9 ho10 hb hg_ hnew_; clear hg_ hnew_; (first | rw [← Ny304.out] at ho10 | (simp only [Int.reduceToNat] at ho10; rw [← Ny304.out] at ho10)); have n0_ := Aside0.mk (Kd.V_elder' (by (with_reducible repeat (first | apply Kd.V_alloc | apply Kd.V_drewN | apply Kd.V_drew)); exact HO_0.out) (Kd.N_base ho10) hb); have n1_ := Aside0.mk (Kd.N_lower ho10 (below_size (bE))); have n2_ := Aside0.mk (bS hb); clear HO_0; clear HB; have HO_0 := n0_; have HO306 := n1_; have HB := n2_; clear n0_ n1_ n2_; clear hb ho10) | ((with_reducible refine gate_builtin (b := .append) (xs := #[.tmp 21, .tmp 22]) rfl ?_); at_builtin; refine Kd.N_append_rows k36 (w0 := w) w.heap.size rfl (.tmp 21) (.tmp 22) 22 36 (.agg #[(.int .i64 0), (.int .i64 0), (.int .i64 0), (.int .i64 0), (.int .i64 0), (.int .i64 0), (.string ⟨#[]⟩), (.string ⟨#[]⟩), (.slice none 0 0), (.int .u64 0)]) 112 rfl Try.underlying22 info36 rfl (by decide) (by omega) v305 y304 l0 _ _ _ (fun k_ => (P0_ k_ ∨ w.heap.size ≤ k_)) (fun k_ => ((fun k_ => (P0_ k_ ∨ w.heap.size ≤ k_))) k_ ∧ some k_ ≠ (v305 : Value).ownBlock) rfl rfl ?aO ?aR (fun _ hk => hk) ?aF ?aB ?aS ?aL ?_; (case aR => exact (by skip; exact Kd.V_F (Kd.V_mono (ok' := (fun k_ => ((fun k_ => (P0_ k_ ∨ w.heap.size ≤ k_))) k_ ∧ some k_ ≠ (v305 : Value).ownBlock)) (HO_0.out) (fun k_ hk => ⟨hk.1, hk.2⟩)))); (case aB => exact (bE)); (case aF => exact (fun k_ hk => (.inr (Nat.le_trans (below_size (bE)) hk)))); (case aO => exact (by (with_reducible repeat (first | apply Kd.N_alloc | apply Kd.N_drewN | apply Kd.N_drew)); exact HO306.out)); (case aS => exact (below_size (bE))); (case aL => have := LMc8.out; omega); intro v308 w11 ho hb hg hat; rw [← Ny307.out] at ho; have n0_ := Aside0.mk (Kd.V_afterv (ok := (fun k_ => (P0_ k_ ∨ w.heap.size ≤ k_))) (by (with_reducible repeat (first | apply Kd.V_alloc | apply Kd.V_drewN | apply Kd.V_drew)); exact HO_0.out) hg hat); have n1_ := Aside0.mk (hb); have n2_ := Aside0.mk (ho); clear HO_0; clear HB; clear HO306; have HO_0 := n0_; have HB := n1_; have HO309 := n2_; clear n0_ n1_ n2_; clear ho hb hg hat)); try go_wp2_with (first | ((with_reducible refine gate_dst (N := 21) rfl ?_); refine Kd.N_lit k36 _ 36 ?hg (N' := 21) ?hd (xs := ([] : List (S36))) (inner := []) (ok := (fun k_ => (P0_ k_ ∨ w.heap.size ≤ k_))) (okp := (fun k_ => (P0_ k_ ∨ w.heap.size ≤ k_))) ?hr ?hp (fun _ hk => hk) ((show ∀ k_, wc.heap.size ≤ k_ → (fun k_ => (P0_ k_ ∨ w.heap.size ≤ k_)) k_ from fun k_ hk => (.inr (Nat.le_trans (below_size (bE)) hk))) _ (Nat.le_refl _)) (Below.refl _ _) (Nat.le_refl _) (by simp) ?_; (case hd => rfl); (case hg => rfl); (case hr => first | (go_simp; done) | (go_simp; rfl)); (case hp => exact (Reps.none _ _)); intro v305 w9 ho10 hb hg_ hnew_; clear hg_ hnew_; (first | rw [← Ny304.out] at ho10 | (simp only [Int.reduceToNat] at ho10; rw [← Ny304.out] at ho10)); have n0_ := Aside0.mk (Kd.V_elder' (by (with_reducible repeat (first | apply Kd.V_alloc | apply Kd.V_drewN | apply Kd.V_drew)); exact HO_0.out) (Kd.N_base ho10) hb); have n1_ := Aside0.mk (Kd.N_lower ho10 (below_size (bE))); have n2_ := Aside0.mk (bS hb); clear HO_0; clear HB; have HO_0 := n0_; have HO306 := n1_; have HB := n2_; clear n0_ n1_ n2_; clear hb ho10) | ((with_reducible refine gate_builtin (b := .append) (xs := #[.tmp 21, .tmp 22]) rfl ?_); at_builtin; refine Kd.N_append_rows k36 (w0 := w) w.heap.size rfl (.tmp 21) (.tmp 22) 22 36 (.agg #[(.int .i64 0), (.int .i64 0), (.int .i64 0), (.int .i64 0), (.int .i64 0), (.int .i64 0), (.string ⟨#[]⟩), (.string ⟨#[]⟩), (.slice none 0 0), (.int .u64 0)]) 112 rfl Try.underlying22 info36 rfl (by decide) (by omega) v305 y304 l0 _ _ _ (fun k_ => (P0_ k_ ∨ w.heap.size ≤ k_)) (fun k_ => ((fun k_ => (P0_ k_ ∨ w.heap.size ≤ k_))) k_ ∧ some k_ ≠ (v305 : Value).ownBlock) rfl rfl ?aO ?aR (fun _ hk => hk) ?aF ?aB ?aS ?aL ?_; (case aR => exact (by skip; exact Kd.V_F (Kd.V_mono (ok' := (fun k_ => ((fun k_ => (P0_ k_ ∨ w.heap.size ≤ k_))) k_ ∧ some k_ ≠ (v305 : Value).ownBlock)) (HO_0.out) (fun k_ hk => ⟨hk.1, hk.2⟩)))); (case aB => exact (bE)); (case aF => exact (fun k_ hk => (.inr (Nat.le_trans (below_size (bE)) hk)))); (case aO => exact (by (with_reducible repeat (first | apply Kd.N_alloc | apply Kd.N_drewN | apply Kd.N_drew)); exact HO306.out)); (case aS => exact (below_size (bE))); (case aL => have := LMc8.out; omega); intro v308 w11 ho hb hg hat; rw [← Ny307.out] at ho; have n0_ := Aside0.mk (Kd.V_afterv (ok := (fun k_ => (P0_ k_ ∨ w.heap.size ≤ k_))) (by (with_reducible repeat (first | apply Kd.V_alloc | apply Kd.V_drewN | apply Kd.V_drew)); exact HO_0.out) hg hat); have n1_ := Aside0.mk (hb); have n2_ := Aside0.mk (ho); clear HO_0; clear HB; clear HO306; have HO_0 := n0_; have HB := n1_; have HO309 := n2_; clear n0_ n1_ n2_; clear ho hb hg hat)))
          go_loopg [3, 4] kj1 (fun kq v3 v4 w' => ∃ (x3_2 : List (S36)) (x4_2 : Int), v4 = .int .i64 x4_2 ∧ Aside0 (corebanklaw21_BalanceZero.l0 kq l0 x3_2 x4_2 = some r) ∧ Aside0 (kq ≤ kj1) ∧ Aside0 (Kd.V k36 36 w' w.heap.size (fun k_ => (P0_ k_ ∨ w.heap.size ≤ k_) ∧ some k_ ≠ (v3 : Value).ownBlock) (.slice A0 l0.length c0) l0) ∧ Aside0 (Kd.N k36 36 w' w.heap.size (fun k_ => (P0_ k_ ∨ w.heap.size ≤ k_)) v3 x3_2) ∧ Aside0 (Below w.heap.size w w'))
          case atStart => exact ⟨(y307), (0), (by first | rfl | (simp; done) | (simp [*]; done)), H', ⟨Nat.le_refl _⟩, ⟨by (with_reducible repeat (first | apply Kd.V_alloc | apply Kd.V_drewN | apply Kd.V_drew)); exact HO_0.out⟩, ⟨by (with_reducible repeat (first | apply Kd.N_alloc | apply Kd.N_drewN | apply Kd.N_drew)); exact HO309.out⟩, ⟨bE⟩⟩
          case round =>
            clear H'
            try clear p2
            try clear c3
            try clear c3b0
            try clear c3b1
            try clear c4
            try clear c5
            try clear c8
            try clear p2
            obtain ⟨x3_2, x4_2, rfl, HA, HK2, HO_0, HO_3, HB⟩ := hrel
            cases gk with
            | zero => exact absurd HA.out (by simp [corebanklaw21_BalanceZero.l0])
            | succ k2 =>
              have H := HA.out
              clear HA
              simp only [corebanklaw21_BalanceZero.l0] at H
              by_cases c12 : x4_2 < (l0.length : Int)
              · rw [if_pos c12] at H
                have c12b0 : decide (x4_2 < (l0.length : Int)) = true := decide_eq_true c12
                clear c12
                have H' := Aside0.mk H
                clear H
                go_wp2
                repeat (go_quiet (fail); try go_wp2)
                go_loopg [5, 6] k2 (fun kq v5 v6 w' => ∃ (x5_3 : List (S39)) (x6_3 : Int), v6 = .int .i64 x6_3 ∧ Aside0 (corebanklaw21_BalanceZero.l1 kq l0 x3_2 x4_2 x5_3 x6_3 = some r) ∧ Aside0 (kq ≤ k2) ∧ Aside0 (Kd.V k36 36 w' w.heap.size (fun k_ => (P0_ k_ ∨ w.heap.size ≤ k_) ∧ some k_ ≠ (u3 : Value).ownBlock ∧ some k_ ≠ (v5 : Value).ownBlock) (.slice A0 l0.length c0) l0) ∧ Aside0 (Kd.N k36 36 w' w.heap.size (fun k_ => (P0_ k_ ∨ w.heap.size ≤ k_) ∧ some k_ ≠ (v5 : Value).ownBlock) u3 x3_2) ∧ Aside0 (Kd.R k39 39 w' w.heap.size (fun k_ => (w.heap.size ≤ k_)) v5 x5_3) ∧ Aside0 (Below w.heap.size w w'))
                case atStart => exact ⟨(([] : List (S39))), (0), (by first | rfl | (simp; done) | (simp [*]; done)), H', ⟨Nat.le_refl _⟩, ⟨by (with_reducible repeat (first | apply Kd.V_alloc | apply Kd.V_drewN | apply Kd.V_drew)); exact Kd.V_mono HO_0.out (fun _ hk => ⟨hk.1, ⟨hk.2, (by simp [Value.ownBlock])⟩⟩)⟩, ⟨by (with_reducible repeat (first | apply Kd.N_alloc | apply Kd.N_drewN | apply Kd.N_drew)); exact Kd.N_mono HO_3.out (fun _ hk => ⟨hk, (by simp [Value.ownBlock])⟩)⟩, ⟨by first | exact Kd.R_nil _ _ _ _ _ | exact Kd.N_nil _ _ _ _ _ | exact Kd.V_nil _ _ _ _ _ | exact Kd.Q_nil _ _ _ _ _ | exact Kd.S_nil _ _ _ _ _⟩, ⟨bE⟩⟩
                case round =>
                  clear H'
                  try clear c1
                  try clear p2
                  try clear c3
                  try clear c3b0
                  try clear c3b1
                  try clear c4
                  try clear c5
                  try clear c8
                  try clear c12
                  try clear c12b0
                  try clear p2
                  obtain ⟨x5_3, x6_3, rfl, HA, HK3, HO_0, HO_3, HO_5, HB⟩ := hrel
                  cases gk with
                  | zero => exact absurd HA.out (by simp [corebanklaw21_BalanceZero.l1])
                  | succ k3 =>
                    have H := HA.out
                    clear HA
                    simp only [corebanklaw21_BalanceZero.l1] at H
                    by_cases c13 : 0 ≤ x4_2
                    · rw [if_pos c13] at H
                      have c13b0 : decide (0 ≤ x4_2) = true := decide_eq_true c13
                      clear c13
                      by_cases c14 : x4_2 < (l0.length : Int)
                      · rw [if_pos c14] at H
                        have c14b0 : decide (x4_2 < (l0.length : Int)) = true := decide_eq_true c14
                        clear c14
                        by_cases c15 : x6_3 < (((rd_T36 l0 x4_2).f8).length : Int)
                        · rw [if_pos c15] at H
                          have c15b0 : decide (x6_3 < (((rd_T36 l0 x4_2).f8).length : Int)) = true := decide_eq_true c15
                          clear c15
                          by_cases c16 : 0 ≤ x6_3
                          · rw [if_pos c16] at H
                            have c16b0 : decide (0 ≤ x6_3) = true := decide_eq_true c16
                            clear c16
                            by_cases c17 : x5_3.length < 4398046511104
                            · rw [if_pos c17] at H
                              have LMc17 := Aside0.mk c17
                              clear c17
                              obtain ⟨y314, hy314⟩ : ∃ y_ : List (S39), y_ = (x5_3 ++ [(⟨(rd_T39 ((rd_T36 l0 x4_2).f8) x6_3).f0, wrap64 (-((rd_T39 ((rd_T36 l0 x4_2).f8) x6_3).f1)), (rd_T39 ((rd_T36 l0 x4_2).f8) x6_3).f2⟩ : S39)]) := ⟨_, rfl⟩
                              replace H : (corebanklaw21_BalanceZero.l1 k3 l0 x3_2 x4_2 y314 (wrap64 (x6_3 + 1))) = some r := by first | (rw [hy314]; with_reducible exact H) | (have H2_ := (Option.bind_some _ _).symm.trans H; rw [hy314]; with_reducible exact H2_) | (have H2_ := (Option.bind_some _ _).symm.trans H; with_reducible exact H2_) | with_reducible exact H | (rw [hy314]; exact H) | exact H
                              have Ny314 := Aside0.mk hy314
                              clear hy314
                              have H' := Aside0.mk H
                              clear H
                              have p310 : 0 ≤ (x4_2 : Int) := of_decide_eq_true (by first | (with_reducible assumption) | assumption)
                              have q310 : x4_2 < (l0.length : Int) := of_decide_eq_true (by first | (with_reducible assumption) | assumption)
                              obtain ⟨ad310, A310_8, c310_8, e310, hx310_0, hx310_1, hx310_2, hx310_3, hx310_4, hx310_5, hx310_6, hx310_7, hx310_8, hx310_9, hl310_8, hi310_8⟩ := at_T36 (Kd.V_reads' HO_0.out).2.2 x4_2 p310 q310
                              cases e310
                              obtain ⟨ce310, hce310, hMe310, hcc310⟩ := Kd.V_get HO_0.out z36 x4_2 p310 (by first | exact q310 | exact of_decide_eq_true (by first | (with_reducible assumption) | assumption) | (have e_ := (Kd.V_reads' HO_0.out).1; omega))
                              obtain ⟨ua310_8, uc310_8, rfl, ul310_8, ge310_8⟩ := k36_openF hMe310
                              have hv310_8 := hcc310 8 _ rfl
                              rw [add_field _ _ 8 (by omega)] at hv310_8
                              replace hv310_8 := Option.some.inj (hv310_8.symm.trans hx310_8)
                              injection hv310_8 with hva_ hvn_ hvc_
                              rw [hva_] at ge310_8
                              rw [hvc_] at ul310_8
                              have HL310_8 := Aside0.mk (show Kd.V k39 39 _ w.heap.size _ _ ((rd_T36 l0 x4_2).f8) from Kd.V_mk ul310_8 ge310_8)
                              clear hva_ hvn_ hvc_ ge310_8 ul310_8
                              clear hcc310 hce310
                              have HR310_8 := Aside0.mk hi310_8
                              have HC310_8 := Aside0.mk hl310_8
                              clear hi310_8 hl310_8
                              replace p310 := eq_true p310
                              replace q310 := eq_true q310
                              have p311 : 0 ≤ (x4_2 : Int) := of_decide_eq_true (by first | (with_reducible assumption) | assumption)
                              have q311 : x4_2 < (l0.length : Int) := of_decide_eq_true (by first | (with_reducible assumption) | assumption)
                              obtain ⟨ad311, A311_8, c311_8, e311, hx311_0, hx311_1, hx311_2, hx311_3, hx311_4, hx311_5, hx311_6, hx311_7, hx311_8, hx311_9, hl311_8, hi311_8⟩ := at_T36 (Kd.V_reads' HO_0.out).2.2 x4_2 p311 q311
                              obtain rfl : ad310 = ad311 := (by injection e311)
                              obtain ⟨ce311, hce311, hMe311, hcc311⟩ := Kd.V_get HO_0.out z36 x4_2 p311 (by first | exact q311 | exact of_decide_eq_true (by first | (with_reducible assumption) | assumption) | (have e_ := (Kd.V_reads' HO_0.out).1; omega))
                              obtain ⟨ua311_8, uc311_8, rfl, ul311_8, ge311_8⟩ := k36_openF hMe311
                              have hv311_8 := hcc311 8 _ rfl
                              rw [add_field _ _ 8 (by omega)] at hv311_8
                              replace hv311_8 := Option.some.inj (hv311_8.symm.trans hx311_8)
                              injection hv311_8 with hva_ hvn_ hvc_
                              rw [hva_] at ge311_8
                              rw [hvc_] at ul311_8
                              have HL311_8 := Aside0.mk (show Kd.V k39 39 _ w.heap.size _ _ ((rd_T36 l0 x4_2).f8) from Kd.V_mk ul311_8 ge311_8)
                              clear hva_ hvn_ hvc_ ge311_8 ul311_8
                              clear hcc311 hce311
                              have HR311_8 := Aside0.mk hi311_8
                              have HC311_8 := Aside0.mk hl311_8
                              clear hi311_8 hl311_8
                              replace p311 := eq_true p311
                              replace q311 := eq_true q311
                              have ea_ := Option.some.inj (hx310_8.symm.trans hx311_8)
                              injection ea_ with ea_ en_ ec_
                              subst ea_
                              subst ec_
                              clear en_
                              have p312 : 0 ≤ (x6_3 : Int) := of_decide_eq_true (by first | (with_reducible assumption) | assumption)
                              have q312 : x6_3 < (((rd_T36 l0 x4_2).f8).length : Int) := of_decide_eq_true (by first | (with_reducible assumption) | assumption)
                              obtain ⟨ad312, e312, hx312_0, hx312_1, hx312_2⟩ := at_T39 (by repeat (first | (with_reducible exact HR311_8.out) | (with_reducible refine Kd.C_alloc ?_ _) | (with_reducible refine Kd.C_drewN ?_ _) | (with_reducible refine Kd.C_drew ?_) | exact HR311_8.out)) x6_3 p312 q312
                              cases e312
                              replace p312 := eq_true p312
                              replace q312 := eq_true q312
                              go_wp2_with (first | ((with_reducible refine gate_dst (N := 7) rfl ?_); refine box_event ?hg (N := 7) ?hd (cs := #[.int .i64 0, .int .i64 0, .string (⟨#[]⟩ : ByteArray)]) (t := 39) ?hr ?_; (case hd => rfl); (case hg => rfl); (case hr => first | (go_simp; done) | (go_simp; rfl)); intro gb313 hg w18 hbox hb; have n0_ := Aside0.mk (Kd.V_below (Kd.V_elderB (by (with_reducible repeat (first | apply Kd.V_alloc | apply Kd.V_drewN | apply Kd.V_drew)); exact HO_0.out) gb313 (Nat.le_of_eq hg.symm)) hb); have n1_ := Aside0.mk (Kd.N_below (Kd.N_elderB (by (with_reducible repeat (first | apply Kd.N_alloc | apply Kd.N_drewN | apply Kd.N_drew)); exact HO_3.out) gb313 (Nat.le_of_eq hg.symm)) hb); have n2_ := Aside0.mk (Kd.R_below (Kd.R_elderB (by (with_reducible repeat (first | apply Kd.R_alloc | apply Kd.R_drewN | apply Kd.R_drew)); exact HO_5.out) gb313 (Nat.le_of_eq hg.symm)) hb); have n3_ := Aside0.mk (Kd.V_below (Kd.V_elderB (by (with_reducible repeat (first | apply Kd.V_alloc | apply Kd.V_drewN | apply Kd.V_drew)); exact HL310_8.out) gb313 (Nat.le_of_eq hg.symm)) hb); have n4_ := Aside0.mk (Kd.V_below (Kd.V_elderB (by (with_reducible repeat (first | apply Kd.V_alloc | apply Kd.V_drewN | apply Kd.V_drew)); exact HL311_8.out) gb313 (Nat.le_of_eq hg.symm)) hb); have n5_ := Aside0.mk (Kd.C_below (by repeat (first | (with_reducible exact HR310_8.out) | (with_reducible refine Kd.C_alloc ?_ _) | (with_reducible refine Kd.C_drewN ?_ _) | (with_reducible refine Kd.C_drew ?_) | exact HR310_8.out)) hb); have n6_ := Aside0.mk (Kd.C_below (by repeat (first | (with_reducible exact HR311_8.out) | (with_reducible refine Kd.C_alloc ?_ _) | (with_reducible refine Kd.C_drewN ?_ _) | (with_reducible refine Kd.C_drew ?_) | exact HR311_8.out)) hb); have nn_ := bT hb hg; have n7_ := Aside0.mk nn_.1; have n8_ := Aside0.mk (hbox); have n9_ := Aside0.mk nn_.2; clear nn_; have n10_ := n9_; clear HO_0; clear HO_3; clear HO_5; clear HL310_8; clear HL311_8; clear HR310_8; clear HR311_8; clear HB; have HO_0 := n0_; have HO_3 := n1_; have HO_5 := n2_; have HL310_8 := n3_; have HL311_8 := n4_; have HR310_8 := n5_; have HR311_8 := n6_; have HB := n7_; have BK313 := n8_; have GW313 := n9_; have GE313 := n10_; clear n0_ n1_ n2_ n3_ n4_ n5_ n6_ n7_ n8_ n9_ n10_; clear hb hbox hg; have hcz19_0 : w18.cell? ⟨gb313, 0, none⟩ = some (.int .i64 0) := (blk_cell BK313.out 0).trans rfl; have hcz19_1 : w18.cell? ⟨gb313, 1, none⟩ = some (.int .i64 0) := (blk_cell BK313.out 1).trans rfl; have hcz19_2 : w18.cell? ⟨gb313, 2, none⟩ = some (.string (⟨#[]⟩ : ByteArray)) := (blk_cell BK313.out 2).trans rfl; have hfz19_0 := blk_frozen BK313.out 0; have hfz19_1 := blk_frozen BK313.out 1; have hfz19_2 := blk_frozen BK313.out 2) | ((with_reducible refine gate_builtin (b := .append) (xs := #[.tmp 48, .tmp 57]) rfl ?_); at_builtin; refine Kd.R_append k39 (w0 := w) w.heap.size rfl (.tmp 48) (.tmp 57) 33 39 (.agg #[(.int .i64 0), (.int .i64 0), (.string ⟨#[]⟩)]) 32 rfl Try.underlying33 info39 rfl (by decide) (by omega) u5 x5_3 (⟨(rd_T39 ((rd_T36 l0 x4_2).f8) x6_3).f0, wrap64 (-((rd_T39 ((rd_T36 l0 x4_2).f8) x6_3).f1)), (rd_T39 ((rd_T36 l0 x4_2).f8) x6_3).f2⟩ : S39) [.int .i64 ((rd_T39 ((rd_T36 l0 x4_2).f8) x6_3).f0), .int .i64 (wrap64 (-((rd_T39 ((rd_T36 l0 x4_2).f8) x6_3).f1))), .string ((rd_T39 ((rd_T36 l0 x4_2).f8) x6_3).f2)] (fun k_ => (w.heap.size ≤ k_) ∧ k_ ≠ gb313) (fun _ => False) rfl (by first | (go_simp; done) | (go_simp; rfl)) ?aP (fun _ hk => hk.elim) ?aF ?aO ?aB ?aS ?aL ?_; (case aP => exact k39_mkM _ _ _ (⟨(rd_T39 ((rd_T36 l0 x4_2).f8) x6_3).f0, wrap64 (-((rd_T39 ((rd_T36 l0 x4_2).f8) x6_3).f1)), (rd_T39 ((rd_T36 l0 x4_2).f8) x6_3).f2⟩ : S39)); (case aB => exact (bE)); (case aF => exact (fun k_ hk => ⟨(Nat.le_trans (below_size (bE)) hk), Kd.freshB (g := gb313) (o := .cells #[.int .i64 ((rd_T39 ((rd_T36 l0 x4_2).f8) x6_3).f0), .int .i64 ((rd_T39 ((rd_T36 l0 x4_2).f8) x6_3).f1), .string ((rd_T39 ((rd_T36 l0 x4_2).f8) x6_3).f2)] 39 (0, 0)) (by (with_reducible repeat (first | refine blk_drewN ?_ _ | refine blk_drew ?_ | refine blk_alloc ?_ _)); refine blk_put (cs := #[.int .i64 ((rd_T39 ((rd_T36 l0 x4_2).f8) x6_3).f0), .int .i64 ((rd_T39 ((rd_T36 l0 x4_2).f8) x6_3).f1), .string (⟨#[]⟩ : ByteArray)]) ?_ 2 _ rfl; (with_reducible repeat (first | refine blk_drewN ?_ _ | refine blk_drew ?_ | refine blk_alloc ?_ _)); refine blk_put (cs := #[.int .i64 ((rd_T39 ((rd_T36 l0 x4_2).f8) x6_3).f0), .int .i64 0, .string (⟨#[]⟩ : ByteArray)]) ?_ 1 _ rfl; (with_reducible repeat (first | refine blk_drewN ?_ _ | refine blk_drew ?_ | refine blk_alloc ?_ _)); refine blk_put (cs := #[.int .i64 0, .int .i64 0, .string (⟨#[]⟩ : ByteArray)]) ?_ 0 _ rfl; (with_reducible repeat (first | refine blk_drewN ?_ _ | refine blk_drew ?_ | refine blk_alloc ?_ _)); exact BK313.out) k_ hk⟩)); (case aO => exact (by (with_reducible repeat (first | apply Kd.R_alloc | apply Kd.R_drewN | apply Kd.R_drew)); exact Kd.R_mono (Kd.R_far (p := ⟨gb313, 2, none⟩) (Kd.R_far (p := ⟨gb313, 1, none⟩) (Kd.R_far (p := ⟨gb313, 0, none⟩) (Kd.R_mono HO_5.out (fun k_ hk => (⟨hk, hk.2⟩ : _ ∧ k_ ≠ gb313))) (fun _ hk => hk.2) (.int .i64 ((rd_T39 ((rd_T36 l0 x4_2).f8) x6_3).f0))) (fun _ hk => hk.2) (.int .i64 ((rd_T39 ((rd_T36 l0 x4_2).f8) x6_3).f1))) (fun _ hk => hk.2) (.string ((rd_T39 ((rd_T36 l0 x4_2).f8) x6_3).f2))) (fun _ hk => ⟨hk.1.1, hk.1.2⟩))); (case aS => exact (below_size (bE))); (case aL => have := LMc17.out; omega); intro v315 w20 ho hb hg hat; rw [← Ny314.out] at ho; have n0_ := Aside0.mk (Kd.V_afterv (ok := (fun k_ => (P0_ k_ ∨ w.heap.size ≤ k_) ∧ some k_ ≠ (u3 : Value).ownBlock ∧ k_ ≠ gb313)) (by (with_reducible repeat (first | apply Kd.V_alloc | apply Kd.V_drewN | apply Kd.V_drew)); exact Kd.V_mono (Kd.V_far (p := ⟨gb313, 2, none⟩) (Kd.V_far (p := ⟨gb313, 1, none⟩) (Kd.V_far (p := ⟨gb313, 0, none⟩) (Kd.V_mono HO_0.out (fun k_ hk => (⟨hk, hk.2⟩ : _ ∧ k_ ≠ gb313))) (fun _ hk => hk.2) (.int .i64 ((rd_T39 ((rd_T36 l0 x4_2).f8) x6_3).f0))) (fun _ hk => hk.2) (.int .i64 ((rd_T39 ((rd_T36 l0 x4_2).f8) x6_3).f1))) (fun _ hk => hk.2) (.string ((rd_T39 ((rd_T36 l0 x4_2).f8) x6_3).f2))) (fun _ hk => ⟨⟨hk.1.1.1, ⟨hk.1.1.2.1, hk.1.2⟩⟩, hk.1.1.2.2⟩)) hg hat); have n1_ := Aside0.mk (Kd.N_afterv (ok := (fun k_ => (P0_ k_ ∨ w.heap.size ≤ k_) ∧ k_ ≠ gb313)) (by (with_reducible repeat (first | apply Kd.N_alloc | apply Kd.N_drewN | apply Kd.N_drew)); exact Kd.N_mono (Kd.N_far (p := ⟨gb313, 2, none⟩) (Kd.N_far (p := ⟨gb313, 1, none⟩) (Kd.N_far (p := ⟨gb313, 0, none⟩) (Kd.N_mono HO_3.out (fun k_ hk => (⟨hk, hk.2⟩ : _ ∧ k_ ≠ gb313))) (fun _ hk => hk.2) (.int .i64 ((rd_T39 ((rd_T36 l0 x4_2).f8) x6_3).f0))) (fun _ hk => hk.2) (.int .i64 ((rd_T39 ((rd_T36 l0 x4_2).f8) x6_3).f1))) (fun _ hk => hk.2) (.string ((rd_T39 ((rd_T36 l0 x4_2).f8) x6_3).f2))) (fun _ hk => ⟨⟨hk.1.1.1, hk.1.2⟩, hk.1.1.2⟩)) hg hat); have n2_ := Aside0.mk (Kd.V_afterv (ok := (fun k_ => (P0_ k_ ∨ w.heap.size ≤ k_) ∧ some k_ ≠ (u3 : Value).ownBlock ∧ k_ ≠ gb313)) (by (with_reducible repeat (first | apply Kd.V_alloc | apply Kd.V_drewN | apply Kd.V_drew)); exact Kd.V_mono (Kd.V_far (p := ⟨gb313, 2, none⟩) (Kd.V_far (p := ⟨gb313, 1, none⟩) (Kd.V_far (p := ⟨gb313, 0, none⟩) (Kd.V_mono HL310_8.out (fun k_ hk => (⟨hk, hk.2⟩ : _ ∧ k_ ≠ gb313))) (fun _ hk => hk.2) (.int .i64 ((rd_T39 ((rd_T36 l0 x4_2).f8) x6_3).f0))) (fun _ hk => hk.2) (.int .i64 ((rd_T39 ((rd_T36 l0 x4_2).f8) x6_3).f1))) (fun _ hk => hk.2) (.string ((rd_T39 ((rd_T36 l0 x4_2).f8) x6_3).f2))) (fun _ hk => ⟨⟨hk.1.1.1, ⟨hk.1.1.2.1, hk.1.2⟩⟩, hk.1.1.2.2⟩)) hg hat); have n3_ := Aside0.mk (Kd.V_afterv (ok := (fun k_ => (P0_ k_ ∨ w.heap.size ≤ k_) ∧ some k_ ≠ (u3 : Value).ownBlock ∧ k_ ≠ gb313)) (by (with_reducible repeat (first | apply Kd.V_alloc | apply Kd.V_drewN | apply Kd.V_drew)); exact Kd.V_mono (Kd.V_far (p := ⟨gb313, 2, none⟩) (Kd.V_far (p := ⟨gb313, 1, none⟩) (Kd.V_far (p := ⟨gb313, 0, none⟩) (Kd.V_mono HL311_8.out (fun k_ hk => (⟨hk, hk.2⟩ : _ ∧ k_ ≠ gb313))) (fun _ hk => hk.2) (.int .i64 ((rd_T39 ((rd_T36 l0 x4_2).f8) x6_3).f0))) (fun _ hk => hk.2) (.int .i64 ((rd_T39 ((rd_T36 l0 x4_2).f8) x6_3).f1))) (fun _ hk => hk.2) (.string ((rd_T39 ((rd_T36 l0 x4_2).f8) x6_3).f2))) (fun _ hk => ⟨⟨hk.1.1.1, ⟨hk.1.1.2.1, hk.1.2⟩⟩, hk.1.1.2.2⟩)) hg hat); have n4_ := Aside0.mk (blk_grown (g := gb313) (o := .cells #[.int .i64 ((rd_T39 ((rd_T36 l0 x4_2).f8) x6_3).f0), .int .i64 ((rd_T39 ((rd_T36 l0 x4_2).f8) x6_3).f1), .string ((rd_T39 ((rd_T36 l0 x4_2).f8) x6_3).f2)] 39 (0, 0)) (by (with_reducible repeat (first | refine blk_drewN ?_ _ | refine blk_drew ?_ | refine blk_alloc ?_ _)); refine blk_put (cs := #[.int .i64 ((rd_T39 ((rd_T36 l0 x4_2).f8) x6_3).f0), .int .i64 ((rd_T39 ((rd_T36 l0 x4_2).f8) x6_3).f1), .string (⟨#[]⟩ : ByteArray)]) ?_ 2 _ rfl; (with_reducible repeat (first | refine blk_drewN ?_ _ | refine blk_drew ?_ | refine blk_alloc ?_ _)); refine blk_put (cs := #[.int .i64 ((rd_T39 ((rd_T36 l0 x4_2).f8) x6_3).f0), .int .i64 0, .string (⟨#[]⟩ : ByteArray)]) ?_ 1 _ rfl; (with_reducible repeat (first | refine blk_drewN ?_ _ | refine blk_drew ?_ | refine blk_alloc ?_ _)); refine blk_put (cs := #[.int .i64 0, .int .i64 0, .string (⟨#[]⟩ : ByteArray)]) ?_ 0 _ rfl; (with_reducible repeat (first | refine blk_drewN ?_ _ | refine blk_drew ?_ | refine blk_alloc ?_ _)); exact BK313.out) hg (Kd.R_away HO_5.out (fun _ hk => hk.2))); have n5_ := Aside0.mk (hb); have n6_ := Aside0.mk (ho); clear HO_0; clear HO_3; clear HL310_8; clear HL311_8; clear BK313; clear HB; clear HO_5; have HO_0 := n0_; have HO_3 := n1_; have HL310_8 := n2_; have HL311_8 := n3_; have BK313 := n4_; have HB := n5_; have HO316 := n6_; clear n0_ n1_ n2_ n3_ n4_ n5_ n6_; clear ho hb hg hat))
                              repeat (go_quiet (first | ((with_reducible refine gate_dst (N := 7) rfl ?_); refine box_event ?hg (N := 7) ?hd (cs := #[.int .i64 0, .int .i64 0, .string (⟨#[]⟩ : ByteArray)]) (t := 39) ?hr ?_; (case hd => rfl); (case hg => rfl); (case hr => first | (go_simp; done) | (go_simp; rfl)); intro gb313 hg w18 hbox hb; have n0_ := Aside0.mk (Kd.V_below (Kd.V_elderB (by (with_reducible repeat (first | apply Kd.V_alloc | apply Kd.V_drewN | apply Kd.V_drew)); exact HO_0.out) gb313 (Nat.le_of_eq hg.symm)) hb); have n1_ := Aside0.mk (Kd.N_below (Kd.N_elderB (by (with_reducible repeat (first | apply Kd.N_alloc | apply Kd.N_drewN | apply Kd.N_drew)); exact HO_3.out) gb313 (Nat.le_of_eq hg.symm)) hb); have n2_ := Aside0.mk (Kd.R_below (Kd.R_elderB (by (with_reducible repeat (first | apply Kd.R_alloc | apply Kd.R_drewN | apply Kd.R_drew)); exact HO_5.out) gb313 (Nat.le_of_eq hg.symm)) hb); have n3_ := Aside0.mk (Kd.V_below (Kd.V_elderB (by (with_reducible repeat (first | apply Kd.V_alloc | apply Kd.V_drewN | apply Kd.V_drew)); exact HL310_8.out) gb313 (Nat.le_of_eq hg.symm)) hb); have n4_ := Aside0.mk (Kd.V_below (Kd.V_elderB (by (with_reducible repeat (first | apply Kd.V_alloc | apply Kd.V_drewN | apply Kd.V_drew)); exact HL311_8.out) gb313 (Nat.le_of_eq hg.symm)) hb); have n5_ := Aside0.mk (Kd.C_below (by repeat (first | (with_reducible exact HR310_8.out) | (with_reducible refine Kd.C_alloc ?_ _) | (with_reducible refine Kd.C_drewN ?_ _) | (with_reducible refine Kd.C_drew ?_) | exact HR310_8.out)) hb); have n6_ := Aside0.mk (Kd.C_below (by repeat (first | (with_reducible exact HR311_8.out) | (with_reducible refine Kd.C_alloc ?_ _) | (with_reducible refine Kd.C_drewN ?_ _) | (with_reducible refine Kd.C_drew ?_) | exact HR311_8.out)) hb); have nn_ := bT hb hg; have n7_ := Aside0.mk nn_.1; have n8_ := Aside0.mk (hbox); have n9_ := Aside0.mk nn_.2; clear nn_; have n10_ := n9_; clear HO_0; clear HO_3; clear HO_5; clear HL310_8; clear HL311_8; clear HR310_8; clear HR311_8; clear HB; have HO_0 := n0_; have HO_3 := n1_; have HO_5 := n2_; have HL310_8 := n3_; have HL311_8 := n4_; have HR310_8 := n5_; have HR311_8 := n6_; have HB := n7_; have BK313 := n8_; have GW313 := n9_; have GE313 := n10_; clear n0_ n1_ n2_ n3_ n4_ n5_ n6_ n7_ n8_ n9_ n10_; clear hb hbox hg; have hcz19_0 : w18.cell? ⟨gb313, 0, none⟩ = some (.int .i64 0) := (blk_cell BK313.out 0).trans rfl; have hcz19_1 : w18.cell? ⟨gb313, 1, none⟩ = some (.int .i64 0) := (blk_cell BK313.out 1).trans rfl; have hcz19_2 : w18.cell? ⟨gb313, 2, none⟩ = some (.string (⟨#[]⟩ : ByteArray)) := (blk_cell BK313.out 2).trans rfl; have hfz19_0 := blk_frozen BK313.out 0; have hfz19_1 := blk_frozen BK313.out 1; have hfz19_2 := blk_frozen BK313.out 2) | ((with_reducible refine gate_builtin (b := .append) (xs := #[.tmp 48, .tmp 57]) rfl ?_); at_builtin; refine Kd.R_append k39 (w0 := w) w.heap.size rfl (.tmp 48) (.tmp 57) 33 39 (.agg #[(.int .i64 0), (.int .i64 0), (.string ⟨#[]⟩)]) 32 rfl Try.underlying33 info39 rfl (by decide) (by omega) u5 x5_3 (⟨(rd_T39 ((rd_T36 l0 x4_2).f8) x6_3).f0, wrap64 (-((rd_T39 ((rd_T36 l0 x4_2).f8) x6_3).f1)), (rd_T39 ((rd_T36 l0 x4_2).f8) x6_3).f2⟩ : S39) [.int .i64 ((rd_T39 ((rd_T36 l0 x4_2).f8) x6_3).f0), .int .i64 (wrap64 (-((rd_T39 ((rd_T36 l0 x4_2).f8) x6_3).f1))), .string ((rd_T39 ((rd_T36 l0 x4_2).f8) x6_3).f2)] (fun k_ => (w.heap.size ≤ k_) ∧ k_ ≠ gb313) (fun _ => False) rfl (by first | (go_simp; done) | (go_simp; rfl)) ?aP (fun _ hk => hk.elim) ?aF ?aO ?aB ?aS ?aL ?_; (case aP => exact k39_mkM _ _ _ (⟨(rd_T39 ((rd_T36 l0 x4_2).f8) x6_3).f0, wrap64 (-((rd_T39 ((rd_T36 l0 x4_2).f8) x6_3).f1)), (rd_T39 ((rd_T36 l0 x4_2).f8) x6_3).f2⟩ : S39)); (case aB => exact (bE)); (case aF => exact (fun k_ hk => ⟨(Nat.le_trans (below_size (bE)) hk), Kd.freshB (g := gb313) (o := .cells #[.int .i64 ((rd_T39 ((rd_T36 l0 x4_2).f8) x6_3).f0), .int .i64 ((rd_T39 ((rd_T36 l0 x4_2).f8) x6_3).f1), .string ((rd_T39 ((rd_T36 l0 x4_2).f8) x6_3).f2)] 39 (0, 0)) (by (with_reducible repeat (first | refine blk_drewN ?_ _ | refine blk_drew ?_ | refine blk_alloc ?_ _)); refine blk_put (cs := #[.int .i64 ((rd_T39 ((rd_T36 l0 x4_2).f8) x6_3).f0), .int .i64 ((rd_T39 ((rd_T36 l0 x4_2).f8) x6_3).f1), .string (⟨#[]⟩ : ByteArray)]) ?_ 2 _ rfl; (with_reducible repeat (first | refine blk_drewN ?_ _ | refine blk_drew ?_ | refine blk_alloc ?_ _)); refine blk_put (cs := #[.int .i64 ((rd_T39 ((rd_T36 l0 x4_2).f8) x6_3).f0), .int .i64 0, .string (⟨#[]⟩ : ByteArray)]) ?_ 1 _ rfl; (with_reducible repeat (first | refine blk_drewN ?_ _ | refine blk_drew ?_ | refine blk_alloc ?_ _)); refine blk_put (cs := #[.int .i64 0, .int .i64 0, .string (⟨#[]⟩ : ByteArray)]) ?_ 0 _ rfl; (with_reducible repeat (first | refine blk_drewN ?_ _ | refine blk_drew ?_ | refine blk_alloc ?_ _)); exact BK313.out) k_ hk⟩)); (case aO => exact (by (with_reducible repeat (first | apply Kd.R_alloc | apply Kd.R_drewN | apply Kd.R_drew)); exact Kd.R_mono (Kd.R_far (p := ⟨gb313, 2, none⟩) (Kd.R_far (p := ⟨gb313, 1, none⟩) (Kd.R_far (p := ⟨gb313, 0, none⟩) (Kd.R_mono HO_5.out (fun k_ hk => (⟨hk, hk.2⟩ : _ ∧ k_ ≠ gb313))) (fun _ hk => hk.2) (.int .i64 ((rd_T39 ((rd_T36 l0 x4_2).f8) x6_3).f0))) (fun _ hk => hk.2) (.int .i64 ((rd_T39 ((rd_T36 l0 x4_2).f8) x6_3).f1))) (fun _ hk => hk.2) (.string ((rd_T39 ((rd_T36 l0 x4_2).f8) x6_3).f2))) (fun _ hk => ⟨hk.1.1, hk.1.2⟩))); (case aS => exact (below_size (bE))); (case aL => have := LMc17.out; omega); intro v315 w20 ho hb hg hat; rw [← Ny314.out] at ho; have n0_ := Aside0.mk (Kd.V_afterv (ok := (fun k_ => (P0_ k_ ∨ w.heap.size ≤ k_) ∧ some k_ ≠ (u3 : Value).ownBlock ∧ k_ ≠ gb313)) (by (with_reducible repeat (first | apply Kd.V_alloc | apply Kd.V_drewN | apply Kd.V_drew)); exact Kd.V_mono (Kd.V_far (p := ⟨gb313, 2, none⟩) (Kd.V_far (p := ⟨gb313, 1, none⟩) (Kd.V_far (p := ⟨gb313, 0, none⟩) (Kd.V_mono HO_0.out (fun k_ hk => (⟨hk, hk.2⟩ : _ ∧ k_ ≠ gb313))) (fun _ hk => hk.2) (.int .i64 ((rd_T39 ((rd_T36 l0 x4_2).f8) x6_3).f0))) (fun _ hk => hk.2) (.int .i64 ((rd_T39 ((rd_T36 l0 x4_2).f8) x6_3).f1))) (fun _ hk => hk.2) (.string ((rd_T39 ((rd_T36 l0 x4_2).f8) x6_3).f2))) (fun _ hk => ⟨⟨hk.1.1.1, ⟨hk.1.1.2.1, hk.1.2⟩⟩, hk.1.1.2.2⟩)) hg hat); have n1_ := Aside0.mk (Kd.N_afterv (ok := (fun k_ => (P0_ k_ ∨ w.heap.size ≤ k_) ∧ k_ ≠ gb313)) (by (with_reducible repeat (first | apply Kd.N_alloc | apply Kd.N_drewN | apply Kd.N_drew)); exact Kd.N_mono (Kd.N_far (p := ⟨gb313, 2, none⟩) (Kd.N_far (p := ⟨gb313, 1, none⟩) (Kd.N_far (p := ⟨gb313, 0, none⟩) (Kd.N_mono HO_3.out (fun k_ hk => (⟨hk, hk.2⟩ : _ ∧ k_ ≠ gb313))) (fun _ hk => hk.2) (.int .i64 ((rd_T39 ((rd_T36 l0 x4_2).f8) x6_3).f0))) (fun _ hk => hk.2) (.int .i64 ((rd_T39 ((rd_T36 l0 x4_2).f8) x6_3).f1))) (fun _ hk => hk.2) (.string ((rd_T39 ((rd_T36 l0 x4_2).f8) x6_3).f2))) (fun _ hk => ⟨⟨hk.1.1.1, hk.1.2⟩, hk.1.1.2⟩)) hg hat); have n2_ := Aside0.mk (Kd.V_afterv (ok := (fun k_ => (P0_ k_ ∨ w.heap.size ≤ k_) ∧ some k_ ≠ (u3 : Value).ownBlock ∧ k_ ≠ gb313)) (by (with_reducible repeat (first | apply Kd.V_alloc | apply Kd.V_drewN | apply Kd.V_drew)); exact Kd.V_mono (Kd.V_far (p := ⟨gb313, 2, none⟩) (Kd.V_far (p := ⟨gb313, 1, none⟩) (Kd.V_far (p := ⟨gb313, 0, none⟩) (Kd.V_mono HL310_8.out (fun k_ hk => (⟨hk, hk.2⟩ : _ ∧ k_ ≠ gb313))) (fun _ hk => hk.2) (.int .i64 ((rd_T39 ((rd_T36 l0 x4_2).f8) x6_3).f0))) (fun _ hk => hk.2) (.int .i64 ((rd_T39 ((rd_T36 l0 x4_2).f8) x6_3).f1))) (fun _ hk => hk.2) (.string ((rd_T39 ((rd_T36 l0 x4_2).f8) x6_3).f2))) (fun _ hk => ⟨⟨hk.1.1.1, ⟨hk.1.1.2.1, hk.1.2⟩⟩, hk.1.1.2.2⟩)) hg hat); have n3_ := Aside0.mk (Kd.V_afterv (ok := (fun k_ => (P0_ k_ ∨ w.heap.size ≤ k_) ∧ some k_ ≠ (u3 : Value).ownBlock ∧ k_ ≠ gb313)) (by (with_reducible repeat (first | apply Kd.V_alloc | apply Kd.V_drewN | apply Kd.V_drew)); exact Kd.V_mono (Kd.V_far (p := ⟨gb313, 2, none⟩) (Kd.V_far (p := ⟨gb313, 1, none⟩) (Kd.V_far (p := ⟨gb313, 0, none⟩) (Kd.V_mono HL311_8.out (fun k_ hk => (⟨hk, hk.2⟩ : _ ∧ k_ ≠ gb313))) (fun _ hk => hk.2) (.int .i64 ((rd_T39 ((rd_T36 l0 x4_2).f8) x6_3).f0))) (fun _ hk => hk.2) (.int .i64 ((rd_T39 ((rd_T36 l0 x4_2).f8) x6_3).f1))) (fun _ hk => hk.2) (.string ((rd_T39 ((rd_T36 l0 x4_2).f8) x6_3).f2))) (fun _ hk => ⟨⟨hk.1.1.1, ⟨hk.1.1.2.1, hk.1.2⟩⟩, hk.1.1.2.2⟩)) hg hat); have n4_ := Aside0.mk (blk_grown (g := gb313) (o := .cells #[.int .i64 ((rd_T39 ((rd_T36 l0 x4_2).f8) x6_3).f0), .int .i64 ((rd_T39 ((rd_T36 l0 x4_2).f8) x6_3).f1), .string ((rd_T39 ((rd_T36 l0 x4_2).f8) x6_3).f2)] 39 (0, 0)) (by (with_reducible repeat (first | refine blk_drewN ?_ _ | refine blk_drew ?_ | refine blk_alloc ?_ _)); refine blk_put (cs := #[.int .i64 ((rd_T39 ((rd_T36 l0 x4_2).f8) x6_3).f0), .int .i64 ((rd_T39 ((rd_T36 l0 x4_2).f8) x6_3).f1), .string (⟨#[]⟩ : ByteArray)]) ?_ 2 _ rfl; (with_reducible repeat (first | refine blk_drewN ?_ _ | refine blk_drew ?_ | refine blk_alloc ?_ _)); refine blk_put (cs := #[.int .i64 ((rd_T39 ((rd_T36 l0 x4_2).f8) x6_3).f0), .int .i64 0, .string (⟨#[]⟩ : ByteArray)]) ?_ 1 _ rfl; (with_reducible repeat (first | refine blk_drewN ?_ _ | refine blk_drew ?_ | refine blk_alloc ?_ _)); refine blk_put (cs := #[.int .i64 0, .int .i64 0, .string (⟨#[]⟩ : ByteArray)]) ?_ 0 _ rfl; (with_reducible repeat (first | refine blk_drewN ?_ _ | refine blk_drew ?_ | refine blk_alloc ?_ _)); exact BK313.out) hg (Kd.R_away HO_5.out (fun _ hk => hk.2))); have n5_ := Aside0.mk (hb); have n6_ := Aside0.mk (ho); clear HO_0; clear HO_3; clear HL310_8; clear HL311_8; clear BK313; clear HB; clear HO_5; have HO_0 := n0_; have HO_3 := n1_; have HL310_8 := n2_; have HL311_8 := n3_; have BK313 := n4_; have HB := n5_; have HO316 := n6_; clear n0_ n1_ n2_ n3_ n4_ n5_ n6_; clear ho hb hg hat)); try go_wp2_with (first | ((with_reducible refine gate_dst (N := 7) rfl ?_); refine box_event ?hg (N := 7) ?hd (cs := #[.int .i64 0, .int .i64 0, .string (⟨#[]⟩ : ByteArray)]) (t := 39) ?hr ?_; (case hd => rfl); (case hg => rfl); (case hr => first | (go_simp; done) | (go_simp; rfl)); intro gb313 hg w18 hbox hb; have n0_ := Aside0.mk (Kd.V_below (Kd.V_elderB (by (with_reducible repeat (first | apply Kd.V_alloc | apply Kd.V_drewN | apply Kd.V_drew)); exact HO_0.out) gb313 (Nat.le_of_eq hg.symm)) hb); have n1_ := Aside0.mk (Kd.N_below (Kd.N_elderB (by (with_reducible repeat (first | apply Kd.N_alloc | apply Kd.N_drewN | apply Kd.N_drew)); exact HO_3.out) gb313 (Nat.le_of_eq hg.symm)) hb); have n2_ := Aside0.mk (Kd.R_below (Kd.R_elderB (by (with_reducible repeat (first | apply Kd.R_alloc | apply Kd.R_drewN | apply Kd.R_drew)); exact HO_5.out) gb313 (Nat.le_of_eq hg.symm)) hb); have n3_ := Aside0.mk (Kd.V_below (Kd.V_elderB (by (with_reducible repeat (first | apply Kd.V_alloc | apply Kd.V_drewN | apply Kd.V_drew)); exact HL310_8.out) gb313 (Nat.le_of_eq hg.symm)) hb); have n4_ := Aside0.mk (Kd.V_below (Kd.V_elderB (by (with_reducible repeat (first | apply Kd.V_alloc | apply Kd.V_drewN | apply Kd.V_drew)); exact HL311_8.out) gb313 (Nat.le_of_eq hg.symm)) hb); have n5_ := Aside0.mk (Kd.C_below (by repeat (first | (with_reducible exact HR310_8.out) | (with_reducible refine Kd.C_alloc ?_ _) | (with_reducible refine Kd.C_drewN ?_ _) | (with_reducible refine Kd.C_drew ?_) | exact HR310_8.out)) hb); have n6_ := Aside0.mk (Kd.C_below (by repeat (first | (with_reducible exact HR311_8.out) | (with_reducible refine Kd.C_alloc ?_ _) | (with_reducible refine Kd.C_drewN ?_ _) | (with_reducible refine Kd.C_drew ?_) | exact HR311_8.out)) hb); have nn_ := bT hb hg; have n7_ := Aside0.mk nn_.1; have n8_ := Aside0.mk (hbox); have n9_ := Aside0.mk nn_.2; clear nn_; have n10_ := n9_; clear HO_0; clear HO_3; clear HO_5; clear HL310_8; clear HL311_8; clear HR310_8; clear HR311_8; clear HB; have HO_0 := n0_; have HO_3 := n1_; have HO_5 := n2_; have HL310_8 := n3_; have HL311_8 := n4_; have HR310_8 := n5_; have HR311_8 := n6_; have HB := n7_; have BK313 := n8_; have GW313 := n9_; have GE313 := n10_; clear n0_ n1_ n2_ n3_ n4_ n5_ n6_ n7_ n8_ n9_ n10_; clear hb hbox hg; have hcz19_0 : w18.cell? ⟨gb313, 0, none⟩ = some (.int .i64 0) := (blk_cell BK313.out 0).trans rfl; have hcz19_1 : w18.cell? ⟨gb313, 1, none⟩ = some (.int .i64 0) := (blk_cell BK313.out 1).trans rfl; have hcz19_2 : w18.cell? ⟨gb313, 2, none⟩ = some (.string (⟨#[]⟩ : ByteArray)) := (blk_cell BK313.out 2).trans rfl; have hfz19_0 := blk_frozen BK313.out 0; have hfz19_1 := blk_frozen BK313.out 1; have hfz19_2 := blk_frozen BK313.out 2) | ((with_reducible refine gate_builtin (b := .append) (xs := #[.tmp 48, .tmp 57]) rfl ?_); at_builtin; refine Kd.R_append k39 (w0 := w) w.heap.size rfl (.tmp 48) (.tmp 57) 33 39 (.agg #[(.int .i64 0), (.int .i64 0), (.string ⟨#[]⟩)]) 32 rfl Try.underlying33 info39 rfl (by decide) (by omega) u5 x5_3 (⟨(rd_T39 ((rd_T36 l0 x4_2).f8) x6_3).f0, wrap64 (-((rd_T39 ((rd_T36 l0 x4_2).f8) x6_3).f1)), (rd_T39 ((rd_T36 l0 x4_2).f8) x6_3).f2⟩ : S39) [.int .i64 ((rd_T39 ((rd_T36 l0 x4_2).f8) x6_3).f0), .int .i64 (wrap64 (-((rd_T39 ((rd_T36 l0 x4_2).f8) x6_3).f1))), .string ((rd_T39 ((rd_T36 l0 x4_2).f8) x6_3).f2)] (fun k_ => (w.heap.size ≤ k_) ∧ k_ ≠ gb313) (fun _ => False) rfl (by first | (go_simp; done) | (go_simp; rfl)) ?aP (fun _ hk => hk.elim) ?aF ?aO ?aB ?aS ?aL ?_; (case aP => exact k39_mkM _ _ _ (⟨(rd_T39 ((rd_T36 l0 x4_2).f8) x6_3).f0, wrap64 (-((rd_T39 ((rd_T36 l0 x4_2).f8) x6_3).f1)), (rd_T39 ((rd_T36 l0 x4_2).f8) x6_3).f2⟩ : S39)); (case aB => exact (bE)); (case aF => exact (fun k_ hk => ⟨(Nat.le_trans (below_size (bE)) hk), Kd.freshB (g := gb313) (o := .cells #[.int .i64 ((rd_T39 ((rd_T36 l0 x4_2).f8) x6_3).f0), .int .i64 ((rd_T39 ((rd_T36 l0 x4_2).f8) x6_3).f1), .string ((rd_T39 ((rd_T36 l0 x4_2).f8) x6_3).f2)] 39 (0, 0)) (by (with_reducible repeat (first | refine blk_drewN ?_ _ | refine blk_drew ?_ | refine blk_alloc ?_ _)); refine blk_put (cs := #[.int .i64 ((rd_T39 ((rd_T36 l0 x4_2).f8) x6_3).f0), .int .i64 ((rd_T39 ((rd_T36 l0 x4_2).f8) x6_3).f1), .string (⟨#[]⟩ : ByteArray)]) ?_ 2 _ rfl; (with_reducible repeat (first | refine blk_drewN ?_ _ | refine blk_drew ?_ | refine blk_alloc ?_ _)); refine blk_put (cs := #[.int .i64 ((rd_T39 ((rd_T36 l0 x4_2).f8) x6_3).f0), .int .i64 0, .string (⟨#[]⟩ : ByteArray)]) ?_ 1 _ rfl; (with_reducible repeat (first | refine blk_drewN ?_ _ | refine blk_drew ?_ | refine blk_alloc ?_ _)); refine blk_put (cs := #[.int .i64 0, .int .i64 0, .string (⟨#[]⟩ : ByteArray)]) ?_ 0 _ rfl; (with_reducible repeat (first | refine blk_drewN ?_ _ | refine blk_drew ?_ | refine blk_alloc ?_ _)); exact BK313.out) k_ hk⟩)); (case aO => exact (by (with_reducible repeat (first | apply Kd.R_alloc | apply Kd.R_drewN | apply Kd.R_drew)); exact Kd.R_mono (Kd.R_far (p := ⟨gb313, 2, none⟩) (Kd.R_far (p := ⟨gb313, 1, none⟩) (Kd.R_far (p := ⟨gb313, 0, none⟩) (Kd.R_mono HO_5.out (fun k_ hk => (⟨hk, hk.2⟩ : _ ∧ k_ ≠ gb313))) (fun _ hk => hk.2) (.int .i64 ((rd_T39 ((rd_T36 l0 x4_2).f8) x6_3).f0))) (fun _ hk => hk.2) (.int .i64 ((rd_T39 ((rd_T36 l0 x4_2).f8) x6_3).f1))) (fun _ hk => hk.2) (.string ((rd_T39 ((rd_T36 l0 x4_2).f8) x6_3).f2))) (fun _ hk => ⟨hk.1.1, hk.1.2⟩))); (case aS => exact (below_size (bE))); (case aL => have := LMc17.out; omega); intro v315 w20 ho hb hg hat; rw [← Ny314.out] at ho; have n0_ := Aside0.mk (Kd.V_afterv (ok := (fun k_ => (P0_ k_ ∨ w.heap.size ≤ k_) ∧ some k_ ≠ (u3 : Value).ownBlock ∧ k_ ≠ gb313)) (by (with_reducible repeat (first | apply Kd.V_alloc | apply Kd.V_drewN | apply Kd.V_drew)); exact Kd.V_mono (Kd.V_far (p := ⟨gb313, 2, none⟩) (Kd.V_far (p := ⟨gb313, 1, none⟩) (Kd.V_far (p := ⟨gb313, 0, none⟩) (Kd.V_mono HO_0.out (fun k_ hk => (⟨hk, hk.2⟩ : _ ∧ k_ ≠ gb313))) (fun _ hk => hk.2) (.int .i64 ((rd_T39 ((rd_T36 l0 x4_2).f8) x6_3).f0))) (fun _ hk => hk.2) (.int .i64 ((rd_T39 ((rd_T36 l0 x4_2).f8) x6_3).f1))) (fun _ hk => hk.2) (.string ((rd_T39 ((rd_T36 l0 x4_2).f8) x6_3).f2))) (fun _ hk => ⟨⟨hk.1.1.1, ⟨hk.1.1.2.1, hk.1.2⟩⟩, hk.1.1.2.2⟩)) hg hat); have n1_ := Aside0.mk (Kd.N_afterv (ok := (fun k_ => (P0_ k_ ∨ w.heap.size ≤ k_) ∧ k_ ≠ gb313)) (by (with_reducible repeat (first | apply Kd.N_alloc | apply Kd.N_drewN | apply Kd.N_drew)); exact Kd.N_mono (Kd.N_far (p := ⟨gb313, 2, none⟩) (Kd.N_far (p := ⟨gb313, 1, none⟩) (Kd.N_far (p := ⟨gb313, 0, none⟩) (Kd.N_mono HO_3.out (fun k_ hk => (⟨hk, hk.2⟩ : _ ∧ k_ ≠ gb313))) (fun _ hk => hk.2) (.int .i64 ((rd_T39 ((rd_T36 l0 x4_2).f8) x6_3).f0))) (fun _ hk => hk.2) (.int .i64 ((rd_T39 ((rd_T36 l0 x4_2).f8) x6_3).f1))) (fun _ hk => hk.2) (.string ((rd_T39 ((rd_T36 l0 x4_2).f8) x6_3).f2))) (fun _ hk => ⟨⟨hk.1.1.1, hk.1.2⟩, hk.1.1.2⟩)) hg hat); have n2_ := Aside0.mk (Kd.V_afterv (ok := (fun k_ => (P0_ k_ ∨ w.heap.size ≤ k_) ∧ some k_ ≠ (u3 : Value).ownBlock ∧ k_ ≠ gb313)) (by (with_reducible repeat (first | apply Kd.V_alloc | apply Kd.V_drewN | apply Kd.V_drew)); exact Kd.V_mono (Kd.V_far (p := ⟨gb313, 2, none⟩) (Kd.V_far (p := ⟨gb313, 1, none⟩) (Kd.V_far (p := ⟨gb313, 0, none⟩) (Kd.V_mono HL310_8.out (fun k_ hk => (⟨hk, hk.2⟩ : _ ∧ k_ ≠ gb313))) (fun _ hk => hk.2) (.int .i64 ((rd_T39 ((rd_T36 l0 x4_2).f8) x6_3).f0))) (fun _ hk => hk.2) (.int .i64 ((rd_T39 ((rd_T36 l0 x4_2).f8) x6_3).f1))) (fun _ hk => hk.2) (.string ((rd_T39 ((rd_T36 l0 x4_2).f8) x6_3).f2))) (fun _ hk => ⟨⟨hk.1.1.1, ⟨hk.1.1.2.1, hk.1.2⟩⟩, hk.1.1.2.2⟩)) hg hat); have n3_ := Aside0.mk (Kd.V_afterv (ok := (fun k_ => (P0_ k_ ∨ w.heap.size ≤ k_) ∧ some k_ ≠ (u3 : Value).ownBlock ∧ k_ ≠ gb313)) (by (with_reducible repeat (first | apply Kd.V_alloc | apply Kd.V_drewN | apply Kd.V_drew)); exact Kd.V_mono (Kd.V_far (p := ⟨gb313, 2, none⟩) (Kd.V_far (p := ⟨gb313, 1, none⟩) (Kd.V_far (p := ⟨gb313, 0, none⟩) (Kd.V_mono HL311_8.out (fun k_ hk => (⟨hk, hk.2⟩ : _ ∧ k_ ≠ gb313))) (fun _ hk => hk.2) (.int .i64 ((rd_T39 ((rd_T36 l0 x4_2).f8) x6_3).f0))) (fun _ hk => hk.2) (.int .i64 ((rd_T39 ((rd_T36 l0 x4_2).f8) x6_3).f1))) (fun _ hk => hk.2) (.string ((rd_T39 ((rd_T36 l0 x4_2).f8) x6_3).f2))) (fun _ hk => ⟨⟨hk.1.1.1, ⟨hk.1.1.2.1, hk.1.2⟩⟩, hk.1.1.2.2⟩)) hg hat); have n4_ := Aside0.mk (blk_grown (g := gb313) (o := .cells #[.int .i64 ((rd_T39 ((rd_T36 l0 x4_2).f8) x6_3).f0), .int .i64 ((rd_T39 ((rd_T36 l0 x4_2).f8) x6_3).f1), .string ((rd_T39 ((rd_T36 l0 x4_2).f8) x6_3).f2)] 39 (0, 0)) (by (with_reducible repeat (first | refine blk_drewN ?_ _ | refine blk_drew ?_ | refine blk_alloc ?_ _)); refine blk_put (cs := #[.int .i64 ((rd_T39 ((rd_T36 l0 x4_2).f8) x6_3).f0), .int .i64 ((rd_T39 ((rd_T36 l0 x4_2).f8) x6_3).f1), .string (⟨#[]⟩ : ByteArray)]) ?_ 2 _ rfl; (with_reducible repeat (first | refine blk_drewN ?_ _ | refine blk_drew ?_ | refine blk_alloc ?_ _)); refine blk_put (cs := #[.int .i64 ((rd_T39 ((rd_T36 l0 x4_2).f8) x6_3).f0), .int .i64 0, .string (⟨#[]⟩ : ByteArray)]) ?_ 1 _ rfl; (with_reducible repeat (first | refine blk_drewN ?_ _ | refine blk_drew ?_ | refine blk_alloc ?_ _)); refine blk_put (cs := #[.int .i64 0, .int .i64 0, .string (⟨#[]⟩ : ByteArray)]) ?_ 0 _ rfl; (with_reducible repeat (first | refine blk_drewN ?_ _ | refine blk_drew ?_ | refine blk_alloc ?_ _)); exact BK313.out) hg (Kd.R_away HO_5.out (fun _ hk => hk.2))); have n5_ := Aside0.mk (hb); have n6_ := Aside0.mk (ho); clear HO_0; clear HO_3; clear HL310_8; clear HL311_8; clear BK313; clear HB; clear HO_5; have HO_0 := n0_; have HO_3 := n1_; have HL310_8 := n2_; have HL311_8 := n3_; have BK313 := n4_; have HB := n5_; have HO316 := n6_; clear n0_ n1_ n2_ n3_ n4_ n5_ n6_; clear ho hb hg hat)))
                              go_roundg k3
                              case measure => have := HJ1.out; have := HK2.out; have := HK3.out; omega
                              case rel => exact ⟨(y314), (wrap64 (x6_3 + 1)), (by first | rfl | (simp; done) | (simp [*]; done)), H', ⟨by have := HJ1.out; have := HK2.out; have := HK3.out; omega⟩, ⟨by (with_reducible repeat (first | apply Kd.V_alloc | apply Kd.V_drewN | apply Kd.V_drew)); exact Kd.V_mono HO_0.out (fun _ hk => ⟨hk.1.1, ⟨hk.1.2.1, hk.2⟩⟩)⟩, ⟨by (with_reducible repeat (first | apply Kd.N_alloc | apply Kd.N_drewN | apply Kd.N_drew)); exact Kd.N_mono HO_3.out (fun _ hk => ⟨hk.1.1, hk.2⟩)⟩, ⟨by (with_reducible repeat (first | apply Kd.R_alloc | apply Kd.R_drewN | apply Kd.R_drew)); exact Kd.R_mono HO316.out (fun _ hk => hk.1)⟩, ⟨bE⟩⟩
                            · rw [if_neg c17] at H
                              exact absurd H (by simp)
                          · rw [if_neg c16] at H
                            exact absurd H (by simp)
                        · rw [if_neg c15] at H
                          have c15b0 : decide (x6_3 < (((rd_T36 l0 x4_2).f8).length : Int)) = false := decide_eq_false c15
                          clear c15
                          by_cases c21 : x3_2.length < 1256584717458
                          · rw [if_pos c21] at H
                            have LMc21 := Aside0.mk c21
                            clear c21
                            obtain ⟨y317, hy317⟩ : ∃ y_ : List (S36), y_ = (x3_2 ++ [(⟨0, 0, 0, 0, 0, 0, (⟨#[]⟩ : ByteArray), (⟨#[]⟩ : ByteArray), x5_3, 0⟩ : S36)]) := ⟨_, rfl⟩
                            replace H : (corebanklaw21_BalanceZero.l0 k3 l0 y317 (wrap64 (x4_2 + 1))) = some r := by first | (rw [hy317]; with_reducible exact H) | (have H2_ := (Option.bind_some _ _).symm.trans H; rw [hy317]; with_reducible exact H2_) | (have H2_ := (Option.bind_some _ _).symm.trans H; with_reducible exact H2_) | with_reducible exact H | (rw [hy317]; exact H) | exact H
                            have Ny317 := Aside0.mk hy317
                            clear hy317
                            have H' := Aside0.mk H
                            clear H
                            have p310 : 0 ≤ (x4_2 : Int) := of_decide_eq_true (by first | (with_reducible assumption) | assumption)
                            have q310 : x4_2 < (l0.length : Int) := of_decide_eq_true (by first | (with_reducible assumption) | assumption)
                            obtain ⟨ad310, A310_8, c310_8, e310, hx310_0, hx310_1, hx310_2, hx310_3, hx310_4, hx310_5, hx310_6, hx310_7, hx310_8, hx310_9, hl310_8, hi310_8⟩ := at_T36 (Kd.V_reads' HO_0.out).2.2 x4_2 p310 q310
                            cases e310
                            obtain ⟨ce310, hce310, hMe310, hcc310⟩ := Kd.V_get HO_0.out z36 x4_2 p310 (by first | exact q310 | exact of_decide_eq_true (by first | (with_reducible assumption) | assumption) | (have e_ := (Kd.V_reads' HO_0.out).1; omega))
                            obtain ⟨ua310_8, uc310_8, rfl, ul310_8, ge310_8⟩ := k36_openF hMe310
                            have hv310_8 := hcc310 8 _ rfl
                            rw [add_field _ _ 8 (by omega)] at hv310_8
                            replace hv310_8 := Option.some.inj (hv310_8.symm.trans hx310_8)
                            injection hv310_8 with hva_ hvn_ hvc_
                            rw [hva_] at ge310_8
                            rw [hvc_] at ul310_8
                            have HL310_8 := Aside0.mk (show Kd.V k39 39 _ w.heap.size _ _ ((rd_T36 l0 x4_2).f8) from Kd.V_mk ul310_8 ge310_8)
                            clear hva_ hvn_ hvc_ ge310_8 ul310_8
                            clear hcc310 hce310
                            have HR310_8 := Aside0.mk hi310_8
                            have HC310_8 := Aside0.mk hl310_8
                            clear hi310_8 hl310_8
                            replace p310 := eq_true p310
                            replace q310 := eq_true q310
                            obtain ⟨Ao22, co22, eo22⟩ := Kd.R_slice HO_5.out
                            subst eo22
                            go_wp2_with (first | ((with_reducible refine gate_builtin (b := .append) (xs := #[.tmp 59, .tmp 62]) rfl ?_); at_builtin; refine Kd.N_append k36 (w0 := w) w.heap.size rfl (.tmp 59) (.tmp 62) 22 36 (.agg #[(.int .i64 0), (.int .i64 0), (.int .i64 0), (.int .i64 0), (.int .i64 0), (.int .i64 0), (.string ⟨#[]⟩), (.string ⟨#[]⟩), (.slice none 0 0), (.int .u64 0)]) 112 rfl Try.underlying22 info36 rfl (by decide) (by omega) u3 x3_2 (⟨0, 0, 0, 0, 0, 0, (⟨#[]⟩ : ByteArray), (⟨#[]⟩ : ByteArray), x5_3, 0⟩ : S36) [.int .i64 0, .int .i64 0, .int .i64 0, .int .i64 0, .int .i64 0, .int .i64 0, .string (⟨#[]⟩ : ByteArray), .string (⟨#[]⟩ : ByteArray), .slice Ao22 x5_3.length co22, .int .u64 0] (fun k_ => (P0_ k_ ∨ w.heap.size ≤ k_)) (fun k_ => ((fun k_ => (P0_ k_ ∨ w.heap.size ≤ k_))) k_ ∧ some k_ ≠ (u3 : Value).ownBlock) rfl rfl ?aP (fun _ hk => hk) ?aF ?aO ?aB ?aS ?aL ?_; (case aP => exact (k36_mkF _ _ (⟨0, 0, 0, 0, 0, 0, (⟨#[]⟩ : ByteArray), (⟨#[]⟩ : ByteArray), x5_3, 0⟩ : S36) (Kd.R_reads' (Kd.R_mono (ok' := (fun k_ => ((fun k_ => (P0_ k_ ∨ w.heap.size ≤ k_))) k_ ∧ some k_ ≠ (u3 : Value).ownBlock)) (Kd.R_apart' (HO_5.out) (Kd.N_typed HO_3.out) (by decide)) (fun k_ hk => ⟨(.inr (hk.1)), hk.2⟩))).2.1 (Kd.R_F (Kd.R_mono (ok' := (fun k_ => ((fun k_ => (P0_ k_ ∨ w.heap.size ≤ k_))) k_ ∧ some k_ ≠ (u3 : Value).ownBlock)) (Kd.R_apart' (HO_5.out) (Kd.N_typed HO_3.out) (by decide)) (fun k_ hk => ⟨(.inr (hk.1)), hk.2⟩))))); (case aB => exact (bE)); (case aF => exact (fun k_ hk => (.inr (Nat.le_trans (below_size (bE)) hk)))); (case aO => exact (by (with_reducible repeat (first | apply Kd.N_alloc | apply Kd.N_drewN | apply Kd.N_drew)); exact Kd.N_mono HO_3.out (fun _ hk => hk.1))); (case aS => exact (below_size (bE))); (case aL => have := LMc21.out; omega); intro v318 w23 ho hb hg hat; rw [← Ny317.out] at ho; have n0_ := Aside0.mk (Kd.V_afterv (ok := (fun k_ => (P0_ k_ ∨ w.heap.size ≤ k_) ∧ some k_ ≠ (.slice Ao22 x5_3.length co22 : Value).ownBlock)) (by (with_reducible repeat (first | apply Kd.V_alloc | apply Kd.V_drewN | apply Kd.V_drew)); exact Kd.V_mono HO_0.out (fun _ hk => ⟨⟨hk.1, hk.2.2⟩, hk.2.1⟩)) hg hat); have n1_ := Aside0.mk (Kd.V_afterv (ok := (fun k_ => (P0_ k_ ∨ w.heap.size ≤ k_) ∧ some k_ ≠ (.slice Ao22 x5_3.length co22 : Value).ownBlock)) (by (with_reducible repeat (first | apply Kd.V_alloc | apply Kd.V_drewN | apply Kd.V_drew)); exact Kd.V_mono HL310_8.out (fun _ hk => ⟨⟨hk.1, hk.2.2⟩, hk.2.1⟩)) hg hat); have n2_ := Aside0.mk (hb); have n3_ := Aside0.mk (ho); clear HO_0; clear HL310_8; clear HB; clear HO_3; clear HO_5; have HO_0 := n0_; have HL310_8 := n1_; have HB := n2_; have HO319 := n3_; clear n0_ n1_ n2_ n3_; clear ho hb hg hat))
                            repeat (go_quiet (first | ((with_reducible refine gate_builtin (b := .append) (xs := #[.tmp 59, .tmp 62]) rfl ?_); at_builtin; refine Kd.N_append k36 (w0 := w) w.heap.size rfl (.tmp 59) (.tmp 62) 22 36 (.agg #[(.int .i64 0), (.int .i64 0), (.int .i64 0), (.int .i64 0), (.int .i64 0), (.int .i64 0), (.string ⟨#[]⟩), (.string ⟨#[]⟩), (.slice none 0 0), (.int .u64 0)]) 112 rfl Try.underlying22 info36 rfl (by decide) (by omega) u3 x3_2 (⟨0, 0, 0, 0, 0, 0, (⟨#[]⟩ : ByteArray), (⟨#[]⟩ : ByteArray), x5_3, 0⟩ : S36) [.int .i64 0, .int .i64 0, .int .i64 0, .int .i64 0, .int .i64 0, .int .i64 0, .string (⟨#[]⟩ : ByteArray), .string (⟨#[]⟩ : ByteArray), .slice Ao22 x5_3.length co22, .int .u64 0] (fun k_ => (P0_ k_ ∨ w.heap.size ≤ k_)) (fun k_ => ((fun k_ => (P0_ k_ ∨ w.heap.size ≤ k_))) k_ ∧ some k_ ≠ (u3 : Value).ownBlock) rfl rfl ?aP (fun _ hk => hk) ?aF ?aO ?aB ?aS ?aL ?_; (case aP => exact (k36_mkF _ _ (⟨0, 0, 0, 0, 0, 0, (⟨#[]⟩ : ByteArray), (⟨#[]⟩ : ByteArray), x5_3, 0⟩ : S36) (Kd.R_reads' (Kd.R_mono (ok' := (fun k_ => ((fun k_ => (P0_ k_ ∨ w.heap.size ≤ k_))) k_ ∧ some k_ ≠ (u3 : Value).ownBlock)) (Kd.R_apart' (HO_5.out) (Kd.N_typed HO_3.out) (by decide)) (fun k_ hk => ⟨(.inr (hk.1)), hk.2⟩))).2.1 (Kd.R_F (Kd.R_mono (ok' := (fun k_ => ((fun k_ => (P0_ k_ ∨ w.heap.size ≤ k_))) k_ ∧ some k_ ≠ (u3 : Value).ownBlock)) (Kd.R_apart' (HO_5.out) (Kd.N_typed HO_3.out) (by decide)) (fun k_ hk => ⟨(.inr (hk.1)), hk.2⟩))))); (case aB => exact (bE)); (case aF => exact (fun k_ hk => (.inr (Nat.le_trans (below_size (bE)) hk)))); (case aO => exact (by (with_reducible repeat (first | apply Kd.N_alloc | apply Kd.N_drewN | apply Kd.N_drew)); exact Kd.N_mono HO_3.out (fun _ hk => hk.1))); (case aS => exact (below_size (bE))); (case aL => have := LMc21.out; omega); intro v318 w23 ho hb hg hat; rw [← Ny317.out] at ho; have n0_ := Aside0.mk (Kd.V_afterv (ok := (fun k_ => (P0_ k_ ∨ w.heap.size ≤ k_) ∧ some k_ ≠ (.slice Ao22 x5_3.length co22 : Value).ownBlock)) (by (with_reducible repeat (first | apply Kd.V_alloc | apply Kd.V_drewN | apply Kd.V_drew)); exact Kd.V_mono HO_0.out (fun _ hk => ⟨⟨hk.1, hk.2.2⟩, hk.2.1⟩)) hg hat); have n1_ := Aside0.mk (Kd.V_afterv (ok := (fun k_ => (P0_ k_ ∨ w.heap.size ≤ k_) ∧ some k_ ≠ (.slice Ao22 x5_3.length co22 : Value).ownBlock)) (by (with_reducible repeat (first | apply Kd.V_alloc | apply Kd.V_drewN | apply Kd.V_drew)); exact Kd.V_mono HL310_8.out (fun _ hk => ⟨⟨hk.1, hk.2.2⟩, hk.2.1⟩)) hg hat); have n2_ := Aside0.mk (hb); have n3_ := Aside0.mk (ho); clear HO_0; clear HL310_8; clear HB; clear HO_3; clear HO_5; have HO_0 := n0_; have HL310_8 := n1_; have HB := n2_; have HO319 := n3_; clear n0_ n1_ n2_ n3_; clear ho hb hg hat)); try go_wp2_with (first | ((with_reducible refine gate_builtin (b := .append) (xs := #[.tmp 59, .tmp 62]) rfl ?_); at_builtin; refine Kd.N_append k36 (w0 := w) w.heap.size rfl (.tmp 59) (.tmp 62) 22 36 (.agg #[(.int .i64 0), (.int .i64 0), (.int .i64 0), (.int .i64 0), (.int .i64 0), (.int .i64 0), (.string ⟨#[]⟩), (.string ⟨#[]⟩), (.slice none 0 0), (.int .u64 0)]) 112 rfl Try.underlying22 info36 rfl (by decide) (by omega) u3 x3_2 (⟨0, 0, 0, 0, 0, 0, (⟨#[]⟩ : ByteArray), (⟨#[]⟩ : ByteArray), x5_3, 0⟩ : S36) [.int .i64 0, .int .i64 0, .int .i64 0, .int .i64 0, .int .i64 0, .int .i64 0, .string (⟨#[]⟩ : ByteArray), .string (⟨#[]⟩ : ByteArray), .slice Ao22 x5_3.length co22, .int .u64 0] (fun k_ => (P0_ k_ ∨ w.heap.size ≤ k_)) (fun k_ => ((fun k_ => (P0_ k_ ∨ w.heap.size ≤ k_))) k_ ∧ some k_ ≠ (u3 : Value).ownBlock) rfl rfl ?aP (fun _ hk => hk) ?aF ?aO ?aB ?aS ?aL ?_; (case aP => exact (k36_mkF _ _ (⟨0, 0, 0, 0, 0, 0, (⟨#[]⟩ : ByteArray), (⟨#[]⟩ : ByteArray), x5_3, 0⟩ : S36) (Kd.R_reads' (Kd.R_mono (ok' := (fun k_ => ((fun k_ => (P0_ k_ ∨ w.heap.size ≤ k_))) k_ ∧ some k_ ≠ (u3 : Value).ownBlock)) (Kd.R_apart' (HO_5.out) (Kd.N_typed HO_3.out) (by decide)) (fun k_ hk => ⟨(.inr (hk.1)), hk.2⟩))).2.1 (Kd.R_F (Kd.R_mono (ok' := (fun k_ => ((fun k_ => (P0_ k_ ∨ w.heap.size ≤ k_))) k_ ∧ some k_ ≠ (u3 : Value).ownBlock)) (Kd.R_apart' (HO_5.out) (Kd.N_typed HO_3.out) (by decide)) (fun k_ hk => ⟨(.inr (hk.1)), hk.2⟩))))); (case aB => exact (bE)); (case aF => exact (fun k_ hk => (.inr (Nat.le_trans (below_size (bE)) hk)))); (case aO => exact (by (with_reducible repeat (first | apply Kd.N_alloc | apply Kd.N_drewN | apply Kd.N_drew)); exact Kd.N_mono HO_3.out (fun _ hk => hk.1))); (case aS => exact (below_size (bE))); (case aL => have := LMc21.out; omega); intro v318 w23 ho hb hg hat; rw [← Ny317.out] at ho; have n0_ := Aside0.mk (Kd.V_afterv (ok := (fun k_ => (P0_ k_ ∨ w.heap.size ≤ k_) ∧ some k_ ≠ (.slice Ao22 x5_3.length co22 : Value).ownBlock)) (by (with_reducible repeat (first | apply Kd.V_alloc | apply Kd.V_drewN | apply Kd.V_drew)); exact Kd.V_mono HO_0.out (fun _ hk => ⟨⟨hk.1, hk.2.2⟩, hk.2.1⟩)) hg hat); have n1_ := Aside0.mk (Kd.V_afterv (ok := (fun k_ => (P0_ k_ ∨ w.heap.size ≤ k_) ∧ some k_ ≠ (.slice Ao22 x5_3.length co22 : Value).ownBlock)) (by (with_reducible repeat (first | apply Kd.V_alloc | apply Kd.V_drewN | apply Kd.V_drew)); exact Kd.V_mono HL310_8.out (fun _ hk => ⟨⟨hk.1, hk.2.2⟩, hk.2.1⟩)) hg hat); have n2_ := Aside0.mk (hb); have n3_ := Aside0.mk (ho); clear HO_0; clear HL310_8; clear HB; clear HO_3; clear HO_5; have HO_0 := n0_; have HL310_8 := n1_; have HB := n2_; have HO319 := n3_; clear n0_ n1_ n2_ n3_; clear ho hb hg hat)))
                            go_roundg k3
                            case measure => have := HJ1.out; have := HK2.out; have := HK3.out; omega
                            case rel => exact ⟨(y317), (wrap64 (x4_2 + 1)), (by first | rfl | (simp; done) | (simp [*]; done)), H', ⟨by have := HJ1.out; have := HK2.out; have := HK3.out; omega⟩, ⟨by (with_reducible repeat (first | apply Kd.V_alloc | apply Kd.V_drewN | apply Kd.V_drew)); exact Kd.V_mono HO_0.out (fun _ hk => ⟨hk.1.1, hk.2⟩)⟩, ⟨by (with_reducible repeat (first | apply Kd.N_alloc | apply Kd.N_drewN | apply Kd.N_drew)); exact HO319.out⟩, ⟨bE⟩⟩
                          · rw [if_neg c21] at H
                            exact absurd H (by simp)
                      · rw [if_neg c14] at H
                        exact absurd H (by simp)
                    · rw [if_neg c13] at H
                      exact absurd H (by simp)
              · rw [if_neg c12] at H
                have c12b0 : decide (x4_2 < (l0.length : Int)) = false := decide_eq_false c12
                clear c12
                replace H := Option.bind_eq_some_iff.mp H
                obtain ⟨t320, A240, H⟩ := H
                replace H : (if (t320.length : Int) = 0 then ((balance_Trial.f l0).bind fun t323 => (corebanklaw21_BalanceZero.l2 k2 l0 t323 0)) else (none)) = some r := H
                have A24 := Aside0.mk A240
                clear A240
                by_cases c25 : (t320.length : Int) = 0
                · rw [if_pos c25] at H
                  have c25b0 : ((t320.length : Int) == 0) = true := beq_iff_eq.mpr c25
                  have c25b1 : ((t320.length : Int) != 0) = false := bne_eq_false_iff_eq.mpr c25
                  clear c25
                  replace H := Option.bind_eq_some_iff.mp H
                  obtain ⟨t323, A260, H⟩ := H
                  replace H : (corebanklaw21_BalanceZero.l2 k2 l0 t323 0) = some r := H
                  have A26 := Aside0.mk A260
                  clear A260
                  have H' := Aside0.mk H
                  clear H
                  obtain ⟨Ao27, co27, eo27⟩ := Kd.N_slice HO_3.out
                  subst eo27
                  go_wp2_with (first | (go_at_call 14; (with_reducible refine (balance_Trial.calls _ _ x3_2 t320 _ ?side1 ?side2 A24.out).mono ?_); (case side1 => repeat (first | exact (Kd.N_reads' HO_3.out).2.2 | (with_reducible refine Kd.C_alloc ?_ _) | (with_reducible refine Kd.C_drewN ?_ _) | (with_reducible refine Kd.C_drew ?_))); (case side2 => exact (Kd.N_reads' HO_3.out).2.1); rintro e w28 ⟨v321, rfl, ho0, hb⟩; have n0_ := Aside0.mk (Kd.V_elder' (by (with_reducible repeat (first | apply Kd.V_alloc | apply Kd.V_drewN | apply Kd.V_drew)); exact HO_0.out) (Kd.R_base ho0) hb); have n1_ := Aside0.mk (Kd.N_elder' (by (with_reducible repeat (first | apply Kd.N_alloc | apply Kd.N_drewN | apply Kd.N_drew)); exact HO_3.out) (Kd.R_base ho0) hb); have n2_ := Aside0.mk (Kd.R_lower (Kd.R_newM (M := fun k_ => (w.heap.size ≤ k_)) ho0 (below_size (bE)) (fun k_ h_ => h_)) (below_size (bE))); have n3_ := Aside0.mk (bS hb); clear HO_0; clear HO_3; clear HB; have HO_0 := n0_; have HO_3 := n1_; have HO322 := n2_; have HB := n3_; clear n0_ n1_ n2_ n3_; (try clear hb); (try clear hb2); (try clear hk); (try clear hi); (try clear ho0); obtain ⟨Ao29, co29, eo29⟩ := Kd.R_slice HO322.out; subst eo29) | (go_at_call 14; (with_reducible refine (balance_Trial.calls _ _ l0 t323 _ ?side1 ?side2 A26.out).mono ?_); (case side1 => repeat (first | exact (Kd.V_reads' HO_0.out).2.2 | (with_reducible refine Kd.C_alloc ?_ _) | (with_reducible refine Kd.C_drewN ?_ _) | (with_reducible refine Kd.C_drew ?_))); (case side2 => exact (Kd.V_reads' HO_0.out).2.1); rintro e w30 ⟨v324, rfl, ho0, hb⟩; have n0_ := Aside0.mk (Kd.V_elder' (by (with_reducible repeat (first | apply Kd.V_alloc | apply Kd.V_drewN | apply Kd.V_drew)); exact HO_0.out) (Kd.R_base ho0) hb); have n1_ := Aside0.mk (Kd.N_elder' (by (with_reducible repeat (first | apply Kd.N_alloc | apply Kd.N_drewN | apply Kd.N_drew)); exact HO_3.out) (Kd.R_base ho0) hb); have n2_ := Aside0.mk (Kd.R_elder' (by (with_reducible repeat (first | apply Kd.R_alloc | apply Kd.R_drewN | apply Kd.R_drew)); exact HO322.out) (Kd.R_base ho0) hb); have n3_ := Aside0.mk (Kd.R_lower (Kd.R_new' (Kd.R_newM (M := fun k_ => (w.heap.size ≤ k_)) ho0 (below_size (bE)) (fun k_ h_ => h_)) (Kd.R_lt (by (with_reducible repeat (first | apply Kd.R_alloc | apply Kd.R_drewN | apply Kd.R_drew)); exact HO322.out))) (below_size (bE))); have n4_ := Aside0.mk (bS hb); clear HO_0; clear HO_3; clear HO322; clear HB; have HO_0 := n0_; have HO_3 := n1_; have HO322 := n2_; have HO325 := n3_; have HB := n4_; clear n0_ n1_ n2_ n3_ n4_; (try clear hb); (try clear hb2); (try clear hk); (try clear hi); (try clear ho0)))
                  repeat (go_quiet (first | (go_at_call 14; (with_reducible refine (balance_Trial.calls _ _ x3_2 t320 _ ?side1 ?side2 A24.out).mono ?_); (case side1 => repeat (first | exact (Kd.N_reads' HO_3.out).2.2 | (with_reducible refine Kd.C_alloc ?_ _) | (with_reducible refine Kd.C_drewN ?_ _) | (with_reducible refine Kd.C_drew ?_))); (case side2 => exact (Kd.N_reads' HO_3.out).2.1); rintro e w28 ⟨v321, rfl, ho0, hb⟩; have n0_ := Aside0.mk (Kd.V_elder' (by (with_reducible repeat (first | apply Kd.V_alloc | apply Kd.V_drewN | apply Kd.V_drew)); exact HO_0.out) (Kd.R_base ho0) hb); have n1_ := Aside0.mk (Kd.N_elder' (by (with_reducible repeat (first | apply Kd.N_alloc | apply Kd.N_drewN | apply Kd.N_drew)); exact HO_3.out) (Kd.R_base ho0) hb); have n2_ := Aside0.mk (Kd.R_lower (Kd.R_newM (M := fun k_ => (w.heap.size ≤ k_)) ho0 (below_size (bE)) (fun k_ h_ => h_)) (below_size (bE))); have n3_ := Aside0.mk (bS hb); clear HO_0; clear HO_3; clear HB; have HO_0 := n0_; have HO_3 := n1_; have HO322 := n2_; have HB := n3_; clear n0_ n1_ n2_ n3_; (try clear hb); (try clear hb2); (try clear hk); (try clear hi); (try clear ho0); obtain ⟨Ao29, co29, eo29⟩ := Kd.R_slice HO322.out; subst eo29) | (go_at_call 14; (with_reducible refine (balance_Trial.calls _ _ l0 t323 _ ?side1 ?side2 A26.out).mono ?_); (case side1 => repeat (first | exact (Kd.V_reads' HO_0.out).2.2 | (with_reducible refine Kd.C_alloc ?_ _) | (with_reducible refine Kd.C_drewN ?_ _) | (with_reducible refine Kd.C_drew ?_))); (case side2 => exact (Kd.V_reads' HO_0.out).2.1); rintro e w30 ⟨v324, rfl, ho0, hb⟩; have n0_ := Aside0.mk (Kd.V_elder' (by (with_reducible repeat (first | apply Kd.V_alloc | apply Kd.V_drewN | apply Kd.V_drew)); exact HO_0.out) (Kd.R_base ho0) hb); have n1_ := Aside0.mk (Kd.N_elder' (by (with_reducible repeat (first | apply Kd.N_alloc | apply Kd.N_drewN | apply Kd.N_drew)); exact HO_3.out) (Kd.R_base ho0) hb); have n2_ := Aside0.mk (Kd.R_elder' (by (with_reducible repeat (first | apply Kd.R_alloc | apply Kd.R_drewN | apply Kd.R_drew)); exact HO322.out) (Kd.R_base ho0) hb); have n3_ := Aside0.mk (Kd.R_lower (Kd.R_new' (Kd.R_newM (M := fun k_ => (w.heap.size ≤ k_)) ho0 (below_size (bE)) (fun k_ h_ => h_)) (Kd.R_lt (by (with_reducible repeat (first | apply Kd.R_alloc | apply Kd.R_drewN | apply Kd.R_drew)); exact HO322.out))) (below_size (bE))); have n4_ := Aside0.mk (bS hb); clear HO_0; clear HO_3; clear HO322; clear HB; have HO_0 := n0_; have HO_3 := n1_; have HO322 := n2_; have HO325 := n3_; have HB := n4_; clear n0_ n1_ n2_ n3_ n4_; (try clear hb); (try clear hb2); (try clear hk); (try clear hi); (try clear ho0))); try go_wp2_with (first | (go_at_call 14; (with_reducible refine (balance_Trial.calls _ _ x3_2 t320 _ ?side1 ?side2 A24.out).mono ?_); (case side1 => repeat (first | exact (Kd.N_reads' HO_3.out).2.2 | (with_reducible refine Kd.C_alloc ?_ _) | (with_reducible refine Kd.C_drewN ?_ _) | (with_reducible refine Kd.C_drew ?_))); (case side2 => exact (Kd.N_reads' HO_3.out).2.1); rintro e w28 ⟨v321, rfl, ho0, hb⟩; have n0_ := Aside0.mk (Kd.V_elder' (by (with_reducible repeat (first | apply Kd.V_alloc | apply Kd.V_drewN | apply Kd.V_drew)); exact HO_0.out) (Kd.R_base ho0) hb); have n1_ := Aside0.mk (Kd.N_elder' (by (with_reducible repeat (first | apply Kd.N_alloc | apply Kd.N_drewN | apply Kd.N_drew)); exact HO_3.out) (Kd.R_base ho0) hb); have n2_ := Aside0.mk (Kd.R_lower (Kd.R_newM (M := fun k_ => (w.heap.size ≤ k_)) ho0 (below_size (bE)) (fun k_ h_ => h_)) (below_size (bE))); have n3_ := Aside0.mk (bS hb); clear HO_0; clear HO_3; clear HB; have HO_0 := n0_; have HO_3 := n1_; have HO322 := n2_; have HB := n3_; clear n0_ n1_ n2_ n3_; (try clear hb); (try clear hb2); (try clear hk); (try clear hi); (try clear ho0); obtain ⟨Ao29, co29, eo29⟩ := Kd.R_slice HO322.out; subst eo29) | (go_at_call 14; (with_reducible refine (balance_Trial.calls _ _ l0 t323 _ ?side1 ?side2 A26.out).mono ?_); (case side1 => repeat (first | exact (Kd.V_reads' HO_0.out).2.2 | (with_reducible refine Kd.C_alloc ?_ _) | (with_reducible refine Kd.C_drewN ?_ _) | (with_reducible refine Kd.C_drew ?_))); (case side2 => exact (Kd.V_reads' HO_0.out).2.1); rintro e w30 ⟨v324, rfl, ho0, hb⟩; have n0_ := Aside0.mk (Kd.V_elder' (by (with_reducible repeat (first | apply Kd.V_alloc | apply Kd.V_drewN | apply Kd.V_drew)); exact HO_0.out) (Kd.R_base ho0) hb); have n1_ := Aside0.mk (Kd.N_elder' (by (with_reducible repeat (first | apply Kd.N_alloc | apply Kd.N_drewN | apply Kd.N_drew)); exact HO_3.out) (Kd.R_base ho0) hb); have n2_ := Aside0.mk (Kd.R_elder' (by (with_reducible repeat (first | apply Kd.R_alloc | apply Kd.R_drewN | apply Kd.R_drew)); exact HO322.out) (Kd.R_base ho0) hb); have n3_ := Aside0.mk (Kd.R_lower (Kd.R_new' (Kd.R_newM (M := fun k_ => (w.heap.size ≤ k_)) ho0 (below_size (bE)) (fun k_ h_ => h_)) (Kd.R_lt (by (with_reducible repeat (first | apply Kd.R_alloc | apply Kd.R_drewN | apply Kd.R_drew)); exact HO322.out))) (below_size (bE))); have n4_ := Aside0.mk (bS hb); clear HO_0; clear HO_3; clear HO322; clear HB; have HO_0 := n0_; have HO_3 := n1_; have HO322 := n2_; have HO325 := n3_; have HB := n4_; clear n0_ n1_ n2_ n3_ n4_; (try clear hb); (try clear hb2); (try clear hk); (try clear hi); (try clear ho0))))
                  go_loopg [9] k2 (fun kq v9 w' => ∃ (x9_3 : Int), v9 = .int .i64 x9_3 ∧ Aside0 (corebanklaw21_BalanceZero.l2 kq l0 t323 x9_3 = some r) ∧ Aside0 (kq ≤ k2) ∧ Aside0 (Kd.V k36 36 w' w.heap.size (fun k_ => (P0_ k_ ∨ w.heap.size ≤ k_) ∧ some k_ ≠ (v324 : Value).ownBlock) (.slice A0 l0.length c0) l0) ∧ Aside0 (Kd.R k39 39 w' w.heap.size (fun k_ => (w.heap.size ≤ k_)) v324 t323) ∧ Aside0 (Below w.heap.size w w'))
                  case atStart => exact ⟨(0), (by first | rfl | (simp; done) | (simp [*]; done)), H', ⟨Nat.le_refl _⟩, ⟨by (with_reducible repeat (first | apply Kd.V_alloc | apply Kd.V_drewN | apply Kd.V_drew)); exact Kd.V_mono HO_0.out (fun _ hk => ⟨hk.1.1.1, hk.2⟩)⟩, ⟨by (with_reducible repeat (first | apply Kd.R_alloc | apply Kd.R_drewN | apply Kd.R_drew)); exact Kd.R_mono HO325.out (fun _ hk => hk.1.1)⟩, ⟨bE⟩⟩
                  case round =>
                    clear H'
                    try clear c1
                    try clear c2
                    try clear p2
                    try clear c3
                    try clear c3b0
                    try clear c3b1
                    try clear p3
                    try clear q3
                    try clear hx3
                    try clear c4
                    try clear c5
                    try clear p6
                    try clear c8
                    try clear c12
                    try clear c12b0
                    try clear c13
                    try clear c13b0
                    try clear c14
                    try clear c14b0
                    try clear c15
                    try clear c15b0
                    try clear c16
                    try clear c16b0
                    try clear c17
                    try clear c21
                    try clear c25
                    try clear c25b0
                    try clear c25b1
                    try clear hcz19_0
                    try clear hcz19_1
                    try clear hcz19_2
                    try clear hfz19_0
                    try clear hfz19_1
                    try clear hfz19_2
                    try clear hx310_0
                    try clear hx310_1
                    try clear hx310_2
                    try clear hx310_3
                    try clear hx310_4
                    try clear hx310_5
                    try clear hx310_6
                    try clear hx310_7
                    try clear hx310_8
                    try clear hx310_9
                    try clear hx311_0
                    try clear hx311_1
                    try clear hx311_2
                    try clear hx311_3
                    try clear hx311_4
                    try clear hx311_5
                    try clear hx311_6
                    try clear hx311_7
                    try clear hx311_8
                    try clear hx311_9
                    try clear hx312_0
                    try clear hx312_1
                    try clear hx312_2
                    try clear p2
                    try clear p310
                    try clear p311
                    try clear p312
                    try clear q310
                    try clear q311
                    try clear q312
                    obtain ⟨x9_3, rfl, HA, HK3, HO_0, HO_8, HB⟩ := hrel
                    cases gk with
                    | zero => exact absurd HA.out (by simp [corebanklaw21_BalanceZero.l2])
                    | succ k3 =>
                      have H := HA.out
                      clear HA
                      simp only [corebanklaw21_BalanceZero.l2] at H
                      by_cases c31 : x9_3 < (t323.length : Int)
                      · rw [if_pos c31] at H
                        have c31b0 : decide (x9_3 < (t323.length : Int)) = true := decide_eq_true c31
                        clear c31
                        have H' := Aside0.mk H
                        clear H
                        obtain ⟨Ao32, co32, eo32⟩ := Kd.R_slice HO_8.out
                        subst eo32
                        go_wp2
                        repeat (go_quiet (fail); try go_wp2)
                        go_loopg [10, 11] k3 (fun kq v10 v11 w' => ∃ (x10_4 : Int) (x11_4 : Int), v10 = .int .i64 x10_4 ∧ v11 = .int .i64 x11_4 ∧ Aside0 (corebanklaw21_BalanceZero.l3 kq l0 t323 x9_3 x10_4 x11_4 = some r) ∧ Aside0 (kq ≤ k3) ∧ Aside0 (Kd.V k36 36 w' w.heap.size (fun k_ => (P0_ k_ ∨ w.heap.size ≤ k_) ∧ some k_ ≠ ((.slice Ao32 t323.length co32) : Value).ownBlock) (.slice A0 l0.length c0) l0) ∧ Aside0 (Kd.R k39 39 w' w.heap.size (fun k_ => (w.heap.size ≤ k_)) (.slice Ao32 t323.length co32) t323) ∧ Aside0 (Below w.heap.size w w'))
                        case atStart => exact ⟨(0), (0), (by first | rfl | (simp; done) | (simp [*]; done)), (by first | rfl | (simp; done) | (simp [*]; done)), H', ⟨Nat.le_refl _⟩, ⟨by (with_reducible repeat (first | apply Kd.V_alloc | apply Kd.V_drewN | apply Kd.V_drew)); exact HO_0.out⟩, ⟨by (with_reducible repeat (first | apply Kd.R_alloc | apply Kd.R_drewN | apply Kd.R_drew)); exact HO_8.out⟩, ⟨bE⟩⟩
                        case round =>
                          clear H'
                          try clear c1
                          try clear c2
                          try clear p2
                          try clear c3
                          try clear c3b0
                          try clear c3b1
                          try clear p3
                          try clear q3
                          try clear hx3
                          try clear c4
                          try clear c5
                          try clear p6
                          try clear c8
                          try clear c12
                          try clear c12b0
                          try clear c13
                          try clear c13b0
                          try clear c14
                          try clear c14b0
                          try clear c15
                          try clear c15b0
                          try clear c16
                          try clear c16b0
                          try clear c17
                          try clear c21
                          try clear c25
                          try clear c25b0
                          try clear c25b1
                          try clear c31
                          try clear c31b0
                          try clear p31
                          try clear q31
                          try clear hx31
                          try clear hcz19_0
                          try clear hcz19_1
                          try clear hcz19_2
                          try clear hfz19_0
                          try clear hfz19_1
                          try clear hfz19_2
                          try clear hx310_0
                          try clear hx310_1
                          try clear hx310_2
                          try clear hx310_3
                          try clear hx310_4
                          try clear hx310_5
                          try clear hx310_6
                          try clear hx310_7
                          try clear hx310_8
                          try clear hx310_9
                          try clear hx311_0
                          try clear hx311_1
                          try clear hx311_2
                          try clear hx311_3
                          try clear hx311_4
                          try clear hx311_5
                          try clear hx311_6
                          try clear hx311_7
                          try clear hx311_8
                          try clear hx311_9
                          try clear hx312_0
                          try clear hx312_1
                          try clear hx312_2
                          try clear p2
                          try clear p3
                          try clear p310
                          try clear p311
                          try clear p312
                          try clear p6
                          try clear q3
                          try clear q310
                          try clear q311
                          try clear q312
                          obtain ⟨x10_4, x11_4, rfl, rfl, HA, HK4, HO_0, HO_8, HB⟩ := hrel
                          cases gk with
                          | zero => exact absurd HA.out (by simp [corebanklaw21_BalanceZero.l3])
                          | succ k4 =>
                            have H := HA.out
                            clear HA
                            simp only [corebanklaw21_BalanceZero.l3] at H
                            by_cases c33 : x11_4 < (t323.length : Int)
                            · rw [if_pos c33] at H
                              have c33b0 : decide (x11_4 < (t323.length : Int)) = true := decide_eq_true c33
                              clear c33
                              by_cases c34 : 0 ≤ x11_4
                              · rw [if_pos c34] at H
                                have c34b0 : decide (0 ≤ x11_4) = true := decide_eq_true c34
                                clear c34
                                by_cases c35 : 0 ≤ x9_3
                                · rw [if_pos c35] at H
                                  have c35b0 : decide (0 ≤ x9_3) = true := decide_eq_true c35
                                  clear c35
                                  by_cases c36 : x9_3 < (t323.length : Int)
                                  · rw [if_pos c36] at H
                                    have c36b0 : decide (x9_3 < (t323.length : Int)) = true := decide_eq_true c36
                                    clear c36
                                    by_cases c37 : ((rd_T39 t323 x11_4).f0) = ((rd_T39 t323 x9_3).f0)
                                    · rw [if_pos c37] at H
                                      have c37b0 : (((rd_T39 t323 x11_4).f0) == ((rd_T39 t323 x9_3).f0)) = true := beq_iff_eq.mpr c37
                                      have c37b1 : (((rd_T39 t323 x11_4).f0) != ((rd_T39 t323 x9_3).f0)) = false := bne_eq_false_iff_eq.mpr c37
                                      clear c37
                                      have H' := Aside0.mk H
                                      clear H
                                      have p327 : 0 ≤ (x11_4 : Int) := of_decide_eq_true (by first | (with_reducible assumption) | assumption)
                                      have q327 : x11_4 < (t323.length : Int) := of_decide_eq_true (by first | (with_reducible assumption) | assumption)
                                      obtain ⟨ad327, e327, hx327_0, hx327_1, hx327_2⟩ := at_T39 (Kd.R_reads' HO_8.out).2.2 x11_4 p327 q327
                                      cases e327
                                      replace p327 := eq_true p327
                                      replace q327 := eq_true q327
                                      have p328 : 0 ≤ (x9_3 : Int) := of_decide_eq_true (by first | (with_reducible assumption) | assumption)
                                      have q328 : x9_3 < (t323.length : Int) := of_decide_eq_true (by first | (with_reducible assumption) | assumption)
                                      obtain ⟨ad328, e328, hx328_0, hx328_1, hx328_2⟩ := at_T39 (Kd.R_reads' HO_8.out).2.2 x9_3 p328 q328
                                      obtain rfl : ad327 = ad328 := (by injection e328)
                                      replace p328 := eq_true p328
                                      replace q328 := eq_true q328
                                      have p329 : 0 ≤ (x11_4 : Int) := of_decide_eq_true (by first | (with_reducible assumption) | assumption)
                                      have q329 : x11_4 < (t323.length : Int) := of_decide_eq_true (by first | (with_reducible assumption) | assumption)
                                      obtain ⟨ad329, e329, hx329_0, hx329_1, hx329_2⟩ := at_T39 (Kd.R_reads' HO_8.out).2.2 x11_4 p329 q329
                                      obtain rfl : ad327 = ad329 := (by injection e329)
                                      replace p329 := eq_true p329
                                      replace q329 := eq_true q329
                                      go_wp2
                                      repeat (go_quiet (fail); try go_wp2)
                                      go_roundg k4
                                      case measure => have := HJ1.out; have := HK2.out; have := HK3.out; have := HK4.out; omega
                                      case rel => exact ⟨(wrap64 (x10_4 - ((rd_T39 t323 x11_4).f1))), (wrap64 (x11_4 + 1)), (by first | rfl | (simp; done) | (simp [*]; done)), (by first | rfl | (simp; done) | (simp [*]; done)), H', ⟨by have := HJ1.out; have := HK2.out; have := HK3.out; have := HK4.out; omega⟩, ⟨by (with_reducible repeat (first | apply Kd.V_alloc | apply Kd.V_drewN | apply Kd.V_drew)); exact HO_0.out⟩, ⟨by (with_reducible repeat (first | apply Kd.R_alloc | apply Kd.R_drewN | apply Kd.R_drew)); exact HO_8.out⟩, ⟨bE⟩⟩
                                    · rw [if_neg c37] at H
                                      have c37b0 : (((rd_T39 t323 x11_4).f0) == ((rd_T39 t323 x9_3).f0)) = false := beq_eq_false_iff_ne.mpr c37
                                      have c37b1 : (((rd_T39 t323 x11_4).f0) != ((rd_T39 t323 x9_3).f0)) = true := bne_iff_ne.mpr c37
                                      have H' := Aside0.mk H
                                      clear H
                                      have p327 : 0 ≤ (x11_4 : Int) := of_decide_eq_true (by first | (with_reducible assumption) | assumption)
                                      have q327 : x11_4 < (t323.length : Int) := of_decide_eq_true (by first | (with_reducible assumption) | assumption)
                                      obtain ⟨ad327, e327, hx327_0, hx327_1, hx327_2⟩ := at_T39 (Kd.R_reads' HO_8.out).2.2 x11_4 p327 q327
                                      cases e327
                                      replace p327 := eq_true p327
                                      replace q327 := eq_true q327
                                      have p328 : 0 ≤ (x9_3 : Int) := of_decide_eq_true (by first | (with_reducible assumption) | assumption)
                                      have q328 : x9_3 < (t323.length : Int) := of_decide_eq_true (by first | (with_reducible assumption) | assumption)
                                      obtain ⟨ad328, e328, hx328_0, hx328_1, hx328_2⟩ := at_T39 (Kd.R_reads' HO_8.out).2.2 x9_3 p328 q328
                                      obtain rfl : ad327 = ad328 := (by injection e328)
                                      replace p328 := eq_true p328
                                      replace q328 := eq_true q328
                                      go_wp2
                                      repeat (go_quiet (fail); try go_wp2)
                                      go_roundg k4
                                      case measure => have := HJ1.out; have := HK2.out; have := HK3.out; have := HK4.out; omega
                                      case rel => exact ⟨(x10_4), (wrap64 (x11_4 + 1)), (by first | rfl | (simp; done) | (simp [*]; done)), (by first | rfl | (simp; done) | (simp [*]; done)), H', ⟨by have := HJ1.out; have := HK2.out; have := HK3.out; have := HK4.out; omega⟩, ⟨by (with_reducible repeat (first | apply Kd.V_alloc | apply Kd.V_drewN | apply Kd.V_drew)); exact HO_0.out⟩, ⟨by (with_reducible repeat (first | apply Kd.R_alloc | apply Kd.R_drewN | apply Kd.R_drew)); exact HO_8.out⟩, ⟨bE⟩⟩
                                  · rw [if_neg c36] at H
                                    exact absurd H (by simp)
                                · rw [if_neg c35] at H
                                  exact absurd H (by simp)
                              · rw [if_neg c34] at H
                                exact absurd H (by simp)
                            · rw [if_neg c33] at H
                              have c33b0 : decide (x11_4 < (t323.length : Int)) = false := decide_eq_false c33
                              clear c33
                              have HC38 := Aside0.mk H
                              clear H
                              go_upto_region 26 with (fail)
                              repeat (go_quiet (fail); go_upto_region 26 with (fail))
                              go_cut [116] (fun v116 wc => ∃ (kq : Nat) (x116_37 : Bool), v116 = .bool x116_37 ∧ Aside0 (corebanklaw21_BalanceZero.j5 kq l0 t323 x9_3 x116_37 = some r) ∧ Aside0 (kq ≤ k4) ∧ Aside0 (Kd.V k36 36 wc w.heap.size (fun k_ => (P0_ k_ ∨ w.heap.size ≤ k_) ∧ some k_ ≠ ((.slice Ao32 t323.length co32) : Value).ownBlock) (.slice A0 l0.length c0) l0) ∧ Aside0 (Kd.R k39 39 wc w.heap.size (fun k_ => (w.heap.size ≤ k_)) (.slice Ao32 t323.length co32) t323) ∧ Aside0 (Below w.heap.size w wc))
                              case first =>
                                have H := HC38.out
                                clear HC38
                                by_cases c39 : 0 ≤ x9_3
                                · rw [if_pos c39] at H
                                  have c39b0 : decide (0 ≤ x9_3) = true := decide_eq_true c39
                                  clear c39
                                  (first | rw [c39b0] | (simp only [i64_w, i32_w]; rw [c39b0]) | skip)
                                  by_cases c40 : x9_3 < (t323.length : Int)
                                  · rw [if_pos c40] at H
                                    have c40b0 : decide (x9_3 < (t323.length : Int)) = true := decide_eq_true c40
                                    clear c40
                                    by_cases c41 : ((rd_T39 t323 x9_3).f1) = 0
                                    · rw [if_pos c41] at H
                                      have c41b0 : (((rd_T39 t323 x9_3).f1) == 0) = true := beq_iff_eq.mpr c41
                                      have c41b1 : (((rd_T39 t323 x9_3).f1) != 0) = false := bne_eq_false_iff_eq.mpr c41
                                      clear c41
                                      have H' := Aside0.mk H
                                      clear H
                                      have p330 : 0 ≤ (x9_3 : Int) := of_decide_eq_true (by first | (with_reducible assumption) | assumption)
                                      have q330 : x9_3 < (t323.length : Int) := of_decide_eq_true (by first | (with_reducible assumption) | assumption)
                                      obtain ⟨ad330, e330, hx330_0, hx330_1, hx330_2⟩ := at_T39 (Kd.R_reads' HO_8.out).2.2 x9_3 p330 q330
                                      cases e330
                                      replace p330 := eq_true p330
                                      replace q330 := eq_true q330
                                      go_wp2
                                      repeat (go_quiet (fail); try go_wp2)
                                      go_meet
                                      case rel => exact ⟨_, (true), (by first | rfl | (simp; done) | (simp [*]; done)), H', ⟨by have := HJ1.out; have := HK2.out; have := HK3.out; have := HK4.out; first | omega | exact Nat.le_refl _⟩, ⟨by (with_reducible repeat (first | apply Kd.V_alloc | apply Kd.V_drewN | apply Kd.V_drew)); exact HO_0.out⟩, ⟨by (with_reducible repeat (first | apply Kd.R_alloc | apply Kd.R_drewN | apply Kd.R_drew)); exact HO_8.out⟩, ⟨bE⟩⟩
                                    · rw [if_neg c41] at H
                                      have c41b0 : (((rd_T39 t323 x9_3).f1) == 0) = false := beq_eq_false_iff_ne.mpr c41
                                      have c41b1 : (((rd_T39 t323 x9_3).f1) != 0) = true := bne_iff_ne.mpr c41
                                      replace H := Option.bind_eq_some_iff.mp H
                                      obtain ⟨t332, A420, H⟩ := H
                                      replace H : (corebanklaw21_BalanceZero.j5 k4 l0 t323 x9_3 (x10_4 != t332)) = some r := H
                                      have A42 := Aside0.mk A420
                                      clear A420
                                      have H' := Aside0.mk H
                                      clear H
                                      have p330 : 0 ≤ (x9_3 : Int) := of_decide_eq_true (by first | (with_reducible assumption) | assumption)
                                      have q330 : x9_3 < (t323.length : Int) := of_decide_eq_true (by first | (with_reducible assumption) | assumption)
                                      obtain ⟨ad330, e330, hx330_0, hx330_1, hx330_2⟩ := at_T39 (Kd.R_reads' HO_8.out).2.2 x9_3 p330 q330
                                      cases e330
                                      replace p330 := eq_true p330
                                      replace q330 := eq_true q330
                                      have p331 : 0 ≤ (x9_3 : Int) := of_decide_eq_true (by first | (with_reducible assumption) | assumption)
                                      have q331 : x9_3 < (t323.length : Int) := of_decide_eq_true (by first | (with_reducible assumption) | assumption)
                                      obtain ⟨ad331, e331, hx331_0, hx331_1, hx331_2⟩ := at_T39 (Kd.R_reads' HO_8.out).2.2 x9_3 p331 q331
                                      obtain rfl : ad330 = ad331 := (by injection e331)
                                      replace p331 := eq_true p331
                                      replace q331 := eq_true q331
                                      go_wp2_with (first | (go_at_call 10; (with_reducible refine (balance_Of.calls _ _ l0 ((rd_T39 t323 x9_3).f0) t332 _ ?side1 ?side2 A42.out).mono ?_); (case side1 => repeat (first | exact (Kd.V_reads' HO_0.out).2.2 | (with_reducible refine Kd.C_alloc ?_ _) | (with_reducible refine Kd.C_drewN ?_ _) | (with_reducible refine Kd.C_drew ?_))); (case side2 => exact (Kd.V_reads' HO_0.out).2.1); rintro e w43 ⟨rfl, hb⟩; have n0_ := Aside0.mk (Kd.V_below (by (with_reducible repeat (first | apply Kd.V_alloc | apply Kd.V_drewN | apply Kd.V_drew)); exact HO_0.out) hb); have n1_ := Aside0.mk (Kd.R_below (by (with_reducible repeat (first | apply Kd.R_alloc | apply Kd.R_drewN | apply Kd.R_drew)); exact HO_8.out) hb); have n2_ := Aside0.mk (bS hb); clear HO_0; clear HO_8; clear HB; have HO_0 := n0_; have HO_8 := n1_; have HB := n2_; clear n0_ n1_ n2_; (try clear hb); (try clear hb2); (try clear hk); (try clear hi)))
                                      repeat (go_quiet (first | (go_at_call 10; (with_reducible refine (balance_Of.calls _ _ l0 ((rd_T39 t323 x9_3).f0) t332 _ ?side1 ?side2 A42.out).mono ?_); (case side1 => repeat (first | exact (Kd.V_reads' HO_0.out).2.2 | (with_reducible refine Kd.C_alloc ?_ _) | (with_reducible refine Kd.C_drewN ?_ _) | (with_reducible refine Kd.C_drew ?_))); (case side2 => exact (Kd.V_reads' HO_0.out).2.1); rintro e w43 ⟨rfl, hb⟩; have n0_ := Aside0.mk (Kd.V_below (by (with_reducible repeat (first | apply Kd.V_alloc | apply Kd.V_drewN | apply Kd.V_drew)); exact HO_0.out) hb); have n1_ := Aside0.mk (Kd.R_below (by (with_reducible repeat (first | apply Kd.R_alloc | apply Kd.R_drewN | apply Kd.R_drew)); exact HO_8.out) hb); have n2_ := Aside0.mk (bS hb); clear HO_0; clear HO_8; clear HB; have HO_0 := n0_; have HO_8 := n1_; have HB := n2_; clear n0_ n1_ n2_; (try clear hb); (try clear hb2); (try clear hk); (try clear hi))); try go_wp2_with (first | (go_at_call 10; (with_reducible refine (balance_Of.calls _ _ l0 ((rd_T39 t323 x9_3).f0) t332 _ ?side1 ?side2 A42.out).mono ?_); (case side1 => repeat (first | exact (Kd.V_reads' HO_0.out).2.2 | (with_reducible refine Kd.C_alloc ?_ _) | (with_reducible refine Kd.C_drewN ?_ _) | (with_reducible refine Kd.C_drew ?_))); (case side2 => exact (Kd.V_reads' HO_0.out).2.1); rintro e w43 ⟨rfl, hb⟩; have n0_ := Aside0.mk (Kd.V_below (by (with_reducible repeat (first | apply Kd.V_alloc | apply Kd.V_drewN | apply Kd.V_drew)); exact HO_0.out) hb); have n1_ := Aside0.mk (Kd.R_below (by (with_reducible repeat (first | apply Kd.R_alloc | apply Kd.R_drewN | apply Kd.R_drew)); exact HO_8.out) hb); have n2_ := Aside0.mk (bS hb); clear HO_0; clear HO_8; clear HB; have HO_0 := n0_; have HO_8 := n1_; have HB := n2_; clear n0_ n1_ n2_; (try clear hb); (try clear hb2); (try clear hk); (try clear hi))))
                                      go_meet
                                      case rel => exact ⟨_, ((x10_4 != t332)), (by first | rfl | (simp; done) | (simp [*]; done)), H', ⟨by have := HJ1.out; have := HK2.out; have := HK3.out; have := HK4.out; first | omega | exact Nat.le_refl _⟩, ⟨by (with_reducible repeat (first | apply Kd.V_alloc | apply Kd.V_drewN | apply Kd.V_drew)); exact HO_0.out⟩, ⟨by (with_reducible repeat (first | apply Kd.R_alloc | apply Kd.R_drewN | apply Kd.R_drew)); exact HO_8.out⟩, ⟨bE⟩⟩
                                  · rw [if_neg c40] at H
                                    exact absurd H (by simp)
                                · rw [if_neg c39] at H
                                  exact absurd H (by simp)
                              case rest =>
                                clear HC38
                                try clear c1
                                try clear c2
                                try clear p2
                                try clear c3
                                try clear c3b0
                                try clear c3b1
                                try clear p3
                                try clear q3
                                try clear hx3
                                try clear c4
                                try clear c5
                                try clear p6
                                try clear c8
                                try clear c12
                                try clear c12b0
                                try clear c13
                                try clear c13b0
                                try clear c14
                                try clear c14b0
                                try clear c15
                                try clear c15b0
                                try clear c16
                                try clear c16b0
                                try clear c17
                                try clear c21
                                try clear c25
                                try clear c25b0
                                try clear c25b1
                                try clear c31
                                try clear c31b0
                                try clear p31
                                try clear q31
                                try clear hx31
                                try clear p32
                                try clear q32
                                try clear hx32
                                try clear c33
                                try clear c33b0
                                try clear p33
                                try clear q33
                                try clear hx33
                                try clear c34
                                try clear c34b0
                                try clear c35
                                try clear c35b0
                                try clear c36
                                try clear c36b0
                                try clear c37
                                try clear c37b0
                                try clear c37b1
                                try clear c39
                                try clear c39b0
                                try clear c40
                                try clear c40b0
                                try clear c41
                                try clear c41b0
                                try clear c41b1
                                try clear hcz19_0
                                try clear hcz19_1
                                try clear hcz19_2
                                try clear hfz19_0
                                try clear hfz19_1
                                try clear hfz19_2
                                try clear hx310_0
                                try clear hx310_1
                                try clear hx310_2
                                try clear hx310_3
                                try clear hx310_4
                                try clear hx310_5
                                try clear hx310_6
                                try clear hx310_7
                                try clear hx310_8
                                try clear hx310_9
                                try clear hx311_0
                                try clear hx311_1
                                try clear hx311_2
                                try clear hx311_3
                                try clear hx311_4
                                try clear hx311_5
                                try clear hx311_6
                                try clear hx311_7
                                try clear hx311_8
                                try clear hx311_9
                                try clear hx312_0
                                try clear hx312_1
                                try clear hx312_2
                                try clear hx327_0
                                try clear hx327_1
                                try clear hx327_2
                                try clear hx328_0
                                try clear hx328_1
                                try clear hx328_2
                                try clear hx329_0
                                try clear hx329_1
                                try clear hx329_2
                                try clear hx330_0
                                try clear hx330_1
                                try clear hx330_2
                                try clear hx331_0
                                try clear hx331_1
                                try clear hx331_2
                                try clear p2
                                try clear p3
                                try clear p31
                                try clear p310
                                try clear p311
                                try clear p312
                                try clear p327
                                try clear p328
                                try clear p329
                                try clear p330
                                try clear p331
                                try clear p6
                                try clear q3
                                try clear q31
                                try clear q310
                                try clear q311
                                try clear q312
                                try clear q327
                                try clear q328
                                try clear q329
                                try clear q330
                                try clear q331
                                obtain ⟨kq, x116_37, rfl, HA, HJ37, HO_0, HO_8, HB⟩ := hcut
                                cases kq with
                                | zero => exact absurd HA.out (by simp [corebanklaw21_BalanceZero.j5])
                                | succ kj37 =>
                                  have H := HA.out
                                  clear HA
                                  simp only [corebanklaw21_BalanceZero.j5] at H
                                  by_cases c44 : x116_37 = true
                                  · subst c44
                                    have H1 : (none) = some r := by rw [if_pos rfl] at H; exact H
                                    clear H
                                    have H := H1
                                    clear H1
                                    exact absurd H (by simp)
                                  · replace c44 := Bool.eq_false_iff.mpr c44
                                    subst c44
                                    have H1 : (if x9_3 > 0 then (if 0 ≤ x9_3 then (if x9_3 < (t323.length : Int) then (if 0 ≤ (wrap64 (x9_3 - 1)) then (if (wrap64 (x9_3 - 1)) < (t323.length : Int) then (if ((rd_T39 t323 x9_3).f0) < ((rd_T39 t323 (wrap64 (x9_3 - 1))).f0) then (none) else (if ((rd_T39 t323 x9_3).f0) = ((rd_T39 t323 (wrap64 (x9_3 - 1))).f0) then (if ((Op.bytesLess (((rd_T39 t323 (wrap64 (x9_3 - 1))).f2).toList) (((rd_T39 t323 x9_3).f2).toList)) = true) then (corebanklaw21_BalanceZero.l2 kj37 l0 t323 (wrap64 (x9_3 + 1))) else (none)) else (corebanklaw21_BalanceZero.l2 kj37 l0 t323 (wrap64 (x9_3 + 1))))) else (none)) else (none)) else (none)) else (none)) else (corebanklaw21_BalanceZero.l2 kj37 l0 t323 (wrap64 (x9_3 + 1)))) = some r := by rw [if_neg (show ¬ (false = true) by decide)] at H; exact H
                                    clear H
                                    have H := H1
                                    clear H1
                                    by_cases c45 : x9_3 > 0
                                    · rw [if_pos c45] at H
                                      have c45b0 : decide (0 < x9_3) = true := decide_eq_true c45
                                      clear c45
                                      by_cases c46 : 0 ≤ x9_3
                                      · rw [if_pos c46] at H
                                        have c46b0 : decide (0 ≤ x9_3) = true := decide_eq_true c46
                                        clear c46
                                        by_cases c47 : x9_3 < (t323.length : Int)
                                        · rw [if_pos c47] at H
                                          have c47b0 : decide (x9_3 < (t323.length : Int)) = true := decide_eq_true c47
                                          clear c47
                                          obtain ⟨ji48, hji48⟩ : ∃ j_ : Int, (wrap64 (x9_3 - 1)) = j_ := ⟨_, rfl⟩
                                          replace H : (if 0 ≤ (ji48) then (if (ji48) < (t323.length : Int) then (if ((rd_T39 t323 x9_3).f0) < ((rd_T39 t323 (ji48)).f0) then (none) else (if ((rd_T39 t323 x9_3).f0) = ((rd_T39 t323 (ji48)).f0) then (if ((Op.bytesLess (((rd_T39 t323 (ji48)).f2).toList) (((rd_T39 t323 x9_3).f2).toList)) = true) then (corebanklaw21_BalanceZero.l2 kj37 l0 t323 (wrap64 (x9_3 + 1))) else (none)) else (corebanklaw21_BalanceZero.l2 kj37 l0 t323 (wrap64 (x9_3 + 1))))) else (none)) else (none)) = some r := by first | (rw [hji48] at H; exact H) | (simp only [hji48] at H ⊢; exact H)
                                          have hji48w : (IntKind.i64.wrap (x9_3 - 1)) = ji48 := (i64_w _).trans hji48
                                          by_cases c49 : 0 ≤ (ji48)
                                          · rw [if_pos c49] at H
                                            have c49b0 : decide (0 ≤ (ji48)) = true := decide_eq_true c49
                                            clear c49
                                            by_cases c50 : (ji48) < (t323.length : Int)
                                            · rw [if_pos c50] at H
                                              have c50b0 : decide ((ji48) < (t323.length : Int)) = true := decide_eq_true c50
                                              clear c50
                                              by_cases c51 : ((rd_T39 t323 x9_3).f0) < ((rd_T39 t323 (ji48)).f0)
                                              · rw [if_pos c51] at H
                                                exact absurd H (by simp)
                                              · rw [if_neg c51] at H
                                                have c51b0 : decide (((rd_T39 t323 x9_3).f0) < ((rd_T39 t323 (ji48)).f0)) = false := decide_eq_false c51
                                                clear c51
                                                by_cases c52 : ((rd_T39 t323 x9_3).f0) = ((rd_T39 t323 (ji48)).f0)
                                                · rw [if_pos c52] at H
                                                  have c52b0 : (((rd_T39 t323 x9_3).f0) == ((rd_T39 t323 (ji48)).f0)) = true := beq_iff_eq.mpr c52
                                                  have c52b1 : (((rd_T39 t323 x9_3).f0) != ((rd_T39 t323 (ji48)).f0)) = false := bne_eq_false_iff_eq.mpr c52
                                                  clear c52
                                                  by_cases c53 : ((Op.bytesLess (((rd_T39 t323 (ji48)).f2).toList) (((rd_T39 t323 x9_3).f2).toList)) = true)
                                                  · rw [if_pos c53] at H
                                                    have c53b0 : (Op.bytesLess (((rd_T39 t323 (ji48)).f2).toList) (((rd_T39 t323 x9_3).f2).toList)) = true := c53
                                                    clear c53
                                                    have c53b1 : Op.bytesLess (rd_T39 t323 x9_3).f2.toList (rd_T39 t323 ji48).f2.toList = false := by rw [bless] at c53b0 ⊢; exact decide_eq_false (fun h => List.lt_irrefl _ (List.lt_trans h (of_decide_eq_true c53b0)))
                                                    have c53b2 : ((rd_T39 t323 x9_3).f2.toList == (rd_T39 t323 ji48).f2.toList) = false := beq_eq_false_iff_ne.mpr (fun e => by rw [e, bless] at c53b0; exact List.lt_irrefl _ (of_decide_eq_true c53b0))
                                                    have H' := Aside0.mk H
                                                    clear H
                                                    have p333 : 0 ≤ (x9_3 : Int) := of_decide_eq_true (by first | (with_reducible assumption) | assumption)
                                                    have q333 : x9_3 < (t323.length : Int) := of_decide_eq_true (by first | (with_reducible assumption) | assumption)
                                                    obtain ⟨ad333, e333, hx333_0, hx333_1, hx333_2⟩ := at_T39 (Kd.R_reads' HO_8.out).2.2 x9_3 p333 q333
                                                    cases e333
                                                    replace p333 := eq_true p333
                                                    replace q333 := eq_true q333
                                                    have p334 : 0 ≤ ((ji48) : Int) := of_decide_eq_true (by first | (with_reducible assumption) | assumption)
                                                    have q334 : (ji48) < (t323.length : Int) := of_decide_eq_true (by first | (with_reducible assumption) | assumption)
                                                    obtain ⟨ad334, e334, hx334_0, hx334_1, hx334_2⟩ := at_T39 (Kd.R_reads' HO_8.out).2.2 (ji48) p334 q334
                                                    obtain rfl : ad333 = ad334 := (by injection e334)
                                                    replace p334 := eq_true p334
                                                    replace q334 := eq_true q334
                                                    have p335 : 0 ≤ (x9_3 : Int) := of_decide_eq_true (by first | (with_reducible assumption) | assumption)
                                                    have q335 : x9_3 < (t323.length : Int) := of_decide_eq_true (by first | (with_reducible assumption) | assumption)
                                                    obtain ⟨ad335, e335, hx335_0, hx335_1, hx335_2⟩ := at_T39 (Kd.R_reads' HO_8.out).2.2 x9_3 p335 q335
                                                    obtain rfl : ad333 = ad335 := (by injection e335)
                                                    replace p335 := eq_true p335
                                                    replace q335 := eq_true q335
                                                    have p336 : 0 ≤ ((ji48) : Int) := of_decide_eq_true (by first | (with_reducible assumption) | assumption)
                                                    have q336 : (ji48) < (t323.length : Int) := of_decide_eq_true (by first | (with_reducible assumption) | assumption)
                                                    obtain ⟨ad336, e336, hx336_0, hx336_1, hx336_2⟩ := at_T39 (Kd.R_reads' HO_8.out).2.2 (ji48) p336 q336
                                                    obtain rfl : ad333 = ad336 := (by injection e336)
                                                    replace p336 := eq_true p336
                                                    replace q336 := eq_true q336
                                                    have p337 : 0 ≤ (x9_3 : Int) := of_decide_eq_true (by first | (with_reducible assumption) | assumption)
                                                    have q337 : x9_3 < (t323.length : Int) := of_decide_eq_true (by first | (with_reducible assumption) | assumption)
                                                    obtain ⟨ad337, e337, hx337_0, hx337_1, hx337_2⟩ := at_T39 (Kd.R_reads' HO_8.out).2.2 x9_3 p337 q337
                                                    obtain rfl : ad333 = ad337 := (by injection e337)
                                                    replace p337 := eq_true p337
                                                    replace q337 := eq_true q337
                                                    have p338 : 0 ≤ ((ji48) : Int) := of_decide_eq_true (by first | (with_reducible assumption) | assumption)
                                                    have q338 : (ji48) < (t323.length : Int) := of_decide_eq_true (by first | (with_reducible assumption) | assumption)
                                                    obtain ⟨ad338, e338, hx338_0, hx338_1, hx338_2⟩ := at_T39 (Kd.R_reads' HO_8.out).2.2 (ji48) p338 q338
                                                    obtain rfl : ad333 = ad338 := (by injection e338)
                                                    replace p338 := eq_true p338
                                                    replace q338 := eq_true q338
                                                    go_wp2
                                                    repeat (go_quiet (fail); try go_wp2)
                                                    go_roundg kj37
                                                    case measure => have := HJ1.out; have := HK2.out; have := HK3.out; have := HK4.out; have := HJ37.out; omega
                                                    case rel => exact ⟨(wrap64 (x9_3 + 1)), (by first | rfl | (simp; done) | (simp [*]; done)), H', ⟨by have := HJ1.out; have := HK2.out; have := HK3.out; have := HK4.out; have := HJ37.out; omega⟩, ⟨by (with_reducible repeat (first | apply Kd.V_alloc | apply Kd.V_drewN | apply Kd.V_drew)); exact HO_0.out⟩, ⟨by (with_reducible repeat (first | apply Kd.R_alloc | apply Kd.R_drewN | apply Kd.R_drew)); exact HO_8.out⟩, ⟨bE⟩⟩
                                                  · rw [if_neg c53] at H
                                                    exact absurd H (by simp)
                                                · rw [if_neg c52] at H
                                                  have c52b0 : (((rd_T39 t323 x9_3).f0) == ((rd_T39 t323 (ji48)).f0)) = false := beq_eq_false_iff_ne.mpr c52
                                                  have c52b1 : (((rd_T39 t323 x9_3).f0) != ((rd_T39 t323 (ji48)).f0)) = true := bne_iff_ne.mpr c52
                                                  have H' := Aside0.mk H
                                                  clear H
                                                  have p333 : 0 ≤ (x9_3 : Int) := of_decide_eq_true (by first | (with_reducible assumption) | assumption)
                                                  have q333 : x9_3 < (t323.length : Int) := of_decide_eq_true (by first | (with_reducible assumption) | assumption)
                                                  obtain ⟨ad333, e333, hx333_0, hx333_1, hx333_2⟩ := at_T39 (Kd.R_reads' HO_8.out).2.2 x9_3 p333 q333
                                                  cases e333
                                                  replace p333 := eq_true p333
                                                  replace q333 := eq_true q333
                                                  have p334 : 0 ≤ ((ji48) : Int) := of_decide_eq_true (by first | (with_reducible assumption) | assumption)
                                                  have q334 : (ji48) < (t323.length : Int) := of_decide_eq_true (by first | (with_reducible assumption) | assumption)
                                                  obtain ⟨ad334, e334, hx334_0, hx334_1, hx334_2⟩ := at_T39 (Kd.R_reads' HO_8.out).2.2 (ji48) p334 q334
                                                  obtain rfl : ad333 = ad334 := (by injection e334)
                                                  replace p334 := eq_true p334
                                                  replace q334 := eq_true q334
                                                  have p335 : 0 ≤ (x9_3 : Int) := of_decide_eq_true (by first | (with_reducible assumption) | assumption)
                                                  have q335 : x9_3 < (t323.length : Int) := of_decide_eq_true (by first | (with_reducible assumption) | assumption)
                                                  obtain ⟨ad335, e335, hx335_0, hx335_1, hx335_2⟩ := at_T39 (Kd.R_reads' HO_8.out).2.2 x9_3 p335 q335
                                                  obtain rfl : ad333 = ad335 := (by injection e335)
                                                  replace p335 := eq_true p335
                                                  replace q335 := eq_true q335
                                                  have p336 : 0 ≤ ((ji48) : Int) := of_decide_eq_true (by first | (with_reducible assumption) | assumption)
                                                  have q336 : (ji48) < (t323.length : Int) := of_decide_eq_true (by first | (with_reducible assumption) | assumption)
                                                  obtain ⟨ad336, e336, hx336_0, hx336_1, hx336_2⟩ := at_T39 (Kd.R_reads' HO_8.out).2.2 (ji48) p336 q336
                                                  obtain rfl : ad333 = ad336 := (by injection e336)
                                                  replace p336 := eq_true p336
                                                  replace q336 := eq_true q336
                                                  go_wp2
                                                  repeat (go_quiet (fail); try go_wp2)
                                                  go_roundg kj37
                                                  case measure => have := HJ1.out; have := HK2.out; have := HK3.out; have := HK4.out; have := HJ37.out; omega
                                                  case rel => exact ⟨(wrap64 (x9_3 + 1)), (by first | rfl | (simp; done) | (simp [*]; done)), H', ⟨by have := HJ1.out; have := HK2.out; have := HK3.out; have := HK4.out; have := HJ37.out; omega⟩, ⟨by (with_reducible repeat (first | apply Kd.V_alloc | apply Kd.V_drewN | apply Kd.V_drew)); exact HO_0.out⟩, ⟨by (with_reducible repeat (first | apply Kd.R_alloc | apply Kd.R_drewN | apply Kd.R_drew)); exact HO_8.out⟩, ⟨bE⟩⟩
                                            · rw [if_neg c50] at H
                                              exact absurd H (by simp)
                                          · rw [if_neg c49] at H
                                            exact absurd H (by simp)
                                        · rw [if_neg c47] at H
                                          exact absurd H (by simp)
                                      · rw [if_neg c46] at H
                                        exact absurd H (by simp)
                                    · rw [if_neg c45] at H
                                      have c45b0 : decide (0 < x9_3) = false := decide_eq_false c45
                                      clear c45
                                      have H' := Aside0.mk H
                                      clear H
                                      go_wp2
                                      repeat (go_quiet (fail); try go_wp2)
                                      go_roundg kj37
                                      case measure => have := HJ1.out; have := HK2.out; have := HK3.out; have := HK4.out; have := HJ37.out; omega
                                      case rel => exact ⟨(wrap64 (x9_3 + 1)), (by first | rfl | (simp; done) | (simp [*]; done)), H', ⟨by have := HJ1.out; have := HK2.out; have := HK3.out; have := HK4.out; have := HJ37.out; omega⟩, ⟨by (with_reducible repeat (first | apply Kd.V_alloc | apply Kd.V_drewN | apply Kd.V_drew)); exact HO_0.out⟩, ⟨by (with_reducible repeat (first | apply Kd.R_alloc | apply Kd.R_drewN | apply Kd.R_drew)); exact HO_8.out⟩, ⟨bE⟩⟩
                      · rw [if_neg c31] at H
                        have c31b0 : decide (x9_3 < (t323.length : Int)) = false := decide_eq_false c31
                        clear c31
                        replace H := Option.bind_eq_some_iff.mp H
                        obtain ⟨t326, A540, H⟩ := H
                        replace H : (some t326) = some r := H
                        have A54 := Aside0.mk A540
                        clear A540
                        obtain rfl := Option.some.inj H
                        obtain ⟨Ao55, co55, eo55⟩ := Kd.R_slice HO_8.out
                        subst eo55
                        go_wp2_with (first | (go_at_call 9; (with_reducible refine (corebanklaw21_lives.calls k3  t326 _ A54.out).mono ?_); rintro e w56 ⟨rfl, hb⟩; have n0_ := Aside0.mk (Kd.V_below (by (with_reducible repeat (first | apply Kd.V_alloc | apply Kd.V_drewN | apply Kd.V_drew)); exact HO_0.out) hb); have n1_ := Aside0.mk (Kd.R_below (by (with_reducible repeat (first | apply Kd.R_alloc | apply Kd.R_drewN | apply Kd.R_drew)); exact HO_8.out) hb); have n2_ := Aside0.mk (bS hb); clear HO_0; clear HO_8; clear HB; have HO_0 := n0_; have HO_8 := n1_; have HB := n2_; clear n0_ n1_ n2_; (try clear hb); (try clear hb2); (try clear hk); (try clear hi)))
                        repeat (go_quiet (first | (go_at_call 9; (with_reducible refine (corebanklaw21_lives.calls k3  t326 _ A54.out).mono ?_); rintro e w56 ⟨rfl, hb⟩; have n0_ := Aside0.mk (Kd.V_below (by (with_reducible repeat (first | apply Kd.V_alloc | apply Kd.V_drewN | apply Kd.V_drew)); exact HO_0.out) hb); have n1_ := Aside0.mk (Kd.R_below (by (with_reducible repeat (first | apply Kd.R_alloc | apply Kd.R_drewN | apply Kd.R_drew)); exact HO_8.out) hb); have n2_ := Aside0.mk (bS hb); clear HO_0; clear HO_8; clear HB; have HO_0 := n0_; have HO_8 := n1_; have HB := n2_; clear n0_ n1_ n2_; (try clear hb); (try clear hb2); (try clear hk); (try clear hi))); try go_wp2_with (first | (go_at_call 9; (with_reducible refine (corebanklaw21_lives.calls k3  t326 _ A54.out).mono ?_); rintro e w56 ⟨rfl, hb⟩; have n0_ := Aside0.mk (Kd.V_below (by (with_reducible repeat (first | apply Kd.V_alloc | apply Kd.V_drewN | apply Kd.V_drew)); exact HO_0.out) hb); have n1_ := Aside0.mk (Kd.R_below (by (with_reducible repeat (first | apply Kd.R_alloc | apply Kd.R_drewN | apply Kd.R_drew)); exact HO_8.out) hb); have n2_ := Aside0.mk (bS hb); clear HO_0; clear HO_8; clear HB; have HO_0 := n0_; have HO_8 := n1_; have HB := n2_; clear n0_ n1_ n2_; (try clear hb); (try clear hb2); (try clear hk); (try clear hi))))
                        go_ret
                        exact ⟨by first | rfl | (simp [errW_none, errW_some] <;> rfl) | (simp [*, errW_none, errW_some] <;> rfl), bE⟩
                · rw [if_neg c25] at H
                  exact absurd H (by simp)
        · rw [if_neg c8] at H
          exact absurd H (by simp)

end Go.Proofs.Ytnilmhhidmdlnaa.PA
