/- Contracts of the Go functions and their plain Lean functions, written by a program of this session out of the translation. -/
import Derived.Test.YtkhocaehhflpcaaPAx0
import Derived.Test.YtkhocaehhflpcaaPAx7
namespace Go.Proofs.Ytkhocaehhflpcaa.PA
open Go.RowKit Go.Proofs.YtkhocaehhflpcaaW.PrintWords Go.Proofs.YtkhocaehhflpcaaW.PrintLast Go.Proofs.YtkhocaehhflpcaaW.PrintMore
attribute [local go_sem] max2_int min2_int max_two min_two max_three min_three max_four min_four   -- for this text's walks alone
set_option linter.unusedVariables false
set_option linter.unusedSimpArgs false

/-! ### corebankref01_Decimal: function 39 -/
mutual
def corebankref01_Decimal.j0 : Nat → ByteArray → Bool → Option (Bool)
  | 0, _, _ => none
  | k + 1, x0, x11 => if x11 = true then (if x0.toList = ([45, 48] : List UInt8) then (some false) else (if 1 ≤ (x0.size : Int) then ((corebankref01_Decimal.f k (x0.extract 1 x0.size)).bind fun t273 => (if t273 = true then (if 1 < (x0.size : Int) then (some ((bt x0 1) != 45)) else (none)) else (some false))) else (none))) else (corebankref01_Decimal.l0 k x0 0)
def corebankref01_Decimal.l0 : Nat → ByteArray → Int → Option (Bool)
  | 0, _, _ => none
  | k + 1, x0, x3 => if x3 < (x0.size : Int) then (if 0 ≤ x3 then (if (bt x0 x3) < 48 then (some false) else (if (bt x0 x3) > 57 then (some false) else (corebankref01_Decimal.l0 k x0 (wrap64 (x3 + 1))))) else (none)) else (if x0.toList = ([48] : List UInt8) then (some true) else (if (x0.size : Int) > 0 then (if 0 < (x0.size : Int) then (some ((bt x0 0) != 48)) else (none)) else (some false)))
def corebankref01_Decimal.f : Nat → ByteArray → Option (Bool)
  | 0, _ => none
  | k + 1, a0 => if (a0.size : Int) > 0 then (if 0 < (a0.size : Int) then (corebankref01_Decimal.j0 k a0 ((bt a0 0) == 45)) else (none)) else (corebankref01_Decimal.j0 k a0 false)
end
theorem corebankref01_Decimal.mono_l : ∀ k, (∀ y0, LeO (corebankref01_Decimal.f k y0) (corebankref01_Decimal.f (k + 1) y0)) ∧ (∀ y0 y1, LeO (corebankref01_Decimal.j0 k y0 y1) (corebankref01_Decimal.j0 (k + 1) y0 y1)) ∧ (∀ y0 y1, LeO (corebankref01_Decimal.l0 k y0 y1) (corebankref01_Decimal.l0 (k + 1) y0 y1))
  | 0 => ⟨fun _ r h => by simp [corebankref01_Decimal.f] at h, fun _ _ r h => by simp [corebankref01_Decimal.j0] at h, fun _ _ r h => by simp [corebankref01_Decimal.l0] at h⟩
  | k + 1 => by
    obtain ⟨ih0, ih1, ih2⟩ := corebankref01_Decimal.mono_l k
    refine ⟨?_, ?_, ?_⟩
    · intro y0
      unfold corebankref01_Decimal.f
      repeat' first
      | (with_reducible exact ih0 _)
      | (with_reducible exact ih1 _ _)
      | (with_reducible exact ih2 _ _)
      | (with_reducible exact LeO.refl _)
      | (with_reducible exact LeO.none _)
      | (with_reducible refine LeO.ite ?_ ?_)
      | (with_reducible refine LeO.bind ?_ (fun _ => ?_))
      | exact ih0 _
      | exact ih1 _ _
      | exact ih2 _ _
      | exact LeO.none _
      | refine LeO.ite ?_ ?_
      | refine LeO.bind ?_ (fun _ => ?_)
    · intro y0 y1
      unfold corebankref01_Decimal.j0
      repeat' first
      | (with_reducible exact ih0 _)
      | (with_reducible exact ih1 _ _)
      | (with_reducible exact ih2 _ _)
      | (with_reducible exact LeO.refl _)
      | (with_reducible exact LeO.none _)
      | (with_reducible refine LeO.ite ?_ ?_)
      | (with_reducible refine LeO.bind ?_ (fun _ => ?_))
      | exact ih0 _
      | exact ih1 _ _
      | exact ih2 _ _
      | exact LeO.none _
      | refine LeO.ite ?_ ?_
      | refine LeO.bind ?_ (fun _ => ?_)
    · intro y0 y1
      unfold corebankref01_Decimal.l0
      repeat' first
      | (with_reducible exact ih0 _)
      | (with_reducible exact ih1 _ _)
      | (with_reducible exact ih2 _ _)
      | (with_reducible exact LeO.refl _)
      | (with_reducible exact LeO.none _)
      | (with_reducible refine LeO.ite ?_ ?_)
      | (with_reducible refine LeO.bind ?_ (fun _ => ?_))
      | exact ih0 _
      | exact ih1 _ _
      | exact ih2 _ _
      | exact LeO.none _
      | refine LeO.ite ?_ ?_
      | refine LeO.bind ?_ (fun _ => ?_)
theorem corebankref01_Decimal.mono : ∀ a0 k, LeO (corebankref01_Decimal.f k a0) (corebankref01_Decimal.f (k + 1) a0) := by
  intro a0 k
  obtain ⟨ih0, ih1, ih2⟩ := corebankref01_Decimal.mono_l k
  exact ih0 a0
set_option maxHeartbeats 8000000 in
set_option maxRecDepth 100000 in
theorem corebankref01_Decimal.calls (k : Nat) : ∀ (a0 : ByteArray) (r : Bool) (w : World) (h : corebankref01_Decimal.f k a0 = some r),
    Calls Try.prog 39 #[.string a0] w fun e w' => e = .returned (.bool r) ∧ Drawn0 w w' := by
  induction k using Nat.strongRecOn with
  | _ k ih =>
  intro a0 r w h
  cases k with
  | zero => exact absurd h (by simp [corebankref01_Decimal.f])
  | succ k =>
  simp only [corebankref01_Decimal.f] at h
  have H : (if (a0.size : Int) > 0 then (if 0 < (a0.size : Int) then (corebankref01_Decimal.j0 k a0 ((bt a0 0) == 45)) else (none)) else (corebankref01_Decimal.j0 k a0 false)) = some r := h
  clear h
  have HC2 := Aside0.mk H
  clear H
  go_enter Try.func39, Try.ntmps39
  go_upto_region 1 with (fail)
  go_cut [11] (fun v11 wc => ∃ (kq : Nat) (x11_1 : Bool), v11 = .bool x11_1 ∧ Aside0 (corebankref01_Decimal.j0 kq a0 x11_1 = some r) ∧ Aside0 (kq ≤ k) ∧ Drawn0 w wc)
  case first =>
    have H := HC2.out
    clear HC2
    by_cases c3 : (a0.size : Int) > 0
    · rw [if_pos c3] at H
      have c3b0 : decide (0 < (a0.size : Int)) = true := decide_eq_true c3
      have c3b1 : decide (0 < a0.size) = true := decide_eq_true (by omega)
      clear c3
      (first | rw [c3b0] | (simp only [i64_w, i32_w]; rw [c3b0]) | skip)
      by_cases c4 : 0 < (a0.size : Int)
      · rw [if_pos c4] at H
        have c4b0 : decide (0 < (a0.size : Int)) = true := decide_eq_true c4
        have c4b1 : decide (0 < a0.size) = true := decide_eq_true (by omega)
        clear c4
        have H' := Aside0.mk H
        clear H
        have p5 : 0 ≤ (0 : Int) := (by omega)
        have q5 : 0 < a0.size := (by have : (0 : Int) < (a0.size : Int) := of_decide_eq_true (by first | (with_reducible assumption) | assumption); omega)
        have hx5 : ∀ h : 0 < a0.size, ((a0[0]'h).toNat : Int) = bt a0 0 := bt_at a0 0
        clear p5
        have qi5 : (0 < (a0.size : Int)) = True := eq_true (of_decide_eq_true (by first | (with_reducible assumption) | assumption))
        replace q5 := eq_true q5
        go_wp2
        go_meet
        case rel => exact ⟨_, (((bt a0 0) == 45)), (by first | rfl | (simp; done) | (simp [*]; done)), H', ⟨by first | omega | exact Nat.le_refl _⟩, by repeat (first | exact Drawn0.refl _ | apply Drawn0.step)⟩
      · rw [if_neg c4] at H
        exact absurd H (by simp)
    · rw [if_neg c3] at H
      have c3b0 : decide (0 < (a0.size : Int)) = false := decide_eq_false c3
      have c3b1 : decide (0 < a0.size) = false := decide_eq_false (by omega)
      clear c3
      (first | rw [c3b0] | (simp only [i64_w, i32_w]; rw [c3b0]) | skip)
      have H' := Aside0.mk H
      clear H
      go_wp2
      go_meet
      case rel => exact ⟨_, (false), (by first | rfl | (simp; done) | (simp [*]; done)), H', ⟨by first | omega | exact Nat.le_refl _⟩, by repeat (first | exact Drawn0.refl _ | apply Drawn0.step)⟩
  case rest =>
    clear HC2
    try clear p2
    try clear c3
    try clear c3b0
    try clear c3b1
    try clear c4
    try clear c4b0
    try clear c4b1
    try clear p5
    try clear q5
    try clear hx5
    try clear qi5
    try clear p5
    try clear q5
    obtain ⟨kq, x11_1, rfl, HA, HJ1, ⟨mc1, rfl⟩⟩ := hcut
    cases kq with
    | zero => exact absurd HA.out (by simp [corebankref01_Decimal.j0])
    | succ kj1 =>
      have H := HA.out
      clear HA
      simp only [corebankref01_Decimal.j0] at H
      by_cases c6 : x11_1 = true
      · subst c6
        have H1 : (if a0.toList = ([45, 48] : List UInt8) then (some false) else (if 1 ≤ (a0.size : Int) then ((corebankref01_Decimal.f kj1 (a0.extract 1 a0.size)).bind fun t273 => (if t273 = true then (if 1 < (a0.size : Int) then (some ((bt a0 1) != 45)) else (none)) else (some false))) else (none))) = some r := by rw [if_pos rfl] at H; exact H
        clear H
        have H := H1
        clear H1
        by_cases c7 : a0.toList = ([45, 48] : List UInt8)
        · rw [if_pos c7] at H
          have c7b0 : (a0.toList == ([45, 48] : List UInt8)) = true := beq_iff_eq.mpr c7
          have c7b1 : (a0.toList != ([45, 48] : List UInt8)) = false := bne_eq_false_iff_eq.mpr c7
          clear c7
          obtain rfl := Option.some.inj H
          go_wp2
          go_ret
          exact ⟨by first | rfl | (simp; done) | (simp [*]; done), by repeat (first | exact Drawn0.refl _ | apply Drawn0.step)⟩
        · rw [if_neg c7] at H
          have c7b0 : (a0.toList == ([45, 48] : List UInt8)) = false := beq_eq_false_iff_ne.mpr c7
          have c7b1 : (a0.toList != ([45, 48] : List UInt8)) = true := bne_iff_ne.mpr c7
          by_cases c8 : 1 ≤ (a0.size : Int)
          · rw [if_pos c8] at H
            have c8b0 := eq_true c8
            have c8b1 : decide (1 ≤ (a0.size : Int)) = true := decide_eq_true c8
            clear c8
            replace H := Option.bind_eq_some_iff.mp H
            obtain ⟨t273, A90, H⟩ := H
            replace H : (if t273 = true then (if 1 < (a0.size : Int) then (some ((bt a0 1) != 45)) else (none)) else (some false)) = some r := H
            have A9 := Aside0.mk A90
            clear A90
            by_cases c10 : t273 = true
            · subst c10
              have H1 : (if 1 < (a0.size : Int) then (some ((bt a0 1) != 45)) else (none)) = some r := by rw [if_pos rfl] at H; exact H
              clear H
              have H := H1
              clear H1
              by_cases c11 : 1 < (a0.size : Int)
              · rw [if_pos c11] at H
                have c11b0 : decide (1 < (a0.size : Int)) = true := decide_eq_true c11
                have c11b1 : decide (1 < a0.size) = true := decide_eq_true (by omega)
                clear c11
                obtain rfl := Option.some.inj H
                go_wp2_with (first | (go_at_call 39; (with_reducible refine (ih kj1 (by have := HJ1.out; omega) (a0.extract 1 a0.size) true _ A9.out).mono ?_); rintro e w' ⟨rfl, ⟨nd, rfl⟩⟩; have p12 : 0 ≤ (1 : Int) := (by omega); have q12 : 1 < a0.size := (by have : (1 : Int) < (a0.size : Int) := of_decide_eq_true (by first | (with_reducible assumption) | assumption); omega); have hx12 : ∀ h : 1 < a0.size, ((a0[1]'h).toNat : Int) = bt a0 1 := bt_at a0 1; clear p12; have qi12 : (1 < (a0.size : Int)) = True := eq_true (of_decide_eq_true (by first | (with_reducible assumption) | assumption)); replace q12 := eq_true q12))
                go_ret
                exact ⟨by first | rfl | (simp; done) | (simp [*]; done), by repeat (first | exact Drawn0.refl _ | apply Drawn0.step)⟩
              · rw [if_neg c11] at H
                exact absurd H (by simp)
            · replace c10 := Bool.eq_false_iff.mpr c10
              subst c10
              have H1 : (some false) = some r := by rw [if_neg (show ¬ (false = true) by decide)] at H; exact H
              clear H
              have H := H1
              clear H1
              obtain rfl := Option.some.inj H
              go_wp2_with (first | (go_at_call 39; (with_reducible refine (ih kj1 (by have := HJ1.out; omega) (a0.extract 1 a0.size) false _ A9.out).mono ?_); rintro e w' ⟨rfl, ⟨nd, rfl⟩⟩))
              go_ret
              exact ⟨by first | rfl | (simp; done) | (simp [*]; done), by repeat (first | exact Drawn0.refl _ | apply Drawn0.step)⟩
          · rw [if_neg c8] at H
            exact absurd H (by simp)
      · replace c6 := Bool.eq_false_iff.mpr c6
        subst c6
        have H1 : (corebankref01_Decimal.l0 kj1 a0 0) = some r := by rw [if_neg (show ¬ (false = true) by decide)] at H; exact H
        clear H
        have H := H1
        clear H1
        have H' := Aside0.mk H
        clear H
        go_wp2
        go_loopg [3] kj1 (fun kq v3 w' => ∃ (x3_2 : Int), v3 = .int .i64 x3_2 ∧ Aside0 (corebankref01_Decimal.l0 kq a0 x3_2 = some r) ∧ Aside0 (kq ≤ kj1) ∧ Drawn0 w w')
        case atStart => exact ⟨(0), (by first | rfl | (simp; done) | (simp [*]; done)), H', ⟨Nat.le_refl _⟩, by repeat (first | exact Drawn0.refl _ | apply Drawn0.step)⟩
        case round =>
          clear H'
          try clear c1
          try clear p1
          try clear q1
          try clear hx1
          try clear qi1
          try clear p2
          try clear c3
          try clear c3b0
          try clear c3b1
          try clear c4
          try clear c4b0
          try clear c4b1
          try clear p5
          try clear q5
          try clear hx5
          try clear qi5
          try clear c6
          try clear c7
          try clear c7b0
          try clear c7b1
          try clear c8
          try clear c8b0
          try clear c8b1
          try clear c10
          try clear c11
          try clear c11b0
          try clear c11b1
          try clear p12
          try clear q12
          try clear hx12
          try clear qi12
          try clear p12
          try clear p2
          try clear p5
          try clear q12
          try clear q5
          obtain ⟨x3_2, rfl, HA, HK2, ⟨m2, rfl⟩⟩ := hrel
          cases gk with
          | zero => exact absurd HA.out (by simp [corebankref01_Decimal.l0])
          | succ k2 =>
            have H := HA.out
            clear HA
            simp only [corebankref01_Decimal.l0] at H
            by_cases c13 : x3_2 < (a0.size : Int)
            · rw [if_pos c13] at H
              have c13b0 : decide (x3_2 < (a0.size : Int)) = true := decide_eq_true c13
              clear c13
              by_cases c14 : 0 ≤ x3_2
              · rw [if_pos c14] at H
                have c14b0 : decide (0 ≤ x3_2) = true := decide_eq_true c14
                clear c14
                by_cases c16 : (bt a0 x3_2) < 48
                · rw [if_pos c16] at H
                  have c16b0 : decide ((bt a0 x3_2) < 48) = true := decide_eq_true c16
                  clear c16
                  obtain rfl := Option.some.inj H
                  have p15 : 0 ≤ (x3_2 : Int) := of_decide_eq_true (by first | (with_reducible assumption) | assumption)
                  have q15 : x3_2 < (a0.size : Int) := of_decide_eq_true (by first | (with_reducible assumption) | assumption)
                  have hx15 := bt_at a0 x3_2
                  replace p15 := eq_true p15
                  replace q15 := eq_true q15
                  go_wp2
                  go_ret
                  exact ⟨by first | rfl | (simp; done) | (simp [*]; done), by repeat (first | exact Drawn0.refl _ | apply Drawn0.step)⟩
                · rw [if_neg c16] at H
                  have c16b0 : decide ((bt a0 x3_2) < 48) = false := decide_eq_false c16
                  clear c16
                  by_cases c18 : (bt a0 x3_2) > 57
                  · rw [if_pos c18] at H
                    have c18b0 : decide (57 < (bt a0 x3_2)) = true := decide_eq_true c18
                    clear c18
                    obtain rfl := Option.some.inj H
                    have p15 : 0 ≤ (x3_2 : Int) := of_decide_eq_true (by first | (with_reducible assumption) | assumption)
                    have q15 : x3_2 < (a0.size : Int) := of_decide_eq_true (by first | (with_reducible assumption) | assumption)
                    have hx15 := bt_at a0 x3_2
                    replace p15 := eq_true p15
                    replace q15 := eq_true q15
                    have p17 : 0 ≤ (x3_2 : Int) := of_decide_eq_true (by first | (with_reducible assumption) | assumption)
                    have q17 : x3_2 < (a0.size : Int) := of_decide_eq_true (by first | (with_reducible assumption) | assumption)
                    have hx17 := bt_at a0 x3_2
                    replace p17 := eq_true p17
                    replace q17 := eq_true q17
                    go_wp2
                    go_ret
                    exact ⟨by first | rfl | (simp; done) | (simp [*]; done), by repeat (first | exact Drawn0.refl _ | apply Drawn0.step)⟩
                  · rw [if_neg c18] at H
                    have c18b0 : decide (57 < (bt a0 x3_2)) = false := decide_eq_false c18
                    clear c18
                    have H' := Aside0.mk H
                    clear H
                    have p15 : 0 ≤ (x3_2 : Int) := of_decide_eq_true (by first | (with_reducible assumption) | assumption)
                    have q15 : x3_2 < (a0.size : Int) := of_decide_eq_true (by first | (with_reducible assumption) | assumption)
                    have hx15 := bt_at a0 x3_2
                    replace p15 := eq_true p15
                    replace q15 := eq_true q15
                    have p17 : 0 ≤ (x3_2 : Int) := of_decide_eq_true (by first | (with_reducible assumption) | assumption)
                    have q17 : x3_2 < (a0.size : Int) := of_decide_eq_true (by first | (with_reducible assumption) | assumption)
                    have hx17 := bt_at a0 x3_2
                    replace p17 := eq_true p17
                    replace q17 := eq_true q17
                    go_wp2
                    go_roundg k2
                    case measure => have := HJ1.out; have := HK2.out; omega
                    case rel => exact ⟨(wrap64 (x3_2 + 1)), (by first | rfl | (simp; done) | (simp [*]; done)), H', ⟨by have := HJ1.out; have := HK2.out; omega⟩, by repeat (first | exact Drawn0.refl _ | apply Drawn0.step)⟩
              · rw [if_neg c14] at H
                exact absurd H (by simp)
            · rw [if_neg c13] at H
              have c13b0 : decide (x3_2 < (a0.size : Int)) = false := decide_eq_false c13
              clear c13
              by_cases c19 : a0.toList = ([48] : List UInt8)
              · rw [if_pos c19] at H
                have c19b0 : (a0.toList == ([48] : List UInt8)) = true := beq_iff_eq.mpr c19
                have c19b1 : (a0.toList != ([48] : List UInt8)) = false := bne_eq_false_iff_eq.mpr c19
                clear c19
                obtain rfl := Option.some.inj H
                go_wp2
                go_ret
                exact ⟨by first | rfl | (simp; done) | (simp [*]; done), by repeat (first | exact Drawn0.refl _ | apply Drawn0.step)⟩
              · rw [if_neg c19] at H
                have c19b0 : (a0.toList == ([48] : List UInt8)) = false := beq_eq_false_iff_ne.mpr c19
                have c19b1 : (a0.toList != ([48] : List UInt8)) = true := bne_iff_ne.mpr c19
                by_cases c20 : (a0.size : Int) > 0
                · rw [if_pos c20] at H
                  have c20b0 : decide (0 < (a0.size : Int)) = true := decide_eq_true c20
                  have c20b1 : decide (0 < a0.size) = true := decide_eq_true (by omega)
                  clear c20
                  by_cases c21 : 0 < (a0.size : Int)
                  · rw [if_pos c21] at H
                    have c21b0 : decide (0 < (a0.size : Int)) = true := decide_eq_true c21
                    have c21b1 : decide (0 < a0.size) = true := decide_eq_true (by omega)
                    clear c21
                    obtain rfl := Option.some.inj H
                    have p22 : 0 ≤ (0 : Int) := (by omega)
                    have q22 : 0 < a0.size := (by have : (0 : Int) < (a0.size : Int) := of_decide_eq_true (by first | (with_reducible assumption) | assumption); omega)
                    have hx22 : ∀ h : 0 < a0.size, ((a0[0]'h).toNat : Int) = bt a0 0 := bt_at a0 0
                    clear p22
                    have qi22 : (0 < (a0.size : Int)) = True := eq_true (of_decide_eq_true (by first | (with_reducible assumption) | assumption))
                    replace q22 := eq_true q22
                    go_wp2
                    go_ret
                    exact ⟨by first | rfl | (simp; done) | (simp [*]; done), by repeat (first | exact Drawn0.refl _ | apply Drawn0.step)⟩
                  · rw [if_neg c21] at H
                    exact absurd H (by simp)
                · rw [if_neg c20] at H
                  have c20b0 : decide (0 < (a0.size : Int)) = false := decide_eq_false c20
                  have c20b1 : decide (0 < a0.size) = false := decide_eq_false (by omega)
                  clear c20
                  obtain rfl := Option.some.inj H
                  go_wp2
                  go_ret
                  exact ⟨by first | rfl | (simp; done) | (simp [*]; done), by repeat (first | exact Drawn0.refl _ | apply Drawn0.step)⟩

/-! ### corebankref01_times: function 40 -/
def corebankref01_times.l0 : Nat → Int → Bool → Int → Int → Int → Int → Int → Option (Int × Int × Bool)
  | 0, _, _, _, _, _, _, _ => none
  | k + 1, x1, x7, x8, x275000, x275001, x277000, x277001 => if x8 < 64 then ((corebankref01_plus.f x277000 x277001 x277000 x277001).bind fun bt277 => (if x7 = true then (if (Go.bits .and .u64 x1 9223372036854775808) = 0 then (corebankref01_times.l0 k (IntKind.u64.wrap (x1 * 2)) bt277.2.2 (wrap64 (x8 + 1)) x275000 x275001 bt277.1 bt277.2.1) else ((corebankref01_plus.f bt277.1 bt277.2.1 x275000 x275001).bind fun bt281 => (if bt277.2.2 = true then (corebankref01_times.l0 k (IntKind.u64.wrap (x1 * 2)) bt281.2.2 (wrap64 (x8 + 1)) x275000 x275001 bt281.1 bt281.2.1) else (corebankref01_times.l0 k (IntKind.u64.wrap (x1 * 2)) false (wrap64 (x8 + 1)) x275000 x275001 bt281.1 bt281.2.1)))) else (if (Go.bits .and .u64 x1 9223372036854775808) = 0 then (corebankref01_times.l0 k (IntKind.u64.wrap (x1 * 2)) false (wrap64 (x8 + 1)) x275000 x275001 bt277.1 bt277.2.1) else ((corebankref01_plus.f bt277.1 bt277.2.1 x275000 x275001).bind fun bt284 => (corebankref01_times.l0 k (IntKind.u64.wrap (x1 * 2)) false (wrap64 (x8 + 1)) x275000 x275001 bt284.1 bt284.2.1))))) else (some (x277000, x277001, x7))
def corebankref01_times.f (k : Nat) (a0_0 : Int) (a0_1 : Int) (a1 : Int) : Option (Int × Int × Bool) := corebankref01_times.l0 k a1 true 0 a0_0 a0_1 0 0
theorem corebankref01_times.mono_l : ∀ k, (∀ y0 y1 y2 y3 y4 y5 y6, LeO (corebankref01_times.l0 k y0 y1 y2 y3 y4 y5 y6) (corebankref01_times.l0 (k + 1) y0 y1 y2 y3 y4 y5 y6))
  | 0 => fun _ _ _ _ _ _ _ r h => by simp [corebankref01_times.l0] at h
  | k + 1 => by
    have ih0 := corebankref01_times.mono_l k
    · intro y0 y1 y2 y3 y4 y5 y6
      unfold corebankref01_times.l0
      repeat' first
      | (with_reducible exact ih0 _ _ _ _ _ _ _)
      | (with_reducible exact LeO.refl _)
      | (with_reducible exact LeO.none _)
      | (with_reducible refine LeO.ite ?_ ?_)
      | (with_reducible refine LeO.bind ?_ (fun _ => ?_))
      | exact ih0 _ _ _ _ _ _ _
      | exact LeO.none _
      | refine LeO.ite ?_ ?_
      | refine LeO.bind ?_ (fun _ => ?_)
theorem corebankref01_times.mono : ∀ a0 a1 a2 k, LeO (corebankref01_times.f k a0 a1 a2) (corebankref01_times.f (k + 1) a0 a1 a2) := by
  intro a0 a1 a2 k
  have ih0 := corebankref01_times.mono_l k
  unfold corebankref01_times.f
  repeat' first
      | (with_reducible exact ih0 _ _ _ _ _ _ _)
      | (with_reducible exact LeO.refl _)
      | (with_reducible exact LeO.none _)
      | (with_reducible refine LeO.ite ?_ ?_)
      | (with_reducible refine LeO.bind ?_ (fun _ => ?_))
      | exact ih0 _ _ _ _ _ _ _
      | exact LeO.none _
      | refine LeO.ite ?_ ?_
      | refine LeO.bind ?_ (fun _ => ?_)
set_option maxHeartbeats 8000000 in
set_option maxRecDepth 100000 in
theorem corebankref01_times.calls (k : Nat) (a0_0 : Int) (a0_1 : Int) (a1 : Int) (r1 : Int) (r2 : Int) (r3 : Bool) (w : World) (h : corebankref01_times.f k a0_0 a0_1 a1 = some (r1, r2, r3)) :
    Calls Try.prog 40 #[.agg #[.int .u64 a0_0, .int .u64 a0_1], .int .u64 a1] w fun e w' => e = .returned (.tuple #[.agg #[.int .u64 r1, .int .u64 r2], .bool r3]) ∧ Below w.heap.size w w' := by
  have hu53 := Try.underlying53
  have HB := Aside0.mk (Below.refl w.heap.size w)
  have H : (corebankref01_times.l0 k a1 true 0 a0_0 a0_1 0 0) = some (r1, r2, r3) := h
  clear h
  have H' := Aside0.mk H
  clear H
  go_enter Try.func40, Try.ntmps40
  go_wp2_with (first | ((with_reducible refine gate_dst (N := 2) rfl ?_); refine box_event ?hg (N := 2) ?hd (cs := #[.int .u64 a0_0, .int .u64 a0_1]) (t := 53) ?hr ?_; (case hd => rfl); (case hg => rfl); (case hr => first | (go_simp; done) | (go_simp; rfl)); intro gb274 hg w3 hbox hb; have nn_ := bT hb hg; have BK274 := Aside0.mk (hbox); have GW274 := Aside0.mk nn_.2; have GE274 := GW274; replace HB := Aside0.mk nn_.1; clear nn_; clear hb hbox hg) | ((with_reducible refine gate_dst (N := 4) rfl ?_); refine box_event ?hg (N := 4) ?hd (cs := #[.int .u64 0, .int .u64 0]) (t := 53) ?hr ?_; (case hd => rfl); (case hg => rfl); (case hr => first | (go_simp; done) | (go_simp; rfl)); intro gb275 hg w4 hbox hb; have nn_ := bT hb hg; have bgb274_ := bN BK274 hb hg; have BK275 := Aside0.mk (hbox); have GW275 := Aside0.mk nn_.2; have GE275 := GW275; have NB274_275 := Aside0.mk bgb274_.2.1; have NB275_274 := Aside0.mk bgb274_.2.2; replace BK274 := Aside0.mk bgb274_.1; replace HB := Aside0.mk nn_.1; clear nn_ bgb274_; clear hb hbox hg) | ((with_reducible refine gate_dst (N := 6) rfl ?_); refine box_event ?hg (N := 6) ?hd (cs := #[.int .u64 0, .int .u64 0]) (t := 53) ?hr ?_; (case hd => rfl); (case hg => rfl); (case hr => first | (go_simp; done) | (go_simp; rfl)); intro gb276 hg w5 hbox hb; have nn_ := bT hb hg; have bgb274_ := bN BK274 hb hg; have bgb275_ := bN BK275 hb hg; have BK276 := Aside0.mk (hbox); have GW276 := Aside0.mk nn_.2; have GE276 := GW276; have NB274_276 := Aside0.mk bgb274_.2.1; have NB276_274 := Aside0.mk bgb274_.2.2; have NB275_276 := Aside0.mk bgb275_.2.1; have NB276_275 := Aside0.mk bgb275_.2.2; replace BK274 := Aside0.mk bgb274_.1; replace BK275 := Aside0.mk bgb275_.1; replace HB := Aside0.mk nn_.1; clear nn_ bgb274_ bgb275_; clear hb hbox hg; have hnb6 := NB276_274.out; have hnc6 := NB274_276.out; have hnb7 := NB276_275.out; have hnc7 := NB275_276.out; have hcz8_0 : w5.cell? ⟨gb276, 0, none⟩ = some (.int .u64 0) := (blk_cell BK276.out 0).trans rfl; have hcz8_1 : w5.cell? ⟨gb276, 1, none⟩ = some (.int .u64 0) := (blk_cell BK276.out 1).trans rfl; have hfz8_0 := blk_frozen BK276.out 0; have hfz8_1 := blk_frozen BK276.out 1))
  go_loopg [1, 7, 8] k (fun kq v1 v7 v8 w' => ∃ (x1_1 : Int) (x7_1 : Bool) (x8_1 : Int) (x277000_1 : Int) (x277001_1 : Int), v1 = .int .u64 x1_1 ∧ v7 = .bool x7_1 ∧ v8 = .int .i64 x8_1 ∧ Aside0 (corebankref01_times.l0 kq x1_1 x7_1 x8_1 a0_0 a0_1 x277000_1 x277001_1 = some (r1, r2, r3)) ∧ Aside0 (kq ≤ k) ∧ Aside0 (w'.heap[gb274]? = some (.cells #[.int .u64 a0_0, .int .u64 a0_1] 53 (0, 0))) ∧ Aside0 (w'.heap[gb275]? = some (.cells #[.int .u64 0, .int .u64 0] 53 (0, 0))) ∧ Aside0 (w'.heap[gb276]? = some (.cells #[.int .u64 x277000_1, .int .u64 x277001_1] 53 (0, 0))) ∧ Aside0 (Below w.heap.size w w'))
  case atStart => exact ⟨(a1), (true), (0), (0), (0), (by first | rfl | (simp; done) | (simp [*]; done)), (by first | rfl | (simp; done) | (simp [*]; done)), (by first | rfl | (simp; done) | (simp [*]; done)), H', ⟨Nat.le_refl _⟩, ⟨by (with_reducible repeat (first | refine blk_drewN ?_ _ | refine blk_drew ?_ | refine blk_alloc ?_ _)); refine blk_far ?_ NB274_276.out _; (with_reducible repeat (first | refine blk_drewN ?_ _ | refine blk_drew ?_ | refine blk_alloc ?_ _)); refine blk_far ?_ NB274_276.out _; (with_reducible repeat (first | refine blk_drewN ?_ _ | refine blk_drew ?_ | refine blk_alloc ?_ _)); exact BK274.out⟩, ⟨by (with_reducible repeat (first | refine blk_drewN ?_ _ | refine blk_drew ?_ | refine blk_alloc ?_ _)); refine blk_far ?_ NB275_276.out _; (with_reducible repeat (first | refine blk_drewN ?_ _ | refine blk_drew ?_ | refine blk_alloc ?_ _)); refine blk_far ?_ NB275_276.out _; (with_reducible repeat (first | refine blk_drewN ?_ _ | refine blk_drew ?_ | refine blk_alloc ?_ _)); exact BK275.out⟩, ⟨by (with_reducible repeat (first | refine blk_drewN ?_ _ | refine blk_drew ?_ | refine blk_alloc ?_ _)); refine blk_put (cs := #[.int .u64 0, .int .u64 0]) ?_ 1 _ rfl; (with_reducible repeat (first | refine blk_drewN ?_ _ | refine blk_drew ?_ | refine blk_alloc ?_ _)); refine blk_put (cs := #[.int .u64 0, .int .u64 0]) ?_ 0 _ rfl; (with_reducible repeat (first | refine blk_drewN ?_ _ | refine blk_drew ?_ | refine blk_alloc ?_ _)); exact BK276.out⟩, ⟨bE⟩⟩
  case round =>
    clear H'
    try clear p2
    try clear c4
    try clear c6
    try clear c7
    try clear hcz8_0
    try clear hcz8_1
    try clear hfz8_0
    try clear hfz8_1
    obtain ⟨x1_1, x7_1, x8_1, x277000_1, x277001_1, rfl, rfl, rfl, HA, HK1, BK274, BK275, BK276, HB⟩ := hrel
    cases gk with
    | zero => exact absurd HA.out (by simp [corebankref01_times.l0])
    | succ k1 =>
      have H := HA.out
      clear HA
      simp only [corebankref01_times.l0] at H
      by_cases c9 : x8_1 < 64
      · rw [if_pos c9] at H
        have c9b0 : decide (x8_1 < 64) = true := decide_eq_true c9
        clear c9
        replace H := Option.bind_eq_some_iff.mp H
        obtain ⟨⟨t277, t278, t279⟩, A100, H⟩ := H
        replace H : (if x7_1 = true then (if (Go.bits .and .u64 x1_1 9223372036854775808) = 0 then (corebankref01_times.l0 k1 (IntKind.u64.wrap (x1_1 * 2)) t279 (wrap64 (x8_1 + 1)) a0_0 a0_1 t277 t278) else ((corebankref01_plus.f t277 t278 a0_0 a0_1).bind fun bt281 => (if t279 = true then (corebankref01_times.l0 k1 (IntKind.u64.wrap (x1_1 * 2)) bt281.2.2 (wrap64 (x8_1 + 1)) a0_0 a0_1 bt281.1 bt281.2.1) else (corebankref01_times.l0 k1 (IntKind.u64.wrap (x1_1 * 2)) false (wrap64 (x8_1 + 1)) a0_0 a0_1 bt281.1 bt281.2.1)))) else (if (Go.bits .and .u64 x1_1 9223372036854775808) = 0 then (corebankref01_times.l0 k1 (IntKind.u64.wrap (x1_1 * 2)) false (wrap64 (x8_1 + 1)) a0_0 a0_1 t277 t278) else ((corebankref01_plus.f t277 t278 a0_0 a0_1).bind fun bt284 => (corebankref01_times.l0 k1 (IntKind.u64.wrap (x1_1 * 2)) false (wrap64 (x8_1 + 1)) a0_0 a0_1 bt284.1 bt284.2.1)))) = some (r1, r2, r3) := H
        have A10 := Aside0.mk A100
        clear A100
        by_cases c11 : x7_1 = true
        · subst c11
          have H1 : (if (Go.bits .and .u64 x1_1 9223372036854775808) = 0 then (corebankref01_times.l0 k1 (IntKind.u64.wrap (x1_1 * 2)) t279 (wrap64 (x8_1 + 1)) a0_0 a0_1 t277 t278) else ((corebankref01_plus.f t277 t278 a0_0 a0_1).bind fun bt281 => (if t279 = true then (corebankref01_times.l0 k1 (IntKind.u64.wrap (x1_1 * 2)) bt281.2.2 (wrap64 (x8_1 + 1)) a0_0 a0_1 bt281.1 bt281.2.1) else (corebankref01_times.l0 k1 (IntKind.u64.wrap (x1_1 * 2)) false (wrap64 (x8_1 + 1)) a0_0 a0_1 bt281.1 bt281.2.1)))) = some (r1, r2, r3) := by rw [if_pos rfl] at H; exact H
          clear H
          have H := H1
          clear H1
          by_cases c12 : (Go.bits .and .u64 x1_1 9223372036854775808) = 0
          · rw [if_pos c12] at H
            have c12b0 : ((Go.bits .and .u64 x1_1 9223372036854775808) == 0) = true := beq_iff_eq.mpr c12
            have c12b1 : ((Go.bits .and .u64 x1_1 9223372036854775808) != 0) = false := bne_eq_false_iff_eq.mpr c12
            clear c12
            have H' := Aside0.mk H
            clear H
            have hnb13 := NB276_274.out
            have hnc13 := NB274_276.out
            have hnb14 := NB276_275.out
            have hnc14 := NB275_276.out
            have hcz15_0 : wr.cell? ⟨gb276, 0, none⟩ = some (.int .u64 x277000_1) := (blk_cell BK276.out 0).trans rfl
            have hcz15_1 : wr.cell? ⟨gb276, 1, none⟩ = some (.int .u64 x277001_1) := (blk_cell BK276.out 1).trans rfl
            have hfz15_0 := blk_frozen BK276.out 0
            have hfz15_1 := blk_frozen BK276.out 1
            go_wp2_with (first | ((with_reducible refine gate_callee (f := 37) rfl ?_); refine goesL_ (some 19) rfl rfl Try.func37 (by kernel_rfl) rfl #[.agg #[.int .u64 x277000_1, .int .u64 x277001_1], .agg #[.int .u64 x277000_1, .int .u64 x277001_1]] rfl aG ?_; (with_reducible refine (corebankref01_plus.calls x277000_1 x277001_1 x277000_1 x277001_1 t277 t278 t279 _ A10.out).mono ?_); rintro e w16 ⟨rfl, hb⟩; refine ⟨_, rfl, ?_⟩; replace BK274 := Aside0.mk (bK BK274 hb); replace BK275 := Aside0.mk (bK BK275 hb); replace BK276 := Aside0.mk (bK BK276 hb); replace HB := Aside0.mk (bS hb); (try clear hb); (try clear hb2); (try clear hk); (try clear hi)) | ((with_reducible refine gate_dst (N := 9) rfl ?_); refine box_event ?hg (N := 9) ?hd (cs := #[.int .u64 0, .int .u64 0]) (t := 53) ?hr ?_; (case hd => rfl); (case hg => rfl); (case hr => first | (go_simp; done) | (go_simp; rfl)); intro gb280 hg w17 hbox hb; have nn_ := bT hb hg; have bgb274_ := bN BK274 hb hg; have bgb275_ := bN BK275 hb hg; have bgb276_ := bN BK276 hb hg; have BK280 := Aside0.mk (hbox); have GW280 := Aside0.mk nn_.2; have GE280 := GW280; have NB274_280 := Aside0.mk bgb274_.2.1; have NB280_274 := Aside0.mk bgb274_.2.2; have NB275_280 := Aside0.mk bgb275_.2.1; have NB280_275 := Aside0.mk bgb275_.2.2; have NB276_280 := Aside0.mk bgb276_.2.1; have NB280_276 := Aside0.mk bgb276_.2.2; replace BK274 := Aside0.mk bgb274_.1; replace BK275 := Aside0.mk bgb275_.1; replace BK276 := Aside0.mk bgb276_.1; replace HB := Aside0.mk nn_.1; clear nn_ bgb274_ bgb275_ bgb276_; clear hb hbox hg; have hnb18 := NB280_274.out; have hnc18 := NB274_280.out; have hnb19 := NB280_275.out; have hnc19 := NB275_280.out; have hnb20 := NB280_276.out; have hnc20 := NB276_280.out; have hcz21_0 : w17.cell? ⟨gb280, 0, none⟩ = some (.int .u64 0) := (blk_cell BK280.out 0).trans rfl; have hcz21_1 : w17.cell? ⟨gb280, 1, none⟩ = some (.int .u64 0) := (blk_cell BK280.out 1).trans rfl; have hfz21_0 := blk_frozen BK280.out 0; have hfz21_1 := blk_frozen BK280.out 1; have hcz22_0 : w17.cell? ⟨gb276, 0, none⟩ = some (.int .u64 x277000_1) := (blk_cell BK276.out 0).trans rfl; have hcz22_1 : w17.cell? ⟨gb276, 1, none⟩ = some (.int .u64 x277001_1) := (blk_cell BK276.out 1).trans rfl; have hfz22_0 := blk_frozen BK276.out 0; have hfz22_1 := blk_frozen BK276.out 1))
            go_roundg k1
            case measure => have := HK1.out; omega
            case rel => exact ⟨(IntKind.u64.wrap (x1_1 * 2)), (t279), (wrap64 (x8_1 + 1)), (t277), (t278), (by first | rfl | (simp; done) | (simp [*]; done)), (by first | rfl | (simp; done) | (simp [*]; done)), (by first | rfl | (simp; done) | (simp [*]; done)), H', ⟨by have := HK1.out; omega⟩, ⟨by (with_reducible repeat (first | refine blk_drewN ?_ _ | refine blk_drew ?_ | refine blk_alloc ?_ _)); refine blk_far ?_ NB274_276.out _; (with_reducible repeat (first | refine blk_drewN ?_ _ | refine blk_drew ?_ | refine blk_alloc ?_ _)); refine blk_far ?_ NB274_276.out _; (with_reducible repeat (first | refine blk_drewN ?_ _ | refine blk_drew ?_ | refine blk_alloc ?_ _)); refine blk_far ?_ NB274_280.out _; (with_reducible repeat (first | refine blk_drewN ?_ _ | refine blk_drew ?_ | refine blk_alloc ?_ _)); refine blk_far ?_ NB274_280.out _; (with_reducible repeat (first | refine blk_drewN ?_ _ | refine blk_drew ?_ | refine blk_alloc ?_ _)); exact BK274.out⟩, ⟨by (with_reducible repeat (first | refine blk_drewN ?_ _ | refine blk_drew ?_ | refine blk_alloc ?_ _)); refine blk_far ?_ NB275_276.out _; (with_reducible repeat (first | refine blk_drewN ?_ _ | refine blk_drew ?_ | refine blk_alloc ?_ _)); refine blk_far ?_ NB275_276.out _; (with_reducible repeat (first | refine blk_drewN ?_ _ | refine blk_drew ?_ | refine blk_alloc ?_ _)); refine blk_far ?_ NB275_280.out _; (with_reducible repeat (first | refine blk_drewN ?_ _ | refine blk_drew ?_ | refine blk_alloc ?_ _)); refine blk_far ?_ NB275_280.out _; (with_reducible repeat (first | refine blk_drewN ?_ _ | refine blk_drew ?_ | refine blk_alloc ?_ _)); exact BK275.out⟩, ⟨by (with_reducible repeat (first | refine blk_drewN ?_ _ | refine blk_drew ?_ | refine blk_alloc ?_ _)); refine blk_put (cs := #[.int .u64 t277, .int .u64 x277001_1]) ?_ 1 _ rfl; (with_reducible repeat (first | refine blk_drewN ?_ _ | refine blk_drew ?_ | refine blk_alloc ?_ _)); refine blk_put (cs := #[.int .u64 x277000_1, .int .u64 x277001_1]) ?_ 0 _ rfl; (with_reducible repeat (first | refine blk_drewN ?_ _ | refine blk_drew ?_ | refine blk_alloc ?_ _)); refine blk_far ?_ NB276_280.out _; (with_reducible repeat (first | refine blk_drewN ?_ _ | refine blk_drew ?_ | refine blk_alloc ?_ _)); refine blk_far ?_ NB276_280.out _; (with_reducible repeat (first | refine blk_drewN ?_ _ | refine blk_drew ?_ | refine blk_alloc ?_ _)); exact BK276.out⟩, ⟨bE⟩⟩
          · rw [if_neg c12] at H
            have c12b0 : ((Go.bits .and .u64 x1_1 9223372036854775808) == 0) = false := beq_eq_false_iff_ne.mpr c12
            have c12b1 : ((Go.bits .and .u64 x1_1 9223372036854775808) != 0) = true := bne_iff_ne.mpr c12
            replace H := Option.bind_eq_some_iff.mp H
            obtain ⟨⟨t281, t282, t283⟩, A230, H⟩ := H
            replace H : (if t279 = true then (corebankref01_times.l0 k1 (IntKind.u64.wrap (x1_1 * 2)) t283 (wrap64 (x8_1 + 1)) a0_0 a0_1 t281 t282) else (corebankref01_times.l0 k1 (IntKind.u64.wrap (x1_1 * 2)) false (wrap64 (x8_1 + 1)) a0_0 a0_1 t281 t282)) = some (r1, r2, r3) := H
            have A23 := Aside0.mk A230
            clear A230
            by_cases c24 : t279 = true
            · subst c24
              have H1 : (corebankref01_times.l0 k1 (IntKind.u64.wrap (x1_1 * 2)) t283 (wrap64 (x8_1 + 1)) a0_0 a0_1 t281 t282) = some (r1, r2, r3) := by rw [if_pos rfl] at H; exact H
              clear H
              have H := H1
              clear H1
              have H' := Aside0.mk H
              clear H
              have hnb25 := NB276_274.out
              have hnc25 := NB274_276.out
              have hnb26 := NB276_275.out
              have hnc26 := NB275_276.out
              have hcz27_0 : wr.cell? ⟨gb276, 0, none⟩ = some (.int .u64 x277000_1) := (blk_cell BK276.out 0).trans rfl
              have hcz27_1 : wr.cell? ⟨gb276, 1, none⟩ = some (.int .u64 x277001_1) := (blk_cell BK276.out 1).trans rfl
              have hfz27_0 := blk_frozen BK276.out 0
              have hfz27_1 := blk_frozen BK276.out 1
              go_wp2_with (first | ((with_reducible refine gate_callee (f := 37) rfl ?_); refine goesL_ (some 19) rfl rfl Try.func37 (by kernel_rfl) rfl #[.agg #[.int .u64 x277000_1, .int .u64 x277001_1], .agg #[.int .u64 x277000_1, .int .u64 x277001_1]] rfl aG ?_; (with_reducible refine (corebankref01_plus.calls x277000_1 x277001_1 x277000_1 x277001_1 t277 t278 true _ A10.out).mono ?_); rintro e w28 ⟨rfl, hb⟩; refine ⟨_, rfl, ?_⟩; replace BK274 := Aside0.mk (bK BK274 hb); replace BK275 := Aside0.mk (bK BK275 hb); replace BK276 := Aside0.mk (bK BK276 hb); replace HB := Aside0.mk (bS hb); (try clear hb); (try clear hb2); (try clear hk); (try clear hi)) | ((with_reducible refine gate_dst (N := 9) rfl ?_); refine box_event ?hg (N := 9) ?hd (cs := #[.int .u64 0, .int .u64 0]) (t := 53) ?hr ?_; (case hd => rfl); (case hg => rfl); (case hr => first | (go_simp; done) | (go_simp; rfl)); intro gb280 hg w29 hbox hb; have nn_ := bT hb hg; have bgb274_ := bN BK274 hb hg; have bgb275_ := bN BK275 hb hg; have bgb276_ := bN BK276 hb hg; have BK280 := Aside0.mk (hbox); have GW280 := Aside0.mk nn_.2; have GE280 := GW280; have NB274_280 := Aside0.mk bgb274_.2.1; have NB280_274 := Aside0.mk bgb274_.2.2; have NB275_280 := Aside0.mk bgb275_.2.1; have NB280_275 := Aside0.mk bgb275_.2.2; have NB276_280 := Aside0.mk bgb276_.2.1; have NB280_276 := Aside0.mk bgb276_.2.2; replace BK274 := Aside0.mk bgb274_.1; replace BK275 := Aside0.mk bgb275_.1; replace BK276 := Aside0.mk bgb276_.1; replace HB := Aside0.mk nn_.1; clear nn_ bgb274_ bgb275_ bgb276_; clear hb hbox hg; have hnb30 := NB280_274.out; have hnc30 := NB274_280.out; have hnb31 := NB280_275.out; have hnc31 := NB275_280.out; have hnb32 := NB280_276.out; have hnc32 := NB276_280.out; have hcz33_0 : w29.cell? ⟨gb280, 0, none⟩ = some (.int .u64 0) := (blk_cell BK280.out 0).trans rfl; have hcz33_1 : w29.cell? ⟨gb280, 1, none⟩ = some (.int .u64 0) := (blk_cell BK280.out 1).trans rfl; have hfz33_0 := blk_frozen BK280.out 0; have hfz33_1 := blk_frozen BK280.out 1; have hcz34_0 : w29.cell? ⟨gb276, 0, none⟩ = some (.int .u64 x277000_1) := (blk_cell BK276.out 0).trans rfl; have hcz34_1 : w29.cell? ⟨gb276, 1, none⟩ = some (.int .u64 x277001_1) := (blk_cell BK276.out 1).trans rfl; have hfz34_0 := blk_frozen BK276.out 0; have hfz34_1 := blk_frozen BK276.out 1; have hnb35 := NB274_275.out; have hnc35 := NB275_274.out; have hcz36_0 : w29.cell? ⟨gb274, 0, none⟩ = some (.int .u64 a0_0) := (blk_cell BK274.out 0).trans rfl; have hcz36_1 : w29.cell? ⟨gb274, 1, none⟩ = some (.int .u64 a0_1) := (blk_cell BK274.out 1).trans rfl; have hfz36_0 := blk_frozen BK274.out 0; have hfz36_1 := blk_frozen BK274.out 1) | ((with_reducible refine gate_callee (f := 37) rfl ?_); refine goesL_ (some 33) rfl rfl Try.func37 (by kernel_rfl) rfl #[.agg #[.int .u64 t277, .int .u64 t278], .agg #[.int .u64 a0_0, .int .u64 a0_1]] rfl aG ?_; (with_reducible refine (corebankref01_plus.calls t277 t278 a0_0 a0_1 t281 t282 t283 _ A23.out).mono ?_); rintro e w37 ⟨rfl, hb⟩; refine ⟨_, rfl, ?_⟩; replace BK274 := Aside0.mk (blk_below (g := gb274) (o := .cells #[.int .u64 a0_0, .int .u64 a0_1] 53 (0, 0)) (by (with_reducible repeat (first | refine blk_drewN ?_ _ | refine blk_drew ?_ | refine blk_alloc ?_ _)); refine blk_far ?_ NB274_276.out _; (with_reducible repeat (first | refine blk_drewN ?_ _ | refine blk_drew ?_ | refine blk_alloc ?_ _)); refine blk_far ?_ NB274_276.out _; (with_reducible repeat (first | refine blk_drewN ?_ _ | refine blk_drew ?_ | refine blk_alloc ?_ _)); refine blk_far ?_ NB274_280.out _; (with_reducible repeat (first | refine blk_drewN ?_ _ | refine blk_drew ?_ | refine blk_alloc ?_ _)); refine blk_far ?_ NB274_280.out _; (with_reducible repeat (first | refine blk_drewN ?_ _ | refine blk_drew ?_ | refine blk_alloc ?_ _)); exact BK274.out) hb); replace BK275 := Aside0.mk (blk_below (g := gb275) (o := .cells #[.int .u64 0, .int .u64 0] 53 (0, 0)) (by (with_reducible repeat (first | refine blk_drewN ?_ _ | refine blk_drew ?_ | refine blk_alloc ?_ _)); refine blk_far ?_ NB275_276.out _; (with_reducible repeat (first | refine blk_drewN ?_ _ | refine blk_drew ?_ | refine blk_alloc ?_ _)); refine blk_far ?_ NB275_276.out _; (with_reducible repeat (first | refine blk_drewN ?_ _ | refine blk_drew ?_ | refine blk_alloc ?_ _)); refine blk_far ?_ NB275_280.out _; (with_reducible repeat (first | refine blk_drewN ?_ _ | refine blk_drew ?_ | refine blk_alloc ?_ _)); refine blk_far ?_ NB275_280.out _; (with_reducible repeat (first | refine blk_drewN ?_ _ | refine blk_drew ?_ | refine blk_alloc ?_ _)); exact BK275.out) hb); replace BK276 := Aside0.mk (blk_below (g := gb276) (o := .cells #[.int .u64 t277, .int .u64 t278] 53 (0, 0)) (by (with_reducible repeat (first | refine blk_drewN ?_ _ | refine blk_drew ?_ | refine blk_alloc ?_ _)); refine blk_put (cs := #[.int .u64 t277, .int .u64 x277001_1]) ?_ 1 _ rfl; (with_reducible repeat (first | refine blk_drewN ?_ _ | refine blk_drew ?_ | refine blk_alloc ?_ _)); refine blk_put (cs := #[.int .u64 x277000_1, .int .u64 x277001_1]) ?_ 0 _ rfl; (with_reducible repeat (first | refine blk_drewN ?_ _ | refine blk_drew ?_ | refine blk_alloc ?_ _)); refine blk_far ?_ NB276_280.out _; (with_reducible repeat (first | refine blk_drewN ?_ _ | refine blk_drew ?_ | refine blk_alloc ?_ _)); refine blk_far ?_ NB276_280.out _; (with_reducible repeat (first | refine blk_drewN ?_ _ | refine blk_drew ?_ | refine blk_alloc ?_ _)); exact BK276.out) hb); replace BK280 := Aside0.mk (blk_below (g := gb280) (o := .cells #[.int .u64 t277, .int .u64 t278] 53 (0, 0)) (by (with_reducible repeat (first | refine blk_drewN ?_ _ | refine blk_drew ?_ | refine blk_alloc ?_ _)); refine blk_far ?_ NB280_276.out _; (with_reducible repeat (first | refine blk_drewN ?_ _ | refine blk_drew ?_ | refine blk_alloc ?_ _)); refine blk_far ?_ NB280_276.out _; (with_reducible repeat (first | refine blk_drewN ?_ _ | refine blk_drew ?_ | refine blk_alloc ?_ _)); refine blk_put (cs := #[.int .u64 t277, .int .u64 0]) ?_ 1 _ rfl; (with_reducible repeat (first | refine blk_drewN ?_ _ | refine blk_drew ?_ | refine blk_alloc ?_ _)); refine blk_put (cs := #[.int .u64 0, .int .u64 0]) ?_ 0 _ rfl; (with_reducible repeat (first | refine blk_drewN ?_ _ | refine blk_drew ?_ | refine blk_alloc ?_ _)); exact BK280.out) hb); replace HB := Aside0.mk (bS hb); (try clear hb); (try clear hb2); (try clear hk); (try clear hi); have hcz38_0 : w37.cell? ⟨gb280, 0, none⟩ = some (.int .u64 t277) := (blk_cell BK280.out 0).trans rfl; have hcz38_1 : w37.cell? ⟨gb280, 1, none⟩ = some (.int .u64 t278) := (blk_cell BK280.out 1).trans rfl; have hfz38_0 := blk_frozen BK280.out 0; have hfz38_1 := blk_frozen BK280.out 1; have hcz39_0 : w37.cell? ⟨gb276, 0, none⟩ = some (.int .u64 t277) := (blk_cell BK276.out 0).trans rfl; have hcz39_1 : w37.cell? ⟨gb276, 1, none⟩ = some (.int .u64 t278) := (blk_cell BK276.out 1).trans rfl; have hfz39_0 := blk_frozen BK276.out 0; have hfz39_1 := blk_frozen BK276.out 1))
              go_roundg k1
              case measure => have := HK1.out; omega
              case rel => exact ⟨(IntKind.u64.wrap (x1_1 * 2)), (t283), (wrap64 (x8_1 + 1)), (t281), (t282), (by first | rfl | (simp; done) | (simp [*]; done)), (by first | rfl | (simp; done) | (simp [*]; done)), (by first | rfl | (simp; done) | (simp [*]; done)), H', ⟨by have := HK1.out; omega⟩, ⟨by (with_reducible repeat (first | refine blk_drewN ?_ _ | refine blk_drew ?_ | refine blk_alloc ?_ _)); refine blk_far ?_ NB274_276.out _; (with_reducible repeat (first | refine blk_drewN ?_ _ | refine blk_drew ?_ | refine blk_alloc ?_ _)); refine blk_far ?_ NB274_276.out _; (with_reducible repeat (first | refine blk_drewN ?_ _ | refine blk_drew ?_ | refine blk_alloc ?_ _)); refine blk_far ?_ NB274_280.out _; (with_reducible repeat (first | refine blk_drewN ?_ _ | refine blk_drew ?_ | refine blk_alloc ?_ _)); refine blk_far ?_ NB274_280.out _; (with_reducible repeat (first | refine blk_drewN ?_ _ | refine blk_drew ?_ | refine blk_alloc ?_ _)); exact BK274.out⟩, ⟨by (with_reducible repeat (first | refine blk_drewN ?_ _ | refine blk_drew ?_ | refine blk_alloc ?_ _)); refine blk_far ?_ NB275_276.out _; (with_reducible repeat (first | refine blk_drewN ?_ _ | refine blk_drew ?_ | refine blk_alloc ?_ _)); refine blk_far ?_ NB275_276.out _; (with_reducible repeat (first | refine blk_drewN ?_ _ | refine blk_drew ?_ | refine blk_alloc ?_ _)); refine blk_far ?_ NB275_280.out _; (with_reducible repeat (first | refine blk_drewN ?_ _ | refine blk_drew ?_ | refine blk_alloc ?_ _)); refine blk_far ?_ NB275_280.out _; (with_reducible repeat (first | refine blk_drewN ?_ _ | refine blk_drew ?_ | refine blk_alloc ?_ _)); exact BK275.out⟩, ⟨by (with_reducible repeat (first | refine blk_drewN ?_ _ | refine blk_drew ?_ | refine blk_alloc ?_ _)); refine blk_put (cs := #[.int .u64 t281, .int .u64 t278]) ?_ 1 _ rfl; (with_reducible repeat (first | refine blk_drewN ?_ _ | refine blk_drew ?_ | refine blk_alloc ?_ _)); refine blk_put (cs := #[.int .u64 t277, .int .u64 t278]) ?_ 0 _ rfl; (with_reducible repeat (first | refine blk_drewN ?_ _ | refine blk_drew ?_ | refine blk_alloc ?_ _)); refine blk_far ?_ NB276_280.out _; (with_reducible repeat (first | refine blk_drewN ?_ _ | refine blk_drew ?_ | refine blk_alloc ?_ _)); refine blk_far ?_ NB276_280.out _; (with_reducible repeat (first | refine blk_drewN ?_ _ | refine blk_drew ?_ | refine blk_alloc ?_ _)); exact BK276.out⟩, ⟨bE⟩⟩
            · replace c24 := Bool.eq_false_iff.mpr c24
              subst c24
              have H1 : (corebankref01_times.l0 k1 (IntKind.u64.wrap (x1_1 * 2)) false (wrap64 (x8_1 + 1)) a0_0 a0_1 t281 t282) = some (r1, r2, r3) := by rw [if_neg (show ¬ (false = true) by decide)] at H; exact H
              clear H
              have H := H1
              clear H1
              have H' := Aside0.mk H
              clear H
              have hnb40 := NB276_274.out
              have hnc40 := NB274_276.out
              have hnb41 := NB276_275.out
              have hnc41 := NB275_276.out
              have hcz42_0 : wr.cell? ⟨gb276, 0, none⟩ = some (.int .u64 x277000_1) := (blk_cell BK276.out 0).trans rfl
              have hcz42_1 : wr.cell? ⟨gb276, 1, none⟩ = some (.int .u64 x277001_1) := (blk_cell BK276.out 1).trans rfl
              have hfz42_0 := blk_frozen BK276.out 0
              have hfz42_1 := blk_frozen BK276.out 1
              go_wp2_with (first | ((with_reducible refine gate_callee (f := 37) rfl ?_); refine goesL_ (some 19) rfl rfl Try.func37 (by kernel_rfl) rfl #[.agg #[.int .u64 x277000_1, .int .u64 x277001_1], .agg #[.int .u64 x277000_1, .int .u64 x277001_1]] rfl aG ?_; (with_reducible refine (corebankref01_plus.calls x277000_1 x277001_1 x277000_1 x277001_1 t277 t278 false _ A10.out).mono ?_); rintro e w43 ⟨rfl, hb⟩; refine ⟨_, rfl, ?_⟩; replace BK274 := Aside0.mk (bK BK274 hb); replace BK275 := Aside0.mk (bK BK275 hb); replace BK276 := Aside0.mk (bK BK276 hb); replace HB := Aside0.mk (bS hb); (try clear hb); (try clear hb2); (try clear hk); (try clear hi)) | ((with_reducible refine gate_dst (N := 9) rfl ?_); refine box_event ?hg (N := 9) ?hd (cs := #[.int .u64 0, .int .u64 0]) (t := 53) ?hr ?_; (case hd => rfl); (case hg => rfl); (case hr => first | (go_simp; done) | (go_simp; rfl)); intro gb280 hg w44 hbox hb; have nn_ := bT hb hg; have bgb274_ := bN BK274 hb hg; have bgb275_ := bN BK275 hb hg; have bgb276_ := bN BK276 hb hg; have BK280 := Aside0.mk (hbox); have GW280 := Aside0.mk nn_.2; have GE280 := GW280; have NB274_280 := Aside0.mk bgb274_.2.1; have NB280_274 := Aside0.mk bgb274_.2.2; have NB275_280 := Aside0.mk bgb275_.2.1; have NB280_275 := Aside0.mk bgb275_.2.2; have NB276_280 := Aside0.mk bgb276_.2.1; have NB280_276 := Aside0.mk bgb276_.2.2; replace BK274 := Aside0.mk bgb274_.1; replace BK275 := Aside0.mk bgb275_.1; replace BK276 := Aside0.mk bgb276_.1; replace HB := Aside0.mk nn_.1; clear nn_ bgb274_ bgb275_ bgb276_; clear hb hbox hg; have hnb45 := NB280_274.out; have hnc45 := NB274_280.out; have hnb46 := NB280_275.out; have hnc46 := NB275_280.out; have hnb47 := NB280_276.out; have hnc47 := NB276_280.out; have hcz48_0 : w44.cell? ⟨gb280, 0, none⟩ = some (.int .u64 0) := (blk_cell BK280.out 0).trans rfl; have hcz48_1 : w44.cell? ⟨gb280, 1, none⟩ = some (.int .u64 0) := (blk_cell BK280.out 1).trans rfl; have hfz48_0 := blk_frozen BK280.out 0; have hfz48_1 := blk_frozen BK280.out 1; have hcz49_0 : w44.cell? ⟨gb276, 0, none⟩ = some (.int .u64 x277000_1) := (blk_cell BK276.out 0).trans rfl; have hcz49_1 : w44.cell? ⟨gb276, 1, none⟩ = some (.int .u64 x277001_1) := (blk_cell BK276.out 1).trans rfl; have hfz49_0 := blk_frozen BK276.out 0; have hfz49_1 := blk_frozen BK276.out 1; have hnb50 := NB274_275.out; have hnc50 := NB275_274.out; have hcz51_0 : w44.cell? ⟨gb274, 0, none⟩ = some (.int .u64 a0_0) := (blk_cell BK274.out 0).trans rfl; have hcz51_1 : w44.cell? ⟨gb274, 1, none⟩ = some (.int .u64 a0_1) := (blk_cell BK274.out 1).trans rfl; have hfz51_0 := blk_frozen BK274.out 0; have hfz51_1 := blk_frozen BK274.out 1) | ((with_reducible refine gate_callee (f := 37) rfl ?_); refine goesL_ (some 33) rfl rfl Try.func37 (by kernel_rfl) rfl #[.agg #[.int .u64 t277, .int .u64 t278], .agg #[.int .u64 a0_0, .int .u64 a0_1]] rfl aG ?_; (with_reducible refine (corebankref01_plus.calls t277 t278 a0_0 a0_1 t281 t282 t283 _ A23.out).mono ?_); rintro e w52 ⟨rfl, hb⟩; refine ⟨_, rfl, ?_⟩; replace BK274 := Aside0.mk (blk_below (g := gb274) (o := .cells #[.int .u64 a0_0, .int .u64 a0_1] 53 (0, 0)) (by (with_reducible repeat (first | refine blk_drewN ?_ _ | refine blk_drew ?_ | refine blk_alloc ?_ _)); refine blk_far ?_ NB274_276.out _; (with_reducible repeat (first | refine blk_drewN ?_ _ | refine blk_drew ?_ | refine blk_alloc ?_ _)); refine blk_far ?_ NB274_276.out _; (with_reducible repeat (first | refine blk_drewN ?_ _ | refine blk_drew ?_ | refine blk_alloc ?_ _)); refine blk_far ?_ NB274_280.out _; (with_reducible repeat (first | refine blk_drewN ?_ _ | refine blk_drew ?_ | refine blk_alloc ?_ _)); refine blk_far ?_ NB274_280.out _; (with_reducible repeat (first | refine blk_drewN ?_ _ | refine blk_drew ?_ | refine blk_alloc ?_ _)); exact BK274.out) hb); replace BK275 := Aside0.mk (blk_below (g := gb275) (o := .cells #[.int .u64 0, .int .u64 0] 53 (0, 0)) (by (with_reducible repeat (first | refine blk_drewN ?_ _ | refine blk_drew ?_ | refine blk_alloc ?_ _)); refine blk_far ?_ NB275_276.out _; (with_reducible repeat (first | refine blk_drewN ?_ _ | refine blk_drew ?_ | refine blk_alloc ?_ _)); refine blk_far ?_ NB275_276.out _; (with_reducible repeat (first | refine blk_drewN ?_ _ | refine blk_drew ?_ | refine blk_alloc ?_ _)); refine blk_far ?_ NB275_280.out _; (with_reducible repeat (first | refine blk_drewN ?_ _ | refine blk_drew ?_ | refine blk_alloc ?_ _)); refine blk_far ?_ NB275_280.out _; (with_reducible repeat (first | refine blk_drewN ?_ _ | refine blk_drew ?_ | refine blk_alloc ?_ _)); exact BK275.out) hb); replace BK276 := Aside0.mk (blk_below (g := gb276) (o := .cells #[.int .u64 t277, .int .u64 t278] 53 (0, 0)) (by (with_reducible repeat (first | refine blk_drewN ?_ _ | refine blk_drew ?_ | refine blk_alloc ?_ _)); refine blk_put (cs := #[.int .u64 t277, .int .u64 x277001_1]) ?_ 1 _ rfl; (with_reducible repeat (first | refine blk_drewN ?_ _ | refine blk_drew ?_ | refine blk_alloc ?_ _)); refine blk_put (cs := #[.int .u64 x277000_1, .int .u64 x277001_1]) ?_ 0 _ rfl; (with_reducible repeat (first | refine blk_drewN ?_ _ | refine blk_drew ?_ | refine blk_alloc ?_ _)); refine blk_far ?_ NB276_280.out _; (with_reducible repeat (first | refine blk_drewN ?_ _ | refine blk_drew ?_ | refine blk_alloc ?_ _)); refine blk_far ?_ NB276_280.out _; (with_reducible repeat (first | refine blk_drewN ?_ _ | refine blk_drew ?_ | refine blk_alloc ?_ _)); exact BK276.out) hb); replace BK280 := Aside0.mk (blk_below (g := gb280) (o := .cells #[.int .u64 t277, .int .u64 t278] 53 (0, 0)) (by (with_reducible repeat (first | refine blk_drewN ?_ _ | refine blk_drew ?_ | refine blk_alloc ?_ _)); refine blk_far ?_ NB280_276.out _; (with_reducible repeat (first | refine blk_drewN ?_ _ | refine blk_drew ?_ | refine blk_alloc ?_ _)); refine blk_far ?_ NB280_276.out _; (with_reducible repeat (first | refine blk_drewN ?_ _ | refine blk_drew ?_ | refine blk_alloc ?_ _)); refine blk_put (cs := #[.int .u64 t277, .int .u64 0]) ?_ 1 _ rfl; (with_reducible repeat (first | refine blk_drewN ?_ _ | refine blk_drew ?_ | refine blk_alloc ?_ _)); refine blk_put (cs := #[.int .u64 0, .int .u64 0]) ?_ 0 _ rfl; (with_reducible repeat (first | refine blk_drewN ?_ _ | refine blk_drew ?_ | refine blk_alloc ?_ _)); exact BK280.out) hb); replace HB := Aside0.mk (bS hb); (try clear hb); (try clear hb2); (try clear hk); (try clear hi); have hcz53_0 : w52.cell? ⟨gb280, 0, none⟩ = some (.int .u64 t277) := (blk_cell BK280.out 0).trans rfl; have hcz53_1 : w52.cell? ⟨gb280, 1, none⟩ = some (.int .u64 t278) := (blk_cell BK280.out 1).trans rfl; have hfz53_0 := blk_frozen BK280.out 0; have hfz53_1 := blk_frozen BK280.out 1; have hcz54_0 : w52.cell? ⟨gb276, 0, none⟩ = some (.int .u64 t277) := (blk_cell BK276.out 0).trans rfl; have hcz54_1 : w52.cell? ⟨gb276, 1, none⟩ = some (.int .u64 t278) := (blk_cell BK276.out 1).trans rfl; have hfz54_0 := blk_frozen BK276.out 0; have hfz54_1 := blk_frozen BK276.out 1))
              go_roundg k1
              case measure => have := HK1.out; omega
              case rel => exact ⟨(IntKind.u64.wrap (x1_1 * 2)), (false), (wrap64 (x8_1 + 1)), (t281), (t282), (by first | rfl | (simp; done) | (simp [*]; done)), (by first | rfl | (simp; done) | (simp [*]; done)), (by first | rfl | (simp; done) | (simp [*]; done)), H', ⟨by have := HK1.out; omega⟩, ⟨by (with_reducible repeat (first | refine blk_drewN ?_ _ | refine blk_drew ?_ | refine blk_alloc ?_ _)); refine blk_far ?_ NB274_276.out _; (with_reducible repeat (first | refine blk_drewN ?_ _ | refine blk_drew ?_ | refine blk_alloc ?_ _)); refine blk_far ?_ NB274_276.out _; (with_reducible repeat (first | refine blk_drewN ?_ _ | refine blk_drew ?_ | refine blk_alloc ?_ _)); refine blk_far ?_ NB274_280.out _; (with_reducible repeat (first | refine blk_drewN ?_ _ | refine blk_drew ?_ | refine blk_alloc ?_ _)); refine blk_far ?_ NB274_280.out _; (with_reducible repeat (first | refine blk_drewN ?_ _ | refine blk_drew ?_ | refine blk_alloc ?_ _)); exact BK274.out⟩, ⟨by (with_reducible repeat (first | refine blk_drewN ?_ _ | refine blk_drew ?_ | refine blk_alloc ?_ _)); refine blk_far ?_ NB275_276.out _; (with_reducible repeat (first | refine blk_drewN ?_ _ | refine blk_drew ?_ | refine blk_alloc ?_ _)); refine blk_far ?_ NB275_276.out _; (with_reducible repeat (first | refine blk_drewN ?_ _ | refine blk_drew ?_ | refine blk_alloc ?_ _)); refine blk_far ?_ NB275_280.out _; (with_reducible repeat (first | refine blk_drewN ?_ _ | refine blk_drew ?_ | refine blk_alloc ?_ _)); refine blk_far ?_ NB275_280.out _; (with_reducible repeat (first | refine blk_drewN ?_ _ | refine blk_drew ?_ | refine blk_alloc ?_ _)); exact BK275.out⟩, ⟨by (with_reducible repeat (first | refine blk_drewN ?_ _ | refine blk_drew ?_ | refine blk_alloc ?_ _)); refine blk_put (cs := #[.int .u64 t281, .int .u64 t278]) ?_ 1 _ rfl; (with_reducible repeat (first | refine blk_drewN ?_ _ | refine blk_drew ?_ | refine blk_alloc ?_ _)); refine blk_put (cs := #[.int .u64 t277, .int .u64 t278]) ?_ 0 _ rfl; (with_reducible repeat (first | refine blk_drewN ?_ _ | refine blk_drew ?_ | refine blk_alloc ?_ _)); refine blk_far ?_ NB276_280.out _; (with_reducible repeat (first | refine blk_drewN ?_ _ | refine blk_drew ?_ | refine blk_alloc ?_ _)); refine blk_far ?_ NB276_280.out _; (with_reducible repeat (first | refine blk_drewN ?_ _ | refine blk_drew ?_ | refine blk_alloc ?_ _)); exact BK276.out⟩, ⟨bE⟩⟩
        · replace c11 := Bool.eq_false_iff.mpr c11
          subst c11
          have H1 : (if (Go.bits .and .u64 x1_1 9223372036854775808) = 0 then (corebankref01_times.l0 k1 (IntKind.u64.wrap (x1_1 * 2)) false (wrap64 (x8_1 + 1)) a0_0 a0_1 t277 t278) else ((corebankref01_plus.f t277 t278 a0_0 a0_1).bind fun bt284 => (corebankref01_times.l0 k1 (IntKind.u64.wrap (x1_1 * 2)) false (wrap64 (x8_1 + 1)) a0_0 a0_1 bt284.1 bt284.2.1))) = some (r1, r2, r3) := by rw [if_neg (show ¬ (false = true) by decide)] at H; exact H
          clear H
          have H := H1
          clear H1
          by_cases c55 : (Go.bits .and .u64 x1_1 9223372036854775808) = 0
          · rw [if_pos c55] at H
            have c55b0 : ((Go.bits .and .u64 x1_1 9223372036854775808) == 0) = true := beq_iff_eq.mpr c55
            have c55b1 : ((Go.bits .and .u64 x1_1 9223372036854775808) != 0) = false := bne_eq_false_iff_eq.mpr c55
            clear c55
            have H' := Aside0.mk H
            clear H
            have hnb56 := NB276_274.out
            have hnc56 := NB274_276.out
            have hnb57 := NB276_275.out
            have hnc57 := NB275_276.out
            have hcz58_0 : wr.cell? ⟨gb276, 0, none⟩ = some (.int .u64 x277000_1) := (blk_cell BK276.out 0).trans rfl
            have hcz58_1 : wr.cell? ⟨gb276, 1, none⟩ = some (.int .u64 x277001_1) := (blk_cell BK276.out 1).trans rfl
            have hfz58_0 := blk_frozen BK276.out 0
            have hfz58_1 := blk_frozen BK276.out 1
            go_wp2_with (first | ((with_reducible refine gate_callee (f := 37) rfl ?_); refine goesL_ (some 19) rfl rfl Try.func37 (by kernel_rfl) rfl #[.agg #[.int .u64 x277000_1, .int .u64 x277001_1], .agg #[.int .u64 x277000_1, .int .u64 x277001_1]] rfl aG ?_; (with_reducible refine (corebankref01_plus.calls x277000_1 x277001_1 x277000_1 x277001_1 t277 t278 t279 _ A10.out).mono ?_); rintro e w59 ⟨rfl, hb⟩; refine ⟨_, rfl, ?_⟩; replace BK274 := Aside0.mk (bK BK274 hb); replace BK275 := Aside0.mk (bK BK275 hb); replace BK276 := Aside0.mk (bK BK276 hb); replace HB := Aside0.mk (bS hb); (try clear hb); (try clear hb2); (try clear hk); (try clear hi)) | ((with_reducible refine gate_dst (N := 9) rfl ?_); refine box_event ?hg (N := 9) ?hd (cs := #[.int .u64 0, .int .u64 0]) (t := 53) ?hr ?_; (case hd => rfl); (case hg => rfl); (case hr => first | (go_simp; done) | (go_simp; rfl)); intro gb280 hg w60 hbox hb; have nn_ := bT hb hg; have bgb274_ := bN BK274 hb hg; have bgb275_ := bN BK275 hb hg; have bgb276_ := bN BK276 hb hg; have BK280 := Aside0.mk (hbox); have GW280 := Aside0.mk nn_.2; have GE280 := GW280; have NB274_280 := Aside0.mk bgb274_.2.1; have NB280_274 := Aside0.mk bgb274_.2.2; have NB275_280 := Aside0.mk bgb275_.2.1; have NB280_275 := Aside0.mk bgb275_.2.2; have NB276_280 := Aside0.mk bgb276_.2.1; have NB280_276 := Aside0.mk bgb276_.2.2; replace BK274 := Aside0.mk bgb274_.1; replace BK275 := Aside0.mk bgb275_.1; replace BK276 := Aside0.mk bgb276_.1; replace HB := Aside0.mk nn_.1; clear nn_ bgb274_ bgb275_ bgb276_; clear hb hbox hg; have hnb61 := NB280_274.out; have hnc61 := NB274_280.out; have hnb62 := NB280_275.out; have hnc62 := NB275_280.out; have hnb63 := NB280_276.out; have hnc63 := NB276_280.out; have hcz64_0 : w60.cell? ⟨gb280, 0, none⟩ = some (.int .u64 0) := (blk_cell BK280.out 0).trans rfl; have hcz64_1 : w60.cell? ⟨gb280, 1, none⟩ = some (.int .u64 0) := (blk_cell BK280.out 1).trans rfl; have hfz64_0 := blk_frozen BK280.out 0; have hfz64_1 := blk_frozen BK280.out 1; have hcz65_0 : w60.cell? ⟨gb276, 0, none⟩ = some (.int .u64 x277000_1) := (blk_cell BK276.out 0).trans rfl; have hcz65_1 : w60.cell? ⟨gb276, 1, none⟩ = some (.int .u64 x277001_1) := (blk_cell BK276.out 1).trans rfl; have hfz65_0 := blk_frozen BK276.out 0; have hfz65_1 := blk_frozen BK276.out 1))
            go_roundg k1
            case measure => have := HK1.out; omega
            case rel => exact ⟨(IntKind.u64.wrap (x1_1 * 2)), (false), (wrap64 (x8_1 + 1)), (t277), (t278), (by first | rfl | (simp; done) | (simp [*]; done)), (by first | rfl | (simp; done) | (simp [*]; done)), (by first | rfl | (simp; done) | (simp [*]; done)), H', ⟨by have := HK1.out; omega⟩, ⟨by (with_reducible repeat (first | refine blk_drewN ?_ _ | refine blk_drew ?_ | refine blk_alloc ?_ _)); refine blk_far ?_ NB274_276.out _; (with_reducible repeat (first | refine blk_drewN ?_ _ | refine blk_drew ?_ | refine blk_alloc ?_ _)); refine blk_far ?_ NB274_276.out _; (with_reducible repeat (first | refine blk_drewN ?_ _ | refine blk_drew ?_ | refine blk_alloc ?_ _)); refine blk_far ?_ NB274_280.out _; (with_reducible repeat (first | refine blk_drewN ?_ _ | refine blk_drew ?_ | refine blk_alloc ?_ _)); refine blk_far ?_ NB274_280.out _; (with_reducible repeat (first | refine blk_drewN ?_ _ | refine blk_drew ?_ | refine blk_alloc ?_ _)); exact BK274.out⟩, ⟨by (with_reducible repeat (first | refine blk_drewN ?_ _ | refine blk_drew ?_ | refine blk_alloc ?_ _)); refine blk_far ?_ NB275_276.out _; (with_reducible repeat (first | refine blk_drewN ?_ _ | refine blk_drew ?_ | refine blk_alloc ?_ _)); refine blk_far ?_ NB275_276.out _; (with_reducible repeat (first | refine blk_drewN ?_ _ | refine blk_drew ?_ | refine blk_alloc ?_ _)); refine blk_far ?_ NB275_280.out _; (with_reducible repeat (first | refine blk_drewN ?_ _ | refine blk_drew ?_ | refine blk_alloc ?_ _)); refine blk_far ?_ NB275_280.out _; (with_reducible repeat (first | refine blk_drewN ?_ _ | refine blk_drew ?_ | refine blk_alloc ?_ _)); exact BK275.out⟩, ⟨by (with_reducible repeat (first | refine blk_drewN ?_ _ | refine blk_drew ?_ | refine blk_alloc ?_ _)); refine blk_put (cs := #[.int .u64 t277, .int .u64 x277001_1]) ?_ 1 _ rfl; (with_reducible repeat (first | refine blk_drewN ?_ _ | refine blk_drew ?_ | refine blk_alloc ?_ _)); refine blk_put (cs := #[.int .u64 x277000_1, .int .u64 x277001_1]) ?_ 0 _ rfl; (with_reducible repeat (first | refine blk_drewN ?_ _ | refine blk_drew ?_ | refine blk_alloc ?_ _)); refine blk_far ?_ NB276_280.out _; (with_reducible repeat (first | refine blk_drewN ?_ _ | refine blk_drew ?_ | refine blk_alloc ?_ _)); refine blk_far ?_ NB276_280.out _; (with_reducible repeat (first | refine blk_drewN ?_ _ | refine blk_drew ?_ | refine blk_alloc ?_ _)); exact BK276.out⟩, ⟨bE⟩⟩
          · rw [if_neg c55] at H
            have c55b0 : ((Go.bits .and .u64 x1_1 9223372036854775808) == 0) = false := beq_eq_false_iff_ne.mpr c55
            have c55b1 : ((Go.bits .and .u64 x1_1 9223372036854775808) != 0) = true := bne_iff_ne.mpr c55
            replace H := Option.bind_eq_some_iff.mp H
            obtain ⟨⟨t284, t285, t286⟩, A660, H⟩ := H
            replace H : (corebankref01_times.l0 k1 (IntKind.u64.wrap (x1_1 * 2)) false (wrap64 (x8_1 + 1)) a0_0 a0_1 t284 t285) = some (r1, r2, r3) := H
            have A66 := Aside0.mk A660
            clear A660
            have H' := Aside0.mk H
            clear H
            have hnb67 := NB276_274.out
            have hnc67 := NB274_276.out
            have hnb68 := NB276_275.out
            have hnc68 := NB275_276.out
            have hcz69_0 : wr.cell? ⟨gb276, 0, none⟩ = some (.int .u64 x277000_1) := (blk_cell BK276.out 0).trans rfl
            have hcz69_1 : wr.cell? ⟨gb276, 1, none⟩ = some (.int .u64 x277001_1) := (blk_cell BK276.out 1).trans rfl
            have hfz69_0 := blk_frozen BK276.out 0
            have hfz69_1 := blk_frozen BK276.out 1
            go_wp2_with (first | ((with_reducible refine gate_callee (f := 37) rfl ?_); refine goesL_ (some 19) rfl rfl Try.func37 (by kernel_rfl) rfl #[.agg #[.int .u64 x277000_1, .int .u64 x277001_1], .agg #[.int .u64 x277000_1, .int .u64 x277001_1]] rfl aG ?_; (with_reducible refine (corebankref01_plus.calls x277000_1 x277001_1 x277000_1 x277001_1 t277 t278 t279 _ A10.out).mono ?_); rintro e w70 ⟨rfl, hb⟩; refine ⟨_, rfl, ?_⟩; replace BK274 := Aside0.mk (bK BK274 hb); replace BK275 := Aside0.mk (bK BK275 hb); replace BK276 := Aside0.mk (bK BK276 hb); replace HB := Aside0.mk (bS hb); (try clear hb); (try clear hb2); (try clear hk); (try clear hi)) | ((with_reducible refine gate_dst (N := 9) rfl ?_); refine box_event ?hg (N := 9) ?hd (cs := #[.int .u64 0, .int .u64 0]) (t := 53) ?hr ?_; (case hd => rfl); (case hg => rfl); (case hr => first | (go_simp; done) | (go_simp; rfl)); intro gb280 hg w71 hbox hb; have nn_ := bT hb hg; have bgb274_ := bN BK274 hb hg; have bgb275_ := bN BK275 hb hg; have bgb276_ := bN BK276 hb hg; have BK280 := Aside0.mk (hbox); have GW280 := Aside0.mk nn_.2; have GE280 := GW280; have NB274_280 := Aside0.mk bgb274_.2.1; have NB280_274 := Aside0.mk bgb274_.2.2; have NB275_280 := Aside0.mk bgb275_.2.1; have NB280_275 := Aside0.mk bgb275_.2.2; have NB276_280 := Aside0.mk bgb276_.2.1; have NB280_276 := Aside0.mk bgb276_.2.2; replace BK274 := Aside0.mk bgb274_.1; replace BK275 := Aside0.mk bgb275_.1; replace BK276 := Aside0.mk bgb276_.1; replace HB := Aside0.mk nn_.1; clear nn_ bgb274_ bgb275_ bgb276_; clear hb hbox hg; have hnb72 := NB280_274.out; have hnc72 := NB274_280.out; have hnb73 := NB280_275.out; have hnc73 := NB275_280.out; have hnb74 := NB280_276.out; have hnc74 := NB276_280.out; have hcz75_0 : w71.cell? ⟨gb280, 0, none⟩ = some (.int .u64 0) := (blk_cell BK280.out 0).trans rfl; have hcz75_1 : w71.cell? ⟨gb280, 1, none⟩ = some (.int .u64 0) := (blk_cell BK280.out 1).trans rfl; have hfz75_0 := blk_frozen BK280.out 0; have hfz75_1 := blk_frozen BK280.out 1; have hcz76_0 : w71.cell? ⟨gb276, 0, none⟩ = some (.int .u64 x277000_1) := (blk_cell BK276.out 0).trans rfl; have hcz76_1 : w71.cell? ⟨gb276, 1, none⟩ = some (.int .u64 x277001_1) := (blk_cell BK276.out 1).trans rfl; have hfz76_0 := blk_frozen BK276.out 0; have hfz76_1 := blk_frozen BK276.out 1; have hnb77 := NB274_275.out; have hnc77 := NB275_274.out; have hcz78_0 : w71.cell? ⟨gb274, 0, none⟩ = some (.int .u64 a0_0) := (blk_cell BK274.out 0).trans rfl; have hcz78_1 : w71.cell? ⟨gb274, 1, none⟩ = some (.int .u64 a0_1) := (blk_cell BK274.out 1).trans rfl; have hfz78_0 := blk_frozen BK274.out 0; have hfz78_1 := blk_frozen BK274.out 1) | ((with_reducible refine gate_callee (f := 37) rfl ?_); refine goesL_ (some 33) rfl rfl Try.func37 (by kernel_rfl) rfl #[.agg #[.int .u64 t277, .int .u64 t278], .agg #[.int .u64 a0_0, .int .u64 a0_1]] rfl aG ?_; (with_reducible refine (corebankref01_plus.calls t277 t278 a0_0 a0_1 t284 t285 t286 _ A66.out).mono ?_); rintro e w79 ⟨rfl, hb⟩; refine ⟨_, rfl, ?_⟩; replace BK274 := Aside0.mk (blk_below (g := gb274) (o := .cells #[.int .u64 a0_0, .int .u64 a0_1] 53 (0, 0)) (by (with_reducible repeat (first | refine blk_drewN ?_ _ | refine blk_drew ?_ | refine blk_alloc ?_ _)); refine blk_far ?_ NB274_276.out _; (with_reducible repeat (first | refine blk_drewN ?_ _ | refine blk_drew ?_ | refine blk_alloc ?_ _)); refine blk_far ?_ NB274_276.out _; (with_reducible repeat (first | refine blk_drewN ?_ _ | refine blk_drew ?_ | refine blk_alloc ?_ _)); refine blk_far ?_ NB274_280.out _; (with_reducible repeat (first | refine blk_drewN ?_ _ | refine blk_drew ?_ | refine blk_alloc ?_ _)); refine blk_far ?_ NB274_280.out _; (with_reducible repeat (first | refine blk_drewN ?_ _ | refine blk_drew ?_ | refine blk_alloc ?_ _)); exact BK274.out) hb); replace BK275 := Aside0.mk (blk_below (g := gb275) (o := .cells #[.int .u64 0, .int .u64 0] 53 (0, 0)) (by (with_reducible repeat (first | refine blk_drewN ?_ _ | refine blk_drew ?_ | refine blk_alloc ?_ _)); refine blk_far ?_ NB275_276.out _; (with_reducible repeat (first | refine blk_drewN ?_ _ | refine blk_drew ?_ | refine blk_alloc ?_ _)); refine blk_far ?_ NB275_276.out _; (with_reducible repeat (first | refine blk_drewN ?_ _ | refine blk_drew ?_ | refine blk_alloc ?_ _)); refine blk_far ?_ NB275_280.out _; (with_reducible repeat (first | refine blk_drewN ?_ _ | refine blk_drew ?_ | refine blk_alloc ?_ _)); refine blk_far ?_ NB275_280.out _; (with_reducible repeat (first | refine blk_drewN ?_ _ | refine blk_drew ?_ | refine blk_alloc ?_ _)); exact BK275.out) hb); replace BK276 := Aside0.mk (blk_below (g := gb276) (o := .cells #[.int .u64 t277, .int .u64 t278] 53 (0, 0)) (by (with_reducible repeat (first | refine blk_drewN ?_ _ | refine blk_drew ?_ | refine blk_alloc ?_ _)); refine blk_put (cs := #[.int .u64 t277, .int .u64 x277001_1]) ?_ 1 _ rfl; (with_reducible repeat (first | refine blk_drewN ?_ _ | refine blk_drew ?_ | refine blk_alloc ?_ _)); refine blk_put (cs := #[.int .u64 x277000_1, .int .u64 x277001_1]) ?_ 0 _ rfl; (with_reducible repeat (first | refine blk_drewN ?_ _ | refine blk_drew ?_ | refine blk_alloc ?_ _)); refine blk_far ?_ NB276_280.out _; (with_reducible repeat (first | refine blk_drewN ?_ _ | refine blk_drew ?_ | refine blk_alloc ?_ _)); refine blk_far ?_ NB276_280.out _; (with_reducible repeat (first | refine blk_drewN ?_ _ | refine blk_drew ?_ | refine blk_alloc ?_ _)); exact BK276.out) hb); replace BK280 := Aside0.mk (blk_below (g := gb280) (o := .cells #[.int .u64 t277, .int .u64 t278] 53 (0, 0)) (by (with_reducible repeat (first | refine blk_drewN ?_ _ | refine blk_drew ?_ | refine blk_alloc ?_ _)); refine blk_far ?_ NB280_276.out _; (with_reducible repeat (first | refine blk_drewN ?_ _ | refine blk_drew ?_ | refine blk_alloc ?_ _)); refine blk_far ?_ NB280_276.out _; (with_reducible repeat (first | refine blk_drewN ?_ _ | refine blk_drew ?_ | refine blk_alloc ?_ _)); refine blk_put (cs := #[.int .u64 t277, .int .u64 0]) ?_ 1 _ rfl; (with_reducible repeat (first | refine blk_drewN ?_ _ | refine blk_drew ?_ | refine blk_alloc ?_ _)); refine blk_put (cs := #[.int .u64 0, .int .u64 0]) ?_ 0 _ rfl; (with_reducible repeat (first | refine blk_drewN ?_ _ | refine blk_drew ?_ | refine blk_alloc ?_ _)); exact BK280.out) hb); replace HB := Aside0.mk (bS hb); (try clear hb); (try clear hb2); (try clear hk); (try clear hi); have hcz80_0 : w79.cell? ⟨gb280, 0, none⟩ = some (.int .u64 t277) := (blk_cell BK280.out 0).trans rfl; have hcz80_1 : w79.cell? ⟨gb280, 1, none⟩ = some (.int .u64 t278) := (blk_cell BK280.out 1).trans rfl; have hfz80_0 := blk_frozen BK280.out 0; have hfz80_1 := blk_frozen BK280.out 1; have hcz81_0 : w79.cell? ⟨gb276, 0, none⟩ = some (.int .u64 t277) := (blk_cell BK276.out 0).trans rfl; have hcz81_1 : w79.cell? ⟨gb276, 1, none⟩ = some (.int .u64 t278) := (blk_cell BK276.out 1).trans rfl; have hfz81_0 := blk_frozen BK276.out 0; have hfz81_1 := blk_frozen BK276.out 1))
            go_roundg k1
            case measure => have := HK1.out; omega
            case rel => exact ⟨(IntKind.u64.wrap (x1_1 * 2)), (false), (wrap64 (x8_1 + 1)), (t284), (t285), (by first | rfl | (simp; done) | (simp [*]; done)), (by first | rfl | (simp; done) | (simp [*]; done)), (by first | rfl | (simp; done) | (simp [*]; done)), H', ⟨by have := HK1.out; omega⟩, ⟨by (with_reducible repeat (first | refine blk_drewN ?_ _ | refine blk_drew ?_ | refine blk_alloc ?_ _)); refine blk_far ?_ NB274_276.out _; (with_reducible repeat (first | refine blk_drewN ?_ _ | refine blk_drew ?_ | refine blk_alloc ?_ _)); refine blk_far ?_ NB274_276.out _; (with_reducible repeat (first | refine blk_drewN ?_ _ | refine blk_drew ?_ | refine blk_alloc ?_ _)); refine blk_far ?_ NB274_280.out _; (with_reducible repeat (first | refine blk_drewN ?_ _ | refine blk_drew ?_ | refine blk_alloc ?_ _)); refine blk_far ?_ NB274_280.out _; (with_reducible repeat (first | refine blk_drewN ?_ _ | refine blk_drew ?_ | refine blk_alloc ?_ _)); exact BK274.out⟩, ⟨by (with_reducible repeat (first | refine blk_drewN ?_ _ | refine blk_drew ?_ | refine blk_alloc ?_ _)); refine blk_far ?_ NB275_276.out _; (with_reducible repeat (first | refine blk_drewN ?_ _ | refine blk_drew ?_ | refine blk_alloc ?_ _)); refine blk_far ?_ NB275_276.out _; (with_reducible repeat (first | refine blk_drewN ?_ _ | refine blk_drew ?_ | refine blk_alloc ?_ _)); refine blk_far ?_ NB275_280.out _; (with_reducible repeat (first | refine blk_drewN ?_ _ | refine blk_drew ?_ | refine blk_alloc ?_ _)); refine blk_far ?_ NB275_280.out _; (with_reducible repeat (first | refine blk_drewN ?_ _ | refine blk_drew ?_ | refine blk_alloc ?_ _)); exact BK275.out⟩, ⟨by (with_reducible repeat (first | refine blk_drewN ?_ _ | refine blk_drew ?_ | refine blk_alloc ?_ _)); refine blk_put (cs := #[.int .u64 t284, .int .u64 t278]) ?_ 1 _ rfl; (with_reducible repeat (first | refine blk_drewN ?_ _ | refine blk_drew ?_ | refine blk_alloc ?_ _)); refine blk_put (cs := #[.int .u64 t277, .int .u64 t278]) ?_ 0 _ rfl; (with_reducible repeat (first | refine blk_drewN ?_ _ | refine blk_drew ?_ | refine blk_alloc ?_ _)); refine blk_far ?_ NB276_280.out _; (with_reducible repeat (first | refine blk_drewN ?_ _ | refine blk_drew ?_ | refine blk_alloc ?_ _)); refine blk_far ?_ NB276_280.out _; (with_reducible repeat (first | refine blk_drewN ?_ _ | refine blk_drew ?_ | refine blk_alloc ?_ _)); exact BK276.out⟩, ⟨bE⟩⟩
      · rw [if_neg c9] at H
        have c9b0 : decide (x8_1 < 64) = false := decide_eq_false c9
        clear c9
        simp only [Option.some.injEq, Prod.mk.injEq] at H
        obtain ⟨rfl, rfl, rfl⟩ := H
        have hnb82 := NB276_274.out
        have hnc82 := NB274_276.out
        have hnb83 := NB276_275.out
        have hnc83 := NB275_276.out
        have hcz84_0 : wr.cell? ⟨gb276, 0, none⟩ = some (.int .u64 x277000_1) := (blk_cell BK276.out 0).trans rfl
        have hcz84_1 : wr.cell? ⟨gb276, 1, none⟩ = some (.int .u64 x277001_1) := (blk_cell BK276.out 1).trans rfl
        have hfz84_0 := blk_frozen BK276.out 0
        have hfz84_1 := blk_frozen BK276.out 1
        have hnb85 := NB275_274.out
        have hnc85 := NB274_275.out
        have hcz86_0 : wr.cell? ⟨gb275, 0, none⟩ = some (.int .u64 0) := (blk_cell BK275.out 0).trans rfl
        have hcz86_1 : wr.cell? ⟨gb275, 1, none⟩ = some (.int .u64 0) := (blk_cell BK275.out 1).trans rfl
        have hfz86_0 := blk_frozen BK275.out 0
        have hfz86_1 := blk_frozen BK275.out 1
        go_wp2
        refine bodyPost_ret (results_ct rfl _ _ gb275 53 #[.int .u64 x277000_1, .int .u64 x277001_1] (0, 0) _ rfl (by (with_reducible repeat (first | refine blk_drewN ?_ _ | refine blk_drew ?_ | refine blk_alloc ?_ _)); refine blk_put (cs := #[.int .u64 x277000_1, .int .u64 0]) ?_ 1 _ rfl; (with_reducible repeat (first | refine blk_drewN ?_ _ | refine blk_drew ?_ | refine blk_alloc ?_ _)); refine blk_put (cs := #[.int .u64 0, .int .u64 0]) ?_ 0 _ rfl; (with_reducible repeat (first | refine blk_drewN ?_ _ | refine blk_drew ?_ | refine blk_alloc ?_ _)); exact BK275.out) Try.underlying53 rfl (by kernel_rfl)) rfl ?_
        exact ⟨by first | rfl | (simp [errW_none, errW_some] <;> rfl) | (simp [*, errW_none, errW_some] <;> rfl), bE⟩

end Go.Proofs.Ytkhocaehhflpcaa.PA
