/- DaycountInterest, of the plain functions: Interest is the reference's number or error. -/
import Derived.Test.YtddaajikgjcknaaPAx10
import Derived.Test.YtddaajikgjcknaaPAx16
import Derived.Test.YtddaajikgjcknaaPAx17
import Derived.Test.YtddaajikgjcknaaPAx7
import Derived.Test.YtddaajikgjcknaaWide
import Derived.Test.YtddaajikgjcknaaSum
import Derived.Test.YtddaajikgjcknaaLives
namespace Go.Proofs.Ytddaajikgjcknaa.Pure
open Go.RowKit Go.Proofs.Ytddaajikgjcknaa.PA Go.Proofs.Ytddaajikgjcknaa.Date Go.Proofs.Ytddaajikgjcknaa.Cal Go.Proofs.Ytddaajikgjcknaa.Wide Go.Proofs.YtddaajikgjcknaaW.PrintWords Go.Proofs.YtddaajikgjcknaaW.PrintLast
/-- The arguments that have an interest. -/
def Fit (a p b x y : Int) : Prop := -1000000000000 ≤ a ∧ a ≤ 1000000000000 ∧ 0 ≤ p ∧ p ≤ 1000000 ∧ Vb b ∧ Vd x ∧ Vd y ∧ x ≤ y
theorem Sm_bd (b x y : Int) : -5000000000 ≤ Sm b x y ∧ Sm b x y ≤ 5000000000 := by
  unfold Sm
  split
  · rename_i h
    have h1 := Ph_bd (b := b) h.2.1
    have h2 := Ph_bd (b := b) h.2.2.1
    omega
  · omega
theorem ap_bd {a p : Int} (h1 : -1000000000000 ≤ a) (h2 : a ≤ 1000000000000) (h3 : 0 ≤ p) (h4 : p ≤ 1000000) : -1000000000000000000 ≤ a * p ∧ a * p ≤ 1000000000000000000 := by
  constructor
  · have : -(a * p) ≤ 1000000000000 * 1000000 := by
      rw [← Int.neg_mul]
      exact Int.le_trans (Int.mul_le_mul_of_nonneg_right (by omega) h3) (Int.mul_le_mul_of_nonneg_left h4 (by omega))
    omega
  · have : a * p ≤ 1000000000000 * 1000000 := Int.le_trans (Int.mul_le_mul_of_nonneg_right h2 h3) (Int.mul_le_mul_of_nonneg_left h4 (by omega))
    omega
theorem aps_bd {v s : Int} (h1 : -1000000000000000000 ≤ v) (h2 : v ≤ 1000000000000000000) (h3 : -5000000000 ≤ s) (h4 : s ≤ 5000000000) : -5000000000000000000000000000 ≤ v * s ∧ v * s ≤ 5000000000000000000000000000 := by
  have e1 := ab_le v 1000000000000000000 h1 h2
  have e2 := ab_le s 5000000000 h3 h4
  have e3 : ab v * ab s ≤ 1000000000000000000 * 5000000000 := Int.le_trans (Int.mul_le_mul_of_nonneg_right e1 (ab_nonneg s)) (Int.mul_le_mul_of_nonneg_left e2 (by omega))
  rw [ab_mul] at e3
  unfold ab at e3
  split at e3 <;> omega
theorem out_in {v : Int} (h1 : -5000000000000000000000000000 ≤ v) (h2 : v ≤ 5000000000000000000000000000) : out v = some (v / 18446744073709551616, v % 18446744073709551616, 0) := by
  unfold out; rw [if_pos (by omega)]
/-- An interest in grains. -/
def Gr (a p b x y : Int) : Int := a * p * Sm b x y
theorem Gr_bd {a p b x y : Int} (h : Fit a p b x y) : -5000000000000000000000000000 ≤ Gr a p b x y ∧ Gr a p b x y ≤ 5000000000000000000000000000 := by
  have h1 := ap_bd h.1 h.2.1 h.2.2.1 h.2.2.2.1
  have h2 := Sm_bd b x y
  exact aps_bd h1.1 h1.2 h2.1 h2.2
theorem interest_p (k : Nat) (hk : 520 ≤ k) (a p b x y : Int) (h : Fit a p b x y) : daycount_Interest.f k a p b x y = some (Gr a p b x y / 18446744073709551616, Gr a p b x y % 18446744073709551616, 0) := by
  obtain ⟨k, rfl⟩ : ∃ j, k = j + 1 := ⟨k - 1, by omega⟩
  have hg := Gr_bd h
  obtain ⟨h1, h2, h3, h4, h5, h6, h7, h8⟩ := h
  unfold daycount_Interest.f
  rw [if_neg (by omega), if_neg (by omega), if_neg (by omega), if_neg (by omega), basis_p, valid_p', valid_p', decide_eq_true h5, decide_eq_true h6, decide_eq_true h7]
  simp only [Option.bind_some, if_true]
  rw [decide_eq_false (by omega)]
  simp only [daycount_Interest.j0]
  have hap := ap_bd h1 h2 h3 h4
  have hsm := Sm_bd b x y
  obtain ⟨hv, hI, hU⟩ := div_val (a * p) (by omega)
  rw [if_neg (by decide), Mul_f a p ⟨by omega, by omega⟩ ⟨by omega, by omega⟩, sum_p k (by omega)]
  simp only [Option.bind_some]
  rw [Scale_f k (by omega) _ _ _ hI hU ⟨by omega, by omega⟩, hv, show a * p * Sm b x y = Gr a p b x y from rfl, out_in hg.1 hg.2]
  simp only [Option.bind_some]
  rw [if_pos trivial]
theorem interest_p_out (k : Nat) (hk : 1 ≤ k) (a p b x y : Int) (h : ¬ Fit a p b x y) : daycount_Interest.f k a p b x y = some (0, 0, 1) := by
  obtain ⟨k, rfl⟩ : ∃ j, k = j + 1 := ⟨k - 1, by omega⟩
  have ht : daycount_Interest.j0 (k + 1) a p b x y true = some (0, 0, 1) := by simp [daycount_Interest.j0]
  unfold daycount_Interest.f
  rw [ht, basis_p, valid_p', valid_p']
  simp only [Option.bind_some]
  by_cases h1 : a < -1000000000000
  · rw [if_pos h1]
  rw [if_neg h1]
  by_cases h2 : a > 1000000000000
  · rw [if_pos h2]
  rw [if_neg h2]
  by_cases h3 : p < 0
  · rw [if_pos h3]
  rw [if_neg h3]
  by_cases h4 : p > 1000000
  · rw [if_pos h4]
  rw [if_neg h4]
  by_cases h5 : Vb b
  · by_cases h6 : Vd x
    · by_cases h7 : Vd y
      · have h8 : x > y := by
          by_cases h8 : x > y
          · exact h8
          · exact absurd ⟨by omega, by omega, by omega, by omega, h5, h6, h7, by omega⟩ h
        rw [decide_eq_true h5, decide_eq_true h6, decide_eq_true h7, decide_eq_true h8, ht]; rfl
      · simp [h5, h6, h7]
    · simp [h5, h6]
  · simp [h5]
theorem interest_r (k : Nat) (hk : 74010 ≤ k) (a p b x y : Int) (h : Fit a p b x y) : corebankref06_Interest.f k a p b x y = some (Gr a p b x y / 18446744073709551616, Gr a p b x y % 18446744073709551616, 0) := by
  obtain ⟨k, rfl⟩ : ∃ j, k = j + 1 := ⟨k - 1, by omega⟩
  have hg := Gr_bd h
  obtain ⟨h1, h2, h3, h4, h5, h6, h7, h8⟩ := h
  unfold corebankref06_Interest.f
  rw [if_neg (by omega), if_neg (by omega), if_neg (by omega), if_neg (by omega), basis_r, valid_r', valid_r', decide_eq_true h5, decide_eq_true h6, decide_eq_true h7]
  simp only [Option.bind_some, if_true]
  rw [decide_eq_false (by omega)]
  simp only [corebankref06_Interest.j0]
  have hap := ap_bd h1 h2 h3 h4
  have hsm := Sm_bd b x y
  obtain ⟨hv, hI, hU⟩ := div_val (a * p) (by omega)
  rw [if_neg (by decide), Mul_r k (by omega) a p ⟨by omega, by omega⟩ ⟨by omega, by omega⟩, sum_r k (by omega)]
  simp only [Option.bind_some]
  rw [Scale_r k (by omega) _ _ _ hI hU ⟨by omega, by omega⟩, hv, show a * p * Sm b x y = Gr a p b x y from rfl, out_in hg.1 hg.2]
  rfl
theorem interest_r_out (k : Nat) (hk : 1 ≤ k) (a p b x y : Int) (h : ¬ Fit a p b x y) : corebankref06_Interest.f k a p b x y = some (0, 0, 1) := by
  obtain ⟨k, rfl⟩ : ∃ j, k = j + 1 := ⟨k - 1, by omega⟩
  have ht : corebankref06_Interest.j0 (k + 1) a p b x y true = some (0, 0, 1) := by simp [corebankref06_Interest.j0]
  unfold corebankref06_Interest.f
  rw [ht, basis_r, valid_r', valid_r']
  simp only [Option.bind_some]
  by_cases h1 : a < -1000000000000
  · rw [if_pos h1]
  rw [if_neg h1]
  by_cases h2 : a > 1000000000000
  · rw [if_pos h2]
  rw [if_neg h2]
  by_cases h3 : p < 0
  · rw [if_pos h3]
  rw [if_neg h3]
  by_cases h4 : p > 1000000
  · rw [if_pos h4]
  rw [if_neg h4]
  by_cases h5 : Vb b
  · by_cases h6 : Vd x
    · by_cases h7 : Vd y
      · have h8 : x > y := by
          by_cases h8 : x > y
          · exact h8
          · exact absurd ⟨by omega, by omega, by omega, by omega, h5, h6, h7, by omega⟩ h
        rw [decide_eq_true h5, decide_eq_true h6, decide_eq_true h7, decide_eq_true h8, ht]; rfl
      · simp [h5, h6, h7]
    · simp [h5, h6]
  · simp [h5]
theorem interest_some (k : Nat) (hk : 74010 ≤ k) (a p b x y : Int) : ∃ r, daycount_Interest.f k a p b x y = some r ∧ corebankref06_Interest.f k a p b x y = some r := by
  by_cases h : -1000000000000 ≤ a ∧ a ≤ 1000000000000 ∧ 0 ≤ p ∧ p ≤ 1000000 ∧ Vb b ∧ Vd x ∧ Vd y ∧ x ≤ y
  · exact ⟨_, interest_p k (by omega) a p b x y h, interest_r k hk a p b x y h⟩
  · exact ⟨_, interest_p_out k (by omega) a p b x y h, interest_r_out k (by omega) a p b x y h⟩
theorem near_some' (a b : Int) : ∃ t, corebanklaw06_near.f a b = some t := by
  unfold corebanklaw06_near.f
  rw [valid_r', valid_r']
  simp only [Option.bind_some]
  split
  · split <;> exact ⟨_, rfl⟩
  · exact ⟨_, rfl⟩
theorem DaycountInterest_all (a p b x y : Int) : corebanklaw06_DaycountInterest.f 74010 a p b x y = some true := by
  unfold corebanklaw06_DaycountInterest.f
  obtain ⟨t, ht⟩ := near_some' x y
  obtain ⟨r, h1, h2⟩ := interest_some 74010 (by omega) a p b x y
  rw [ht, h1, h2, lives 74010 (by omega)]
  cases t <;> simp
theorem DaycountInterest : corebanklaw06_DaycountInterest.Pure := fun a p b x y _ _ _ _ _ => ⟨74010, DaycountInterest_all a p b x y⟩
theorem Sm_add {b x m y : Int} (hb : Vb b) (hx : Vd x) (hm : Vd m) (hy : Vd y) (h1 : x ≤ m) (h2 : m ≤ y) : Sm b x m + Sm b m y = Sm b x y := by
  unfold Sm
  rw [if_pos ⟨hb, hx, hm, h1⟩, if_pos ⟨hb, hm, hy, h2⟩, if_pos ⟨hb, hx, hy, by omega⟩]; omega
end Go.Proofs.Ytddaajikgjcknaa.Pure
