/- The reference's quotients, bit by bit. -/
import Derived.Test.YtkhocaehhflpcaaPAx7
import Derived.Test.YtkhocaehhflpcaaPAx8
import Derived.Test.YtkhocaehhflpcaaPAx9
import Derived.Test.YtkhocaehhflpcaaWideR
import Derived.Test.YtkhocaehhflpcaaQuot
namespace Go.Proofs.Ytkhocaehhflpcaa.Wide
open Go.RowKit Go.Proofs.Ytkhocaehhflpcaa.PA Go.Proofs.Ytkhocaehhflpcaa.Uw Go.Proofs.YtkhocaehhflpcaaW.PrintWords Go.Proofs.YtkhocaehhflpcaaW.PrintLast Go.Proofs.YtkhocaehhflpcaaW.PrintMore

theorem shifted_f (m : Int) (h0 : 0 ≤ m) (h1 : m < 340282366920938463463374607431768211456) : corebankref01_shifted.f (m / 18446744073709551616) (m % 18446744073709551616) = some ((2 * m) % 340282366920938463463374607431768211456 / 18446744073709551616, (2 * m) % 340282366920938463463374607431768211456 % 18446744073709551616, decide (2 * m < 340282366920938463463374607431768211456)) := by
  unfold corebankref01_shifted.f
  rw [plus_self m h0 h1]
  rfl
/-- Dividing bit by bit: j bits of y are left; q and r are the quotient and the rest so far. -/
theorem quot_l (n : Int) (hn0 : 0 < n) (hn1 : n < 9223372036854775808) (j : Nat) : ∀ (i y c q r : Int), i = 128 - (j : Int) → 0 ≤ i → 0 < c → c * 2 ^ j = 340282366920938463463374607431768211456 → 0 ≤ y → y < 2 ^ j → 0 ≤ q → q + 1 ≤ c → 0 ≤ r → r < n →
    ∀ k, 2 * j + 1 ≤ k → corebankref01_Quotient.l0 k n r i ((y * c) / 18446744073709551616) ((y * c) % 18446744073709551616) (q / 18446744073709551616) (q % 18446744073709551616) = some ((((q * n + r) * 2 ^ j + y) / n) / 18446744073709551616, (((q * n + r) * 2 ^ j + y) / n) % 18446744073709551616, ((q * n + r) * 2 ^ j + y) % n) := by
  induction j with
  | zero =>
    intro i y c q r hi hi0 hc0 hc hy hy' hq hqc hr hrn k hk
    obtain ⟨k, rfl⟩ : ∃ m, k = m + 1 := ⟨k - 1, by omega⟩
    simp only [corebankref01_Quotient.l0]
    rw [if_neg (by omega)]
    have e : y = 0 := by simp at hy'; omega
    obtain ⟨u1, u2⟩ := (Int.ediv_emod_unique (a := q * n + r) (b := n) (r := r) (q := q) hn0).mpr ⟨by rw [Int.mul_comm n q]; omega, hr, hrn⟩
    rw [e]
    simp only [Int.pow_zero, Int.mul_one, Int.add_zero]
    rw [u1, u2]
  | succ j ih =>
    intro i y c q r hi hi0 hc0 hc hy hy' hq hqc hr hrn k hk
    obtain ⟨k, rfl⟩ : ∃ m, k = m + 2 := ⟨k - 2, by omega⟩
    have hD : (2 : Int) ^ (j + 1) = 2 * 2 ^ j := by rw [Int.pow_succ, Int.mul_comm]
    rw [hD] at hc hy'
    have hD0 : (0 : Int) < 2 ^ j := Int.pow_pos (by omega)
    obtain ⟨D, hDD⟩ : ∃ D : Int, 2 ^ j = D := ⟨_, rfl⟩
    have hcD : c * D = 170141183460469231731687303715884105728 := by
      have : c * (2 * 2 ^ j) = 2 * (c * 2 ^ j) := by rw [Int.mul_left_comm]
      rw [hDD] at this hc; omega
    rw [hDD] at hc hy' hD0
    have e : D * c = 170141183460469231731687303715884105728 := by rw [Int.mul_comm]; exact hcD
    have hc1 : c ≤ 170141183460469231731687303715884105728 := by
      have : c * 1 ≤ c * D := Int.mul_le_mul_of_nonneg_left (by omega) (by omega)
      omega
    have h0 : 0 ≤ y * c := Int.mul_nonneg hy (by omega)
    have h3 : y * c ≤ 340282366920938463463374607431768211456 - c := by
      have : y * c ≤ (2 * D - 1) * c := Int.mul_le_mul_of_nonneg_right (by omega) (by omega)
      rw [Int.sub_mul, Int.mul_assoc, e] at this; omega
    -- a round's end
    have hend : ∀ (b y' M : Int), (b = 0 ∨ b = 1) → 0 ≤ y' → y' < D → y = b * D + y' → M = y' * (2 * c) → M = (2 * (y * c)) % 340282366920938463463374607431768211456 →
        corebankref01_Quotient.j1 (k + 1) n (2 * r + b) i ((y * c) / 18446744073709551616) ((y * c) % 18446744073709551616) (q / 18446744073709551616) (q % 18446744073709551616) = some ((((q * n + r) * (2 * D) + y) / n) / 18446744073709551616, (((q * n + r) * (2 * D) + y) / n) % 18446744073709551616, ((q * n + r) * (2 * D) + y) % n) := by
      intro b y' M hb hy0 hy1 hyy hM hM2
      simp only [corebankref01_Quotient.j1]
      rw [shifted_f (y * c) h0 (by omega), shifted_f q hq (by omega)]
      simp only [Option.bind_some]
      rw [← hM2, (by omega : (2 * q) % 340282366920938463463374607431768211456 = 2 * q), hM, w64 (n := i + 1) (by omega) (by omega)]
      have hc2 : 2 * c * D = 340282366920938463463374607431768211456 := by rw [Int.mul_assoc, hcD]; omega
      by_cases hge : 2 * r + b ≥ n
      · rw [if_pos hge, wu (2 * r + b - n) (by omega) (by omega), wu ((2 * q) % 18446744073709551616 + 1) (by omega) (by omega)]
        have e1 : (2 * q) / 18446744073709551616 = (2 * q + 1) / 18446744073709551616 := by omega
        have e2 : (2 * q) % 18446744073709551616 + 1 = (2 * q + 1) % 18446744073709551616 := by omega
        rw [e1, e2, ih (i + 1) y' (2 * c) (2 * q + 1) (2 * r + b - n) (by omega) (by omega) (by omega) (by rw [hDD]; exact hc2) hy0 (by rw [hDD]; exact hy1) (by omega) (by omega) (by omega) (by omega) k (by omega), hDD]
        have e3 : ((2 * q + 1) * n + (2 * r + b - n)) * D + y' = (q * n + r) * (2 * D) + y := by
          have : (2 * q + 1) * n + (2 * r + b - n) = (q * n + r) * 2 + b := by rw [Int.add_mul, Int.mul_assoc]; omega
          rw [this, hyy, Int.add_mul, Int.mul_assoc]; omega
        rw [e3]
      · rw [if_neg hge, ih (i + 1) y' (2 * c) (2 * q) (2 * r + b) (by omega) (by omega) (by omega) (by rw [hDD]; exact hc2) hy0 (by rw [hDD]; exact hy1) (by omega) (by omega) (by omega) (by omega) k (by omega), hDD]
        have e3 : ((2 * q) * n + (2 * r + b)) * D + y' = (q * n + r) * (2 * D) + y := by
          have : (2 * q) * n + (2 * r + b) = (q * n + r) * 2 + b := by rw [Int.mul_assoc]; omega
          rw [this, hyy, Int.add_mul, Int.mul_assoc]; omega
        rw [e3]
    rw [hD, hDD]
    simp only [corebankref01_Quotient.l0]
    rw [if_pos (by omega), wu (r * 2) (by omega) (by omega)]
    have htop := and_top ((y * c) / 18446744073709551616) (by omega) (by omega)
    by_cases hb : y < D
    · have h1 : y * c ≤ 170141183460469231731687303715884105728 - c := by
        have : y * c ≤ (D - 1) * c := Int.mul_le_mul_of_nonneg_right (by omega) (by omega)
        rw [Int.sub_mul, e] at this; omega
      rw [if_pos (htop.mpr (by omega)), show r * 2 = 2 * r + 0 from by omega]
      exact hend 0 y (y * (2 * c)) (.inl rfl) hy hb (by omega) rfl (by rw [Int.mul_left_comm]; omega)
    · have h2 : 170141183460469231731687303715884105728 ≤ y * c := by
        have : D * c ≤ y * c := Int.mul_le_mul_of_nonneg_right (by omega) (by omega)
        omega
      rw [if_neg (fun h => by have := htop.mp h; omega), wu (r * 2 + 1) (by omega) (by omega), show r * 2 + 1 = 2 * r + 1 from by omega]
      refine hend 1 (y - D) ((y - D) * (2 * c)) (.inr rfl) (by omega) (by omega) (by omega) rfl ?_
      have : (y - D) * (2 * c) = 2 * (y * c) - 340282366920938463463374607431768211456 := by rw [Int.sub_mul, Int.mul_left_comm y 2 c, Int.mul_left_comm D 2 c, e]; omega
      rw [this]; omega
theorem Quotient_f (k : Nat) (hk : 257 ≤ k) (m n : Int) (h0 : 0 ≤ m) (h1 : m < 340282366920938463463374607431768211456) (hn0 : 0 < n) (hn1 : n < 9223372036854775808) :
    corebankref01_Quotient.f k (m / 18446744073709551616) (m % 18446744073709551616) n = some ((m / n) / 18446744073709551616, (m / n) % 18446744073709551616, m % n) := by
  unfold corebankref01_Quotient.f
  have := quot_l n hn0 hn1 128 0 m 1 0 0 (by decide) (by omega) (by omega) (by decide) h0 h1 (by omega) (by omega) (by omega) hn0 k (by omega)
  simp only [Int.mul_one, Int.zero_mul, Int.zero_add, Int.zero_ediv, Int.zero_emod] at this
  exact this
theorem Div_r (k : Nat) (hk : 260 ≤ k) (h l n : Int) (hh : I h) (hl : U l) (hn : I n) :
    corebankref01_Div.f k h l n = if n < 1 then some (0, 0, 0, 1) else some ((val h l / n) / 18446744073709551616, (val h l / n) % 18446744073709551616, val h l % n, 0) := by
  unfold corebankref01_Div.f
  by_cases hn1 : n < 1
  · rw [if_pos hn1, if_pos hn1]
  rw [if_neg hn1, if_neg hn1]
  have hn0 : 0 < n := by omega
  have hnT := hn.2
  have hb := val_bd h l hh hl
  rw [Split_f h l hh hl, wu n (by omega) (by omega)]
  simp only [Option.bind_some]
  have a0 := ab_nonneg (val h l)
  have a1 := ab_le (val h l) (170141183460469231731687303715884105728) hb.1 (by omega)
  rw [Quotient_f k (by omega) _ n a0 (by omega) hn0 hnT]
  simp only [Option.bind_some]
  generalize hvv : val h l = v at *
  obtain ⟨k, rfl⟩ : ∃ m, k = m + 1 := ⟨k - 1, by omega⟩
  have hq := quo_bd (ab v) n a0 hn0
  have hr0 := Int.emod_nonneg (ab v) (by omega : n ≠ 0)
  have hr1 := Int.emod_lt_of_pos (ab v) hn0
  have hJ : ∀ (m : Int) (b : Bool) (r : Int), 0 ≤ m → m < 340282366920938463463374607431768211456 → sg b m < 170141183460469231731687303715884105728 → -170141183460469231731687303715884105728 ≤ sg b m → ((corebankref01_Join.f b (m / 18446744073709551616) (m % 18446744073709551616)).bind fun bt => (some (bt.1, bt.2.1, r, (0 : Int)))) = some (sg b m / 18446744073709551616, sg b m % 18446744073709551616, r, 0) := by
    intro m b r h0 h1 h2 h3
    obtain ⟨p, q, e, e2⟩ := Join_f b m h0 h1
    obtain ⟨e3, e4⟩ := e2 ⟨h2, h3⟩
    rw [e, e3, e4]; rfl
  by_cases hv : v < 0
  · have hab : ab v = -v := by unfold ab; rw [if_pos hv]
    rw [decide_eq_true hv, if_pos rfl]
    by_cases hr : ab v % n > 0
    · obtain ⟨f1, f2⟩ := floor_neg' v n hn0 (by rw [← hab]; exact hr)
      rw [← hab] at f1 f2
      have hbig := quo_big (ab v) n a0 a1 hn0 hr
      rw [decide_eq_true hr]
      simp only [corebankref01_Div.j0, if_true]
      rw [plus_val (ab v / n) 0 1 hq.1 (by omega) ⟨by omega, by omega⟩ ⟨by omega, by omega⟩, show val 0 1 = 1 from rfl]
      simp only [Option.bind_some]
      rw [(by omega : (ab v / n + 1) % 340282366920938463463374607431768211456 = ab v / n + 1), hJ (ab v / n + 1) true _ (by omega) (by omega) (by simp only [sg, if_true]; omega) (by simp only [sg, if_true]; omega)]
      simp only [sg, if_true]
      rw [wu n (by omega) (by omega), wu _ (by omega) (by omega), w64 (by omega) (by omega), ← f1, ← f2]
    · have hr' : ab v % n = 0 := by omega
      obtain ⟨f1, f2⟩ := floor_neg v n hn0 (by rw [← hab]; exact hr')
      rw [← hab] at f1
      rw [decide_eq_false hr]
      simp only [corebankref01_Div.j0]
      rw [if_neg (by decide), hJ (ab v / n) true _ hq.1 (by omega) (by simp only [sg, if_true]; omega) (by simp only [sg, if_true]; omega)]
      simp only [sg, if_true]
      rw [hr', f1, f2, w64 (n := 0) (by omega) (by omega)]
  · have hab : ab v = v := by unfold ab; rw [if_neg hv]
    rw [decide_eq_false hv, if_neg (by decide)]
    simp only [corebankref01_Div.j0]
    rw [if_neg (by decide), hJ (ab v / n) false _ hq.1 (by omega) (by simp only [sg]; rw [if_neg (by decide)]; omega) (by simp only [sg]; rw [if_neg (by decide)]; omega)]
    simp only [sg]
    rw [if_neg (by decide), w64 (by omega) (by omega), hab]
end Go.Proofs.Ytkhocaehhflpcaa.Wide
