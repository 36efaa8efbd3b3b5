/- The reference's products. -/
import Derived.Test.YtkhocaehhflpcaaPAx14
import Derived.Test.YtkhocaehhflpcaaPAx19
import Derived.Test.YtkhocaehhflpcaaPAx20
import Derived.Test.YtkhocaehhflpcaaPAx21
import Derived.Test.YtkhocaehhflpcaaPAx7
import Derived.Test.YtkhocaehhflpcaaPAx8
import Derived.Test.YtkhocaehhflpcaaWide
namespace Go.Proofs.Ytkhocaehhflpcaa.Wide
open Go.RowKit Go.Proofs.Ytkhocaehhflpcaa.PA Go.Proofs.Ytkhocaehhflpcaa.Uw Go.Proofs.YtkhocaehhflpcaaW.PrintWords Go.Proofs.YtkhocaehhflpcaaW.PrintLast

theorem Split_f (h l : Int) (hh : I h) (hl : U l) : corebankref01_Split.f h l = some (decide (val h l < 0), ab (val h l) / 18446744073709551616, ab (val h l) % 18446744073709551616) := by
  unfold corebankref01_Split.f ab
  obtain ⟨l0, l1⟩ := hl
  obtain ⟨h0, h1⟩ := hh
  by_cases hp : h ≥ 0
  · have hv : ¬ val h l < 0 := by unfold val; omega
    rw [if_pos hp, if_neg hv, decide_eq_false hv, val_div h l ⟨l0, l1⟩, val_mod h l ⟨l0, l1⟩, wu h hp (by omega)]
  · have hv : val h l < 0 := by unfold val; omega
    rw [if_neg hp, if_pos hv, decide_eq_true hv, xor_max l l0 l1, wrapu (h), xor_max (h % 18446744073709551616) (by omega) (by omega), wrapu, wrapu]
    unfold val
    by_cases hz : (18446744073709551616 - 1 - l + 1) % 18446744073709551616 = 0
    · rw [if_pos (by omega)]
      congr 3 <;> omega
    · rw [if_neg (by omega)]
      congr 3 <;> omega
theorem size_f (n : Int) (hn : I n) : corebankref01_size.f n = some (ab n) := by
  unfold corebankref01_size.f ab I at *
  by_cases h : n < 0
  · rw [if_pos h, if_pos h, wrapu n, xor_max (n % 18446744073709551616) (by omega) (by omega), wrapu]; congr 1; omega
  · rw [if_neg h, if_neg h, wu n (by omega) (by omega)]
theorem plus_f (a b c d : Int) (ha : U a) (hb : U b) (hc : U c) (hd : U d) :
    corebankref01_plus.f a b c d = some ((val a b + val c d) / 18446744073709551616 % 18446744073709551616, (val a b + val c d) % 18446744073709551616, decide (val a b + val c d < 340282366920938463463374607431768211456)) := by
  unfold corebankref01_plus.f val U at *
  rw [wrapu (b + d), wrapu (a + c), wrapu ((a + c) % 18446744073709551616), wrapu ((a + c) % 18446744073709551616 + 1)]
  have hT : a * 18446744073709551616 + b + (c * 18446744073709551616 + d) = (a + c) * 18446744073709551616 + (b + d) := by omega
  rw [hT]
  by_cases h1 : b + d < 18446744073709551616
  · have e1 : (b + d) % 18446744073709551616 = b + d := by omega
    have e2 : ((a + c) * 18446744073709551616 + (b + d)) / 18446744073709551616 = a + c := by omega
    have e3 : ((a + c) * 18446744073709551616 + (b + d)) % 18446744073709551616 = b + d := by omega
    rw [e1, e2, e3, if_neg (by omega)]
    by_cases h2 : a + c < 18446744073709551616
    · have e4 : (a + c) % 18446744073709551616 = a + c := by omega
      rw [e4, e4, if_pos (by omega), decide_eq_true (by omega)]
    · have e4 : (a + c) % 18446744073709551616 = a + c - 18446744073709551616 := by omega
      have e5 : (a + c - 18446744073709551616) % 18446744073709551616 = a + c - 18446744073709551616 := by omega
      rw [e4, e5, if_neg (by omega), decide_eq_false (by omega)]
  · have e1 : (b + d) % 18446744073709551616 = b + d - 18446744073709551616 := by omega
    have e2 : ((a + c) * 18446744073709551616 + (b + d)) / 18446744073709551616 = a + c + 1 := by omega
    have e3 : ((a + c) * 18446744073709551616 + (b + d)) % 18446744073709551616 = b + d - 18446744073709551616 := by omega
    rw [e1, e2, e3, if_pos (by omega)]
    by_cases h2 : a + c < 18446744073709551616
    · have e4 : (a + c) % 18446744073709551616 = a + c := by omega
      rw [e4, if_pos (by omega)]
      by_cases h3 : a + c + 1 < 18446744073709551616
      · have e5 : (a + c + 1) % 18446744073709551616 = a + c + 1 := by omega
        rw [e5, decide_eq_true (by omega), decide_eq_true (by omega)]
      · have e5 : (a + c + 1) % 18446744073709551616 = 0 := by omega
        rw [e5, decide_eq_false (by omega), decide_eq_false (by omega)]
    · have e4 : (a + c) % 18446744073709551616 = a + c - 18446744073709551616 := by omega
      have e5 : (a + c + 1) % 18446744073709551616 = a + c + 1 - 18446744073709551616 := by omega
      have e6 : (a + c - 18446744073709551616 + 1) % 18446744073709551616 = a + c + 1 - 18446744073709551616 := by omega
      rw [e4, if_neg (by omega), decide_eq_false (by omega), e5, e6]
/-- Join: a number, and whether there is one. -/
theorem Join_f (neg : Bool) (m : Int) (h0 : 0 ≤ m) (h1 : m < 340282366920938463463374607431768211456) :
    ∃ p q, corebankref01_Join.f neg (m / 18446744073709551616) (m % 18446744073709551616) = some (p, q, decide (sg neg m < 170141183460469231731687303715884105728 ∧ -170141183460469231731687303715884105728 ≤ sg neg m)) ∧ (sg neg m < 170141183460469231731687303715884105728 ∧ -170141183460469231731687303715884105728 ≤ sg neg m → p = sg neg m / 18446744073709551616 ∧ q = sg neg m % 18446744073709551616) := by
  unfold corebankref01_Join.f sg
  cases neg with
  | false =>
    simp only [Bool.false_eq_true, if_false]
    refine ⟨wrap64 (m / 18446744073709551616), m % 18446744073709551616, ?_, ?_⟩
    · congr 3; exact decide_eq_decide.mpr (by omega)
    · intro h; unfold wrap64; omega
  | true =>
    simp only [if_true]
    have hH : 0 ≤ m / 18446744073709551616 ∧ m / 18446744073709551616 < 18446744073709551616 := by omega
    rw [xor_max (m % 18446744073709551616) (by omega) (by omega), xor_max (m / 18446744073709551616) hH.1 hH.2, wrapu (_ + 1), wrapu (_ + 1)]
    by_cases hz : (18446744073709551615 - m % 18446744073709551616 + 1) % 18446744073709551616 = 0
    · rw [if_pos hz]
      by_cases g1 : m / 18446744073709551616 < 9223372036854775808
      · rw [if_pos g1, decide_eq_true (by omega)]
        exact ⟨_, _, rfl, fun _ => by unfold wrap64; omega⟩
      · rw [if_neg g1]
        by_cases g2 : m / 18446744073709551616 = 9223372036854775808
        · rw [if_pos g2]
          refine ⟨wrap64 ((18446744073709551615 - m / 18446744073709551616 + 1) % 18446744073709551616), (18446744073709551615 - m % 18446744073709551616 + 1) % 18446744073709551616, ?_, fun _ => ⟨?_, ?_⟩⟩
          · congr 3; rw [Bool.eq_iff_iff, beq_iff_eq, decide_eq_true_iff]; omega
          · unfold wrap64; omega
          · omega
        · rw [if_neg g2, decide_eq_false (by omega)]
          exact ⟨_, _, rfl, fun h => by omega⟩
    · rw [if_neg hz]
      by_cases g1 : m / 18446744073709551616 < 9223372036854775808
      · rw [if_pos g1, decide_eq_true (by omega)]
        exact ⟨_, _, rfl, fun _ => by unfold wrap64; omega⟩
      · rw [if_neg g1]
        by_cases g2 : m / 18446744073709551616 = 9223372036854775808
        · rw [if_pos g2]
          refine ⟨wrap64 (18446744073709551615 - m / 18446744073709551616), (18446744073709551615 - m % 18446744073709551616 + 1) % 18446744073709551616, ?_, fun _ => ⟨?_, ?_⟩⟩
          · congr 3; rw [Bool.eq_iff_iff, beq_iff_eq, decide_eq_true_iff]; omega
          · unfold wrap64; omega
          · omega
        · rw [if_neg g2, decide_eq_false (by omega)]
          exact ⟨_, _, rfl, fun h => by omega⟩
theorem plus_val (o H L : Int) (h0 : 0 ≤ o) (h1 : o < 340282366920938463463374607431768211456) (hH : U H) (hL : U L) :
    corebankref01_plus.f (o / 18446744073709551616) (o % 18446744073709551616) H L = some ((o + val H L) % 340282366920938463463374607431768211456 / 18446744073709551616, (o + val H L) % 340282366920938463463374607431768211456 % 18446744073709551616, decide (o + val H L < 340282366920938463463374607431768211456)) := by
  obtain ⟨hv, hH', hL'⟩ := split_val o h0 h1
  have hb := nval_bd H L hH hL
  rw [plus_f _ _ _ _ hH' hL' hH hL, hv]
  generalize val H L = v at *
  have e1 : (o + v) / 18446744073709551616 % 18446744073709551616 = (o + v) % 340282366920938463463374607431768211456 / 18446744073709551616 := by omega
  have e2 : (o + v) % 18446744073709551616 = (o + v) % 340282366920938463463374607431768211456 % 18446744073709551616 := by omega
  rw [e1, e2]
theorem plus_self (o : Int) (h0 : 0 ≤ o) (h1 : o < 340282366920938463463374607431768211456) :
    corebankref01_plus.f (o / 18446744073709551616) (o % 18446744073709551616) (o / 18446744073709551616) (o % 18446744073709551616) = some ((2 * o) % 340282366920938463463374607431768211456 / 18446744073709551616, (2 * o) % 340282366920938463463374607431768211456 % 18446744073709551616, decide (2 * o < 340282366920938463463374607431768211456)) := by
  obtain ⟨hv, hH', hL'⟩ := split_val o h0 h1
  rw [plus_val o _ _ h0 h1 hH' hL', hv, show o + o = 2 * o from by omega]
theorem top_bit (y c D : Int) (hc : 0 < c) (hcD : c * D = 9223372036854775808) (hy : 0 ≤ y) (hy' : y < 2 * D) : (y * c < 9223372036854775808 ↔ y < D) ∧ U (y * c) ∧ (y * c * 2) % 18446744073709551616 = (if y < D then y else y - D) * (2 * c) := by
  have e : D * c = 9223372036854775808 := by rw [Int.mul_comm]; exact hcD
  have h1 : y < D → y * c ≤ 9223372036854775808 - c := by
    intro h
    have : y * c ≤ (D - 1) * c := Int.mul_le_mul_of_nonneg_right (by omega) (by omega)
    rw [Int.sub_mul, e] at this; omega
  have h2 : D ≤ y → 9223372036854775808 ≤ y * c := by
    intro h
    have : D * c ≤ y * c := Int.mul_le_mul_of_nonneg_right h (by omega)
    omega
  have h3 : y * c ≤ 18446744073709551616 - c := by
    have : y * c ≤ (2 * D - 1) * c := Int.mul_le_mul_of_nonneg_right (by omega) (by omega)
    rw [Int.sub_mul, Int.mul_assoc, e] at this; omega
  have h0 : 0 ≤ y * c := Int.mul_nonneg hy (by omega)
  refine ⟨⟨fun h => ?_, fun h => ?_⟩, ⟨h0, by omega⟩, ?_⟩
  · by_cases g : y < D
    · exact g
    · have := h2 (by omega); omega
  · have := h1 h; omega
  · by_cases g : y < D
    · rw [if_pos g]
      have := h1 g
      have e2 : y * (2 * c) = y * c * 2 := by rw [Int.mul_comm 2 c, Int.mul_assoc]
      rw [e2]; omega
    · rw [if_neg g]
      have := h2 (by omega)
      have e2 : (y - D) * (2 * c) = y * c * 2 - 18446744073709551616 := by
        rw [Int.sub_mul, Int.mul_comm 2 c, ← Int.mul_assoc, ← Int.mul_assoc, e]; omega
      rw [e2]; omega
/-- Doubling for each bit: of n's bits j are left, the number y; p has been multiplied. -/
theorem times_l (H L : Int) (hH : U H) (hL : U L) (j : Nat) : ∀ (i y c p o : Int) (ok : Bool), i = 64 - (j : Int) → 0 ≤ i → 0 < c → c * 2 ^ j = 18446744073709551616 → 0 ≤ y → y < 2 ^ j → 0 ≤ p → o = val H L * p % 340282366920938463463374607431768211456 → ok = decide (val H L * p < 340282366920938463463374607431768211456) →
    ∀ k, j + 1 ≤ k → corebankref01_times.l0 k (y * c) ok i H L (o / 18446744073709551616) (o % 18446744073709551616) = some ((val H L * (p * 2 ^ j + y)) % 340282366920938463463374607431768211456 / 18446744073709551616, (val H L * (p * 2 ^ j + y)) % 340282366920938463463374607431768211456 % 18446744073709551616, decide (val H L * (p * 2 ^ j + y) < 340282366920938463463374607431768211456)) := by
  have hvb := nval_bd H L hH hL
  induction j with
  | zero =>
    intro i y c p o ok hi hi0 hc0 hc hy hy' hp hoe hok k hk
    obtain ⟨k, rfl⟩ : ∃ j, k = j + 1 := ⟨k - 1, by omega⟩
    simp only [corebankref01_times.l0]
    rw [if_neg (by omega)]
    have e : y = 0 := by simp at hy'; omega
    rw [hoe, hok, e]
    simp
  | succ j ih =>
    intro i y c p o ok hi hi0 hc0 hc hy hy' hp hoe hok k hk
    obtain ⟨k, rfl⟩ : ∃ j, k = j + 1 := ⟨k - 1, by omega⟩
    have hz0 : 0 ≤ val H L * p := Int.mul_nonneg hvb.1 hp
    have hD : (2 : Int) ^ (j + 1) = 2 * 2 ^ j := by rw [Int.pow_succ, Int.mul_comm]
    rw [hD] at hc hy'
    have hD0 : (0 : Int) < 2 ^ j := Int.pow_pos (by omega)
    have hcD : c * 2 ^ j = 9223372036854775808 := by
      have : c * (2 * 2 ^ j) = 2 * (c * 2 ^ j) := by rw [Int.mul_left_comm]
      omega
    obtain ⟨t1, t2, t3⟩ := top_bit y c (2 ^ j) hc0 hcD hy hy'
    have ho : 0 ≤ o ∧ o < 340282366920938463463374607431768211456 := by omega
    have hc2 : 2 * c * 2 ^ j = 18446744073709551616 := by rw [Int.mul_assoc, hcD]; omega
    -- behind the doubling
    have hz1 : val H L * (2 * p) = 2 * (val H L * p) := by rw [Int.mul_left_comm]
    have hz2 : val H L * (2 * p + 1) = 2 * (val H L * p) + val H L := by rw [Int.mul_add, hz1, Int.mul_one]
    have hf : ∀ b : Int, (b = 0 ∨ b = 1) → (2 * p + b) * 2 ^ j + (y - b * 2 ^ j) = p * (2 * 2 ^ j) + y := by
      intro b hb
      have : p * (2 * 2 ^ j) = 2 * p * 2 ^ j := by rw [← Int.mul_assoc, Int.mul_comm p 2]
      rw [this, Int.add_mul]; omega
    rw [hD]
    generalize hz : val H L * p = z at *
    obtain ⟨o1, ho1⟩ : ∃ o1, (2 * o) % 340282366920938463463374607431768211456 = o1 := ⟨_, rfl⟩
    have ho1' : o1 = (2 * z) % 340282366920938463463374607431768211456 := by omega
    have ho1b : 0 ≤ o1 ∧ o1 < 340282366920938463463374607431768211456 := by omega
    simp only [corebankref01_times.l0]
    rw [if_pos (by omega), plus_self o ho.1 ho.2, wrapu (y * c * 2), t3, w64 (n := i + 1) (by omega) (by omega)]
    simp only [Option.bind_some]
    rw [ho1, plus_val o1 H L ho1b.1 ho1b.2 hH hL]
    simp only [Option.bind_some]
    by_cases hb : y < 2 ^ j
    · have hand := (and_top (y * c) t2.1 t2.2).mpr (t1.mpr hb)
      rw [hand, if_pos hb]
      simp only [if_true]
      have hfin := hf 0 (.inl rfl)
      rw [Int.add_zero, Int.zero_mul, Int.sub_zero] at hfin
      have hgo : ∀ ok' : Bool, ok' = decide (2 * z < 340282366920938463463374607431768211456) → corebankref01_times.l0 k (y * (2 * c)) ok' (i + 1) H L (o1 / 18446744073709551616) (o1 % 18446744073709551616) = some ((val H L * (p * (2 * 2 ^ j) + y)) % 340282366920938463463374607431768211456 / 18446744073709551616, (val H L * (p * (2 * 2 ^ j) + y)) % 340282366920938463463374607431768211456 % 18446744073709551616, decide (val H L * (p * (2 * 2 ^ j) + y) < 340282366920938463463374607431768211456)) := by
        intro ok' hok'
        rw [ih (i + 1) y (2 * c) (2 * p) o1 ok' (by omega) (by omega) (by omega) hc2 hy hb (by omega) (by rw [hz1]; exact ho1') (by rw [hz1]; exact hok') k (by omega), hfin]
      cases hokc : ok with
      | true =>
        rw [if_pos rfl]
        have hzq : z < 340282366920938463463374607431768211456 := by rw [hokc] at hok; exact of_decide_eq_true hok.symm
        exact hgo _ (decide_eq_decide.mpr (by omega))
      | false =>
        rw [if_neg (by decide)]
        have hzq : ¬ z < 340282366920938463463374607431768211456 := by rw [hokc] at hok; exact of_decide_eq_false hok.symm
        exact hgo _ (by rw [decide_eq_false (by omega)])
    · have hand : ¬ Go.bits .and .u64 (y * c) 9223372036854775808 = 0 := fun h => hb (t1.mp ((and_top (y * c) t2.1 t2.2).mp h))
      rw [if_neg hb]
      simp only [hand, if_false]
      have hfin := hf 1 (.inr rfl)
      rw [Int.one_mul] at hfin
      obtain ⟨v, hv⟩ : ∃ v, val H L = v := ⟨_, rfl⟩
      obtain ⟨o2, ho2⟩ : ∃ o2, (o1 + val H L) % 340282366920938463463374607431768211456 = o2 := ⟨_, rfl⟩
      have ho2' : o2 = (2 * z + val H L) % 340282366920938463463374607431768211456 := by omega
      rw [ho2]
      have hgo : ∀ ok' : Bool, ok' = decide (2 * z + val H L < 340282366920938463463374607431768211456) → corebankref01_times.l0 k ((y - 2 ^ j) * (2 * c)) ok' (i + 1) H L (o2 / 18446744073709551616) (o2 % 18446744073709551616) = some ((val H L * (p * (2 * 2 ^ j) + y)) % 340282366920938463463374607431768211456 / 18446744073709551616, (val H L * (p * (2 * 2 ^ j) + y)) % 340282366920938463463374607431768211456 % 18446744073709551616, decide (val H L * (p * (2 * 2 ^ j) + y) < 340282366920938463463374607431768211456)) := by
        intro ok' hok'
        rw [ih (i + 1) (y - 2 ^ j) (2 * c) (2 * p + 1) o2 ok' (by omega) (by omega) (by omega) hc2 (by omega) (by omega) (by omega) (by rw [hz2]; exact ho2') (by rw [hz2]; exact hok') k (by omega), hfin]
      cases hokc : ok with
      | true =>
        rw [if_pos rfl]
        have hzq : z < 340282366920938463463374607431768211456 := by rw [hokc] at hok; exact of_decide_eq_true hok.symm
        by_cases h2o : 2 * o < 340282366920938463463374607431768211456
        · rw [if_pos (decide_eq_true h2o)]
          exact hgo _ (decide_eq_decide.mpr (by omega))
        · rw [if_neg (by rw [decide_eq_false h2o]; decide)]
          exact hgo _ (by rw [decide_eq_false (by omega)])
      | false =>
        rw [if_neg (by decide)]
        have hzq : ¬ z < 340282366920938463463374607431768211456 := by rw [hokc] at hok; exact of_decide_eq_false hok.symm
        exact hgo _ (by rw [decide_eq_false (by omega)])
theorem times_r (k : Nat) (hk : 65 ≤ k) (H L n : Int) (hH : U H) (hL : U L) (hn : U n) :
    corebankref01_times.f k H L n = some ((val H L * n) % 340282366920938463463374607431768211456 / 18446744073709551616, (val H L * n) % 340282366920938463463374607431768211456 % 18446744073709551616, decide (val H L * n < 340282366920938463463374607431768211456)) := by
  unfold corebankref01_times.f
  have := times_l H L hH hL 64 0 n 1 0 0 true (by decide) (by omega) (by omega) (by decide) hn.1 hn.2 (by omega) (by simp) (by simp) k (by omega)
  simp only [Int.mul_one, Int.zero_mul, Int.zero_add, Int.zero_ediv, Int.zero_emod] at this
  exact this
theorem Scale_r (k : Nat) (hk : 65 ≤ k) (h l n : Int) (hh : I h) (hl : U l) (hn : I n) : corebankref01_Scale.f k h l n = out (val h l * n) := by
  unfold corebankref01_Scale.f
  have hb := val_bd h l hh hl
  have ha := ab_nonneg (val h l)
  have ha' := ab_le (val h l) (170141183460469231731687303715884105728) hb.1 (by omega)
  have hn0 := ab_nonneg n
  have hn' := ab_le n (9223372036854775808) hn.1 (by have := hn.2; omega)
  rw [Split_f h l hh hl, size_f n hn]
  simp only [Option.bind_some]
  obtain ⟨hv, hH, hL⟩ := split_val (ab (val h l)) ha (by omega)
  rw [times_r k hk _ _ (ab n) hH hL ⟨hn0, by omega⟩, hv, ab_mul]
  simp only [Option.bind_some]
  have habp := ab_nonneg (val h l * n)
  obtain ⟨p, q, hJ, hJ2⟩ := Join_f (decide (val h l < 0) != decide (n < 0)) (ab (val h l * n) % 340282366920938463463374607431768211456) (by omega) (by omega)
  rw [hJ]
  simp only [Option.bind_some]
  unfold out
  by_cases hQ : ab (val h l * n) < 340282366920938463463374607431768211456
  · rw [decide_eq_true hQ, if_pos rfl]
    have e : ab (val h l * n) % 340282366920938463463374607431768211456 = ab (val h l * n) := by omega
    rw [e] at hJ2 ⊢
    have hsg : sg (decide (val h l < 0) != decide (n < 0)) (ab (val h l * n)) = val h l * n := by
      by_cases hp0 : val h l * n = 0
      · rw [hp0]; unfold sg ab; simp
      · have := sgn_mul _ _ hp0
        unfold sg ab
        by_cases hneg : val h l * n < 0
        · rw [if_pos (this.mp hneg), if_pos hneg, Int.neg_neg]
        · rw [if_neg (fun h => hneg (this.mpr h)), if_neg hneg]
    rw [hsg] at hJ2 ⊢
    by_cases hin : val h l * n < 170141183460469231731687303715884105728 ∧ -170141183460469231731687303715884105728 ≤ val h l * n
    · obtain ⟨e1, e2⟩ := hJ2 hin
      rw [decide_eq_true hin, if_pos rfl, if_pos hin, e1, e2]
    · rw [decide_eq_false hin, if_neg (by decide), if_neg hin]
  · rw [decide_eq_false hQ, if_neg (by decide), if_neg]
    unfold ab at hQ
    split at hQ <;> omega
theorem Of_r (n : Int) (hn : I n) : corebankref01_Of.f n = some (n / 18446744073709551616, n % 18446744073709551616) := by
  unfold corebankref01_Of.f I at *
  by_cases h : n < 0
  · rw [if_pos h, wrapu]; congr 2; omega
  · rw [if_neg h, wrapu]; congr 2; omega
theorem Mul_r (k : Nat) (hk : 65 ≤ k) (a b : Int) (ha : I a) (hb : I b) : corebankref01_Mul.f k a b = some (a * b / 18446744073709551616, a * b % 18446744073709551616) := by
  unfold corebankref01_Mul.f
  rw [Of_r a ha]
  simp only [Option.bind_some]
  obtain ⟨hv, hI, hU⟩ := div_val a (by unfold I at ha; omega)
  rw [Scale_r k hk _ _ b hI hU hb, hv]
  unfold out
  rw [if_pos (prod_in a b ha hb)]
  rfl
end Go.Proofs.Ytkhocaehhflpcaa.Wide
