/- Quotients, sums and differences of wide numbers. -/
import Derived.Test.YtkhocaehhflpcaaPAx4
import Derived.Test.YtkhocaehhflpcaaPAx5
import Derived.Test.YtkhocaehhflpcaaPAx6
import Derived.Test.YtkhocaehhflpcaaDiv
namespace Go.Proofs.Ytkhocaehhflpcaa.Wide
open Go.RowKit Go.Proofs.Ytkhocaehhflpcaa.PA Go.Proofs.Ytkhocaehhflpcaa.Uw Go.Proofs.YtkhocaehhflpcaaW.PrintWords Go.Proofs.YtkhocaehhflpcaaW.PrintLast Go.Proofs.YtkhocaehhflpcaaW.PrintMore

theorem divide_f (k : Nat) (hk : 20 ≤ k) (m n : Int) (h0 : 0 ≤ m) (h1 : m < 340282366920938463463374607431768211456) (hn0 : 0 < n) (hn1 : n < 18446744073709551616) :
    wide_size_divide.f k (m / 18446744073709551616) (m % 18446744073709551616) n = some ((m / n) / 18446744073709551616, (m / n) % 18446744073709551616, m % n) := by
  unfold wide_size_divide.f
  obtain ⟨hv, hH, hL⟩ := split_val m h0 h1
  rw [if_neg (by omega)]
  have e1 : Int.tmod (m / 18446744073709551616) n = (m / 18446744073709551616) % n := Int.tmod_eq_emod_of_nonneg hH.1
  have e2 : Int.tdiv (m / 18446744073709551616) n = (m / 18446744073709551616) / n := Int.tdiv_eq_ediv_of_nonneg hH.1
  have b1 := Int.emod_nonneg (m / 18446744073709551616) (by omega : n ≠ 0)
  have b2 := Int.emod_lt_of_pos (m / 18446744073709551616) hn0
  have b3 := Int.ediv_nonneg hH.1 (by omega : 0 ≤ n)
  have b4 := Int.ediv_le_self n hH.1
  rw [e1, e2, div64_f k hk _ _ n b1 b2 hL hn1, wu _ b3 (by have := hH.2; omega)]
  simp only [Option.bind_some]
  -- m = ((H / n) * B + q) * n + r
  obtain ⟨a, ha⟩ : ∃ a, (m / 18446744073709551616) / n = a := ⟨_, rfl⟩
  obtain ⟨b, hb⟩ : ∃ b, (m / 18446744073709551616) % n = b := ⟨_, rfl⟩
  rw [ha, hb]
  rw [hb] at b1 b2
  have hab : m / 18446744073709551616 = n * a + b := by rw [← ha, ← hb]; exact (Int.mul_ediv_add_emod _ _).symm
  have hw0 : 0 ≤ val b (m % 18446744073709551616) := by unfold val; have := hL.1; omega
  have hw1 : val b (m % 18446744073709551616) < n * 18446744073709551616 := by
    have : (b + 1) * 18446744073709551616 ≤ n * 18446744073709551616 := Int.mul_le_mul_of_nonneg_right (by omega) (by omega)
    have := hL.2
    unfold val; omega
  have q0 := Int.ediv_nonneg hw0 (by omega : 0 ≤ n)
  have q1 : val b (m % 18446744073709551616) / n < 18446744073709551616 := Int.ediv_lt_of_lt_mul hn0 (by rw [Int.mul_comm]; exact hw1)
  have r0 := Int.emod_nonneg (val b (m % 18446744073709551616)) (by omega : n ≠ 0)
  have r1 := Int.emod_lt_of_pos (val b (m % 18446744073709551616)) hn0
  have hw : val b (m % 18446744073709551616) = n * (val b (m % 18446744073709551616) / n) + val b (m % 18446744073709551616) % n := (Int.mul_ediv_add_emod _ _).symm
  obtain ⟨q, hq⟩ : ∃ q, val b (m % 18446744073709551616) / n = q := ⟨_, rfl⟩
  obtain ⟨r, hr⟩ : ∃ r, val b (m % 18446744073709551616) % n = r := ⟨_, rfl⟩
  rw [hq, hr] at hw
  rw [hq] at q0 q1
  rw [hr] at r0 r1
  rw [hq, hr]
  have hm : r + n * (a * 18446744073709551616 + q) = m := by
    have e : n * (a * 18446744073709551616 + q) = n * a * 18446744073709551616 + n * q := by rw [Int.mul_add, ← Int.mul_assoc]
    rw [e]
    unfold val at hw
    generalize n * a = x at *
    generalize n * q = z at *
    omega
  obtain ⟨u1, u2⟩ := (Int.ediv_emod_unique (a := m) (b := n) (r := r) (q := a * 18446744073709551616 + q) hn0).mpr ⟨hm, r0, r1⟩
  rw [u1, u2, show (a * 18446744073709551616 + q) / 18446744073709551616 = a from by omega, show (a * 18446744073709551616 + q) % 18446744073709551616 = q from by omega]
/-- The quotient and the remainder of a number, out of those of its size. -/
theorem floor_neg (v n : Int) (hn : 0 < n) (hr : (-v) % n = 0) : v / n = -((-v) / n) ∧ v % n = 0 := by
  have h := Int.mul_ediv_add_emod (-v) n
  have := (Int.ediv_emod_unique (a := v) (b := n) (r := 0) (q := -((-v) / n)) hn).mpr ⟨by rw [Int.mul_neg]; omega, by omega, hn⟩
  exact this
theorem floor_neg' (v n : Int) (hn : 0 < n) (hr : 0 < (-v) % n) : v / n = -((-v) / n + 1) ∧ v % n = n - (-v) % n := by
  have h := Int.mul_ediv_add_emod (-v) n
  have h2 := Int.emod_lt_of_pos (-v) hn
  have := (Int.ediv_emod_unique (a := v) (b := n) (r := n - (-v) % n) (q := -((-v) / n + 1)) hn).mpr ⟨by rw [Int.mul_neg, Int.mul_add, Int.mul_one]; omega, by omega, by omega⟩
  exact this
theorem quo_bd (m n : Int) (h0 : 0 ≤ m) (hn : 0 < n) : 0 ≤ m / n ∧ m / n ≤ m := ⟨Int.ediv_nonneg h0 (by omega), Int.ediv_le_self n h0⟩
theorem quo_big (m n : Int) (h0 : 0 ≤ m) (h1 : m ≤ 170141183460469231731687303715884105728) (hn : 0 < n) (hr : 0 < m % n) : m / n + 1 ≤ 170141183460469231731687303715884105728 := by
  have h := Int.mul_ediv_add_emod m n
  by_cases hn1 : n = 1
  · subst hn1; rw [Int.emod_one] at hr; omega
  · have hq := Int.ediv_nonneg h0 (by omega : 0 ≤ n)
    have : 2 * (m / n) ≤ n * (m / n) := Int.mul_le_mul_of_nonneg_right (by omega) hq
    omega
theorem Div_f (k : Nat) (hk : 30 ≤ k) (h l n : Int) (hh : I h) (hl : U l) (hn : I n) :
    wide_Div.f k h l n = if n < 1 then some (0, 0, 0, 1) else some ((val h l / n) / 18446744073709551616, (val h l / n) % 18446744073709551616, val h l % n, 0) := by
  unfold wide_Div.f
  by_cases hn1 : n < 1
  · rw [if_pos hn1, if_pos hn1]
  rw [if_neg hn1, if_neg hn1]
  have hn0 : 0 < n := by omega
  have hnT := hn.2
  have hb := val_bd h l hh hl
  have hsgn : (h < 0) ↔ (val h l < 0) := by unfold val U at *; omega
  rw [absolute_f h l hh hl, wu n (by omega) (by omega)]
  simp only [Option.bind_some]
  have a0 := ab_nonneg (val h l)
  have a1 := ab_le (val h l) (170141183460469231731687303715884105728) hb.1 (by omega)
  rw [divide_f k (by omega) _ n a0 (by omega) hn0 (by omega)]
  simp only [Option.bind_some]
  generalize hvv : val h l = v at *
  obtain ⟨k, rfl⟩ : ∃ m, k = m + 1 := ⟨k - 1, by omega⟩
  have hq := quo_bd (ab v) n a0 hn0
  have hr0 := Int.emod_nonneg (ab v) (by omega : n ≠ 0)
  have hr1 := Int.emod_lt_of_pos (ab v) hn0
  have hsn : ∀ (m : Int) (b : Bool), 0 ≤ m → m < 340282366920938463463374607431768211456 → sg b m < 170141183460469231731687303715884105728 → -170141183460469231731687303715884105728 ≤ sg b m → wide_size_signed.f k (m / 18446744073709551616) (m % 18446744073709551616) b = some (sg b m / 18446744073709551616, sg b m % 18446744073709551616, 0) := by
    intro m b h0 h1 h2 h3
    rw [signed_f k (by omega) m b h0 h1, if_pos ⟨h2, h3⟩]
  have hnz : ∀ m : Int, 0 ≤ m → m < 340282366920938463463374607431768211456 → (!(m / 18446744073709551616 == 0) || (!(m % 18446744073709551616 == 0))) = decide (m ≠ 0) := by
    intro m h0 h1
    rw [Bool.eq_iff_iff]
    simp only [Bool.or_eq_true, Bool.not_eq_true', beq_eq_false_iff_ne, decide_eq_true_iff]
    omega
  by_cases hv : v < 0
  · have hab : ab v = -v := by unfold ab; rw [if_pos hv]
    rw [if_pos (hsgn.mpr hv)]
    by_cases hr : ab v % n > 0
    · obtain ⟨f1, f2⟩ := floor_neg' v n hn0 (by rw [← hab]; exact hr)
      rw [← hab] at f1 f2
      have hbig := quo_big (ab v) n a0 a1 hn0 hr
      rw [decide_eq_true hr]
      simp only [wide_Div.j0, if_true]
      obtain ⟨hvq, hHq, hLq⟩ := split_val (ab v / n) hq.1 (by omega)
      rw [times_f _ _ 1 1 hHq hLq ⟨by omega, by omega⟩ ⟨by omega, by omega⟩, hvq, Int.mul_one]
      simp only [Option.bind_some]
      rw [show (ab v / n + 1) / 18446744073709551616 % 18446744073709551616 = (ab v / n + 1) / 18446744073709551616 from by omega, if_pos (hsgn.mpr hv), hnz _ (by omega) (by omega), decide_eq_true (by omega), hsn (ab v / n + 1) true (by omega) (by omega) (by simp only [sg, if_true]; omega) (by simp only [sg, if_true]; omega)]
      simp only [Option.bind_some, sg, if_true]
      rw [wu n (by omega) (by omega), wu _ (by omega) (by omega), w64 (by omega) (by omega), ← f1, ← f2]
    · have hr' : ab v % n = 0 := by omega
      obtain ⟨f1, f2⟩ := floor_neg v n hn0 (by rw [← hab]; exact hr')
      rw [← hab] at f1
      rw [decide_eq_false hr]
      simp only [wide_Div.j0]
      rw [if_neg (by decide), if_pos (hsgn.mpr hv), hnz _ hq.1 (by omega)]
      by_cases hz : ab v / n = 0
      · rw [hz, decide_eq_false (by simp), show ((0 : Int) / 18446744073709551616) = 0 from rfl, show ((0 : Int) % 18446744073709551616) = 0 from rfl]
        have := hsn 0 false (by omega) (by omega) (by decide) (by decide)
        rw [show ((0 : Int) / 18446744073709551616) = 0 from rfl, show ((0 : Int) % 18446744073709551616) = 0 from rfl] at this
        rw [this]
        simp only [Option.bind_some]
        rw [f1, f2, hr', hz, w64 (n := 0) (by omega) (by omega)]
        rfl
      · rw [decide_eq_true hz, hsn (ab v / n) true hq.1 (by omega) (by simp only [sg, if_true]; omega) (by simp only [sg, if_true]; omega)]
        simp only [Option.bind_some, sg, if_true]
        rw [hr', f1, f2, w64 (n := 0) (by omega) (by omega)]
  · have hab : ab v = v := by unfold ab; rw [if_neg hv]
    rw [if_neg (fun h => hv (hsgn.mp h))]
    simp only [wide_Div.j0]
    rw [if_neg (by decide), if_neg (fun h => hv (hsgn.mp h)), hsn (ab v / n) false hq.1 (by omega) (by simp only [sg]; rw [if_neg (by decide)]; omega) (by simp only [sg]; rw [if_neg (by decide)]; omega)]
    simp only [Option.bind_some, sg]
    rw [if_neg (by decide), w64 (by omega) (by omega), hab]
end Go.Proofs.Ytkhocaehhflpcaa.Wide
