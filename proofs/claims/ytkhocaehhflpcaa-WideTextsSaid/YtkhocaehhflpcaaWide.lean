/- The wide numbers: what the program's functions and the reference's come to, as integers. -/
import Derived.Test.YtkhocaehhflpcaaPAx0
import Derived.Test.YtkhocaehhflpcaaPAx11
import Derived.Test.YtkhocaehhflpcaaPAx19
import Derived.Test.YtkhocaehhflpcaaPAx3
import Derived.Test.YtkhocaehhflpcaaPAx4
import Derived.Test.YtkhocaehhflpcaaPAx5
import Derived.Test.YtkhocaehhflpcaaWord
namespace Go.Proofs.Ytkhocaehhflpcaa.Wide
open Go.RowKit Go.Proofs.Ytkhocaehhflpcaa.PA Go.Proofs.Ytkhocaehhflpcaa.Uw Go.Proofs.YtkhocaehhflpcaaW.PrintWords Go.Proofs.YtkhocaehhflpcaaW.PrintLast


/-- The number of a pair. -/
def val (h l : Int) : Int := h * 18446744073709551616 + l
theorem adds_eq (x y : Int) (hx : 0 ≤ x) (hy : 0 ≤ y) : add64s x y = (x + y) % 18446744073709551616 := by unfold add64s; omega
theorem addc_eq (x y : Int) (hx : 0 ≤ x) (hy : 0 ≤ y) : add64c x y = (x + y) / 18446744073709551616 := by unfold add64c; omega
theorem val_div (h l : Int) (hl : U l) : val h l / 18446744073709551616 = h := by unfold val U at *; omega
theorem val_mod (h l : Int) (hl : U l) : val h l % 18446744073709551616 = l := by unfold val U at *; omega
theorem val_bd (h l : Int) (hh : I h) (hl : U l) : -170141183460469231731687303715884105728 ≤ val h l ∧ val h l < 170141183460469231731687303715884105728 := by unfold val I U at *; omega
theorem nval_bd (h l : Int) (hh : U h) (hl : U l) : 0 ≤ val h l ∧ val h l < 340282366920938463463374607431768211456 := by unfold val U at *; omega
theorem negate_f (h l : Int) (hh : I h) (hl : U l) (hne : val h l ≠ -170141183460469231731687303715884105728) : wide_negate.f h l = some ((-val h l) / 18446744073709551616, (-val h l) % 18446744073709551616) := by
  obtain ⟨h1, h2⟩ := hh
  obtain ⟨l1, l2⟩ := hl
  unfold wide_negate.f
  rw [xor_i64 h ⟨h1, h2⟩, xor_max l l1 l2, adds_eq _ _ (by omega) (by omega), addc_eq _ _ (by omega) (by omega), wrapu, wrapu]
  unfold val wrap64 at *
  congr 2 <;> omega
theorem negate_min : wide_negate.f (-9223372036854775808) 0 = some (-9223372036854775808, 0) := by
  unfold wide_negate.f
  rw [xor_i64 (-9223372036854775808) ⟨by omega, by omega⟩, xor_max 0 (by omega) (by omega), adds_eq _ _ (by omega) (by omega), addc_eq _ _ (by omega) (by omega), wrapu, wrapu]
  unfold wrap64
  rfl
/-- The absolute value. -/
def ab (v : Int) : Int := if v < 0 then -v else v
theorem absolute_f (h l : Int) (hh : I h) (hl : U l) : wide_absolute.f h l = some (ab (val h l) / 18446744073709551616, ab (val h l) % 18446744073709551616) := by
  unfold wide_absolute.f ab
  have hb := val_bd h l hh hl
  by_cases h0 : h < 0
  · have hv : val h l < 0 := by unfold val U at *; omega
    rw [if_pos h0, if_pos hv]
    by_cases hm : val h l = -170141183460469231731687303715884105728
    · have e1 : h = -9223372036854775808 := by unfold val U I at *; omega
      have e2 : l = 0 := by unfold val U I at *; omega
      subst e1; subst e2
      rw [negate_min]
      rfl
    · rw [negate_f h l hh hl hm]
      simp only [Option.bind_some]
      rw [wrapu]
      congr 2
      omega
  · have hv : ¬ val h l < 0 := by unfold val U at *; omega
    rw [if_neg h0, if_neg hv, val_div h l hl, val_mod h l hl, wu h (by omega) (by unfold I at hh; omega)]
theorem abs_f (n : Int) (hn : I n) : wide_abs.f n = some (ab n) := by
  unfold wide_abs.f ab I at *
  by_cases h : n < 0
  · rw [if_pos h, if_pos h, wrapu, wrapu]; congr 1; omega
  · rw [if_neg h, if_neg h, wu n (by omega) (by omega)]
theorem ab_nonneg (v : Int) : 0 ≤ ab v := by unfold ab; split <;> omega
theorem ab_le (v m : Int) (h : -m ≤ v) (h' : v ≤ m) : ab v ≤ m := by unfold ab; split <;> omega
/-- The school's way with halves. -/
theorem mul64_f (x y : Int) (hx : U x) (hy : U y) : bits_Mul64.f x y = some (x * y / 18446744073709551616, x * y % 18446744073709551616) := by
  obtain ⟨x0, x1⟩ := hx
  obtain ⟨y0, y1⟩ := hy
  unfold bits_Mul64.f
  rw [and_mask y y0 y1, and_mask x x0 x1]
  obtain ⟨a, ha⟩ : ∃ a, x / 4294967296 = a := ⟨_, rfl⟩
  obtain ⟨b, hb⟩ : ∃ b, x % 4294967296 = b := ⟨_, rfl⟩
  obtain ⟨c, hc⟩ : ∃ c, y / 4294967296 = c := ⟨_, rfl⟩
  obtain ⟨d, hd⟩ : ∃ d, y % 4294967296 = d := ⟨_, rfl⟩
  rw [ha, hb, hc, hd]
  have ha0 : 0 ≤ a := by omega
  have ha1 : a ≤ 4294967295 := by omega
  have hb0 : 0 ≤ b := by omega
  have hb1 : b ≤ 4294967295 := by omega
  have hc0 : 0 ≤ c := by omega
  have hc1 : c ≤ 4294967295 := by omega
  have hd0 : 0 ≤ d := by omega
  have hd1 : d ≤ 4294967295 := by omega
  have hxy : x * y = (a * c) * 18446744073709551616 + (a * d) * 4294967296 + (b * c) * 4294967296 + b * d := by
    have e1 : x = a * 4294967296 + b := by omega
    have e2 : y = c * 4294967296 + d := by omega
    rw [e1, e2]
    simp only [Int.add_mul, Int.mul_add]
    have m1 : a * 4294967296 * (c * 4294967296) = a * c * 18446744073709551616 := by rw [Int.mul_assoc, Int.mul_left_comm (4294967296) c (4294967296), ← Int.mul_assoc]; rfl
    have m2 : a * 4294967296 * d = a * d * 4294967296 := by rw [Int.mul_assoc, Int.mul_comm (4294967296) d, ← Int.mul_assoc]
    have m3 : b * (c * 4294967296) = b * c * 4294967296 := by rw [← Int.mul_assoc]
    rw [m1, m2, m3]; omega
  have pb : ∀ p q : Int, 0 ≤ p → p ≤ 4294967295 → 0 ≤ q → q ≤ 4294967295 → 0 ≤ p * q ∧ p * q ≤ 18446744065119617025 := by
    intro p q p0 p1 q0 q1
    refine ⟨Int.mul_nonneg p0 q0, ?_⟩
    calc p * q ≤ 4294967295 * q := Int.mul_le_mul_of_nonneg_right p1 q0
      _ ≤ 4294967295 * 4294967295 := Int.mul_le_mul_of_nonneg_left q1 (by omega)
      _ = 18446744065119617025 := by decide
  have h1 := pb a c ha0 ha1 hc0 hc1
  have h2 := pb a d ha0 ha1 hd0 hd1
  have h3 := pb b c hb0 hb1 hc0 hc1
  have h4 := pb b d hb0 hb1 hd0 hd1
  rw [wrapu (x * y), hxy]
  clear hxy pb
  generalize a * c = p at *
  generalize a * d = q at *
  generalize b * c = r at *
  generalize b * d = s at *
  clear ha hb hc hd ha0 ha1 hb0 hb1 hc0 hc1 hd0 hd1 x0 x1 y0 y1
  rw [wu s (by omega) (by omega), wu q (by omega) (by omega), wu p (by omega) (by omega), wu r (by omega) (by omega)]
  rw [wu (q + s / 4294967296) (by omega) (by omega), and_mask _ (by omega) (by omega), wu (_ + r) (by omega) (by omega), wu (p + _) (by omega) (by omega), wu (p + _ + _) (by omega) (by omega)]
  congr 2
  omega
/-- A size times n, and more. -/
theorem times_f (H L n m : Int) (hH : U H) (hL : U L) (hn : U n) (hm : U m) :
    wide_size_times.f H L n m = some ((val H L * n + m) / 18446744073709551616 % 18446744073709551616, (val H L * n + m) % 18446744073709551616, decide (val H L * n + m < 340282366920938463463374607431768211456)) := by
  unfold wide_size_times.f
  rw [mul64_f L n hL hn, mul64_f H n hH hn]
  simp only [Option.bind_some]
  have hv : val H L * n = H * n * 18446744073709551616 + L * n := by
    unfold val; rw [Int.add_mul, Int.mul_assoc, Int.mul_comm (18446744073709551616) n, ← Int.mul_assoc]
  have pb : ∀ p q : Int, U p → U q → 0 ≤ p * q ∧ p * q ≤ 340282366920938463426481119284349108225 := by
    intro p q hp hq
    obtain ⟨p0, p1⟩ := hp
    obtain ⟨q0, q1⟩ := hq
    refine ⟨Int.mul_nonneg p0 q0, ?_⟩
    calc p * q ≤ 18446744073709551615 * q := Int.mul_le_mul_of_nonneg_right (by omega) q0
      _ ≤ 18446744073709551615 * 18446744073709551615 := Int.mul_le_mul_of_nonneg_left (by omega) (by omega)
      _ = 340282366920938463426481119284349108225 := by decide
  have h1 := pb H n hH hn
  have h2 := pb L n hL hn
  rw [hv]
  clear hv pb
  obtain ⟨m0, m1⟩ := hm
  generalize H * n = p at *
  generalize L * n = q at *
  rw [adds_eq (q % 18446744073709551616) m (by omega) m0, addc_eq (q % 18446744073709551616) m (by omega) m0, wu (q / 18446744073709551616 + _) (by omega) (by omega)]
  rw [adds_eq _ _ (by omega) (by omega), addc_eq _ _ (by omega) (by omega)]
  by_cases h : p / 18446744073709551616 = 0
  · rw [if_pos h]
    have e1 : (p % 18446744073709551616 + (q / 18446744073709551616 + (q % 18446744073709551616 + m) / 18446744073709551616)) % 18446744073709551616 = (p * 18446744073709551616 + q + m) / 18446744073709551616 % 18446744073709551616 := by omega
    have e2 : (q % 18446744073709551616 + m) % 18446744073709551616 = (p * 18446744073709551616 + q + m) % 18446744073709551616 := by omega
    have e3 : ((p % 18446744073709551616 + (q / 18446744073709551616 + (q % 18446744073709551616 + m) / 18446744073709551616)) / 18446744073709551616 == 0) = decide (p * 18446744073709551616 + q + m < 340282366920938463463374607431768211456) := by
      rw [Bool.eq_iff_iff, beq_iff_eq, decide_eq_true_iff]; omega
    rw [e1, e2, e3]
  · rw [if_neg h]
    have e1 : (p % 18446744073709551616 + (q / 18446744073709551616 + (q % 18446744073709551616 + m) / 18446744073709551616)) % 18446744073709551616 = (p * 18446744073709551616 + q + m) / 18446744073709551616 % 18446744073709551616 := by omega
    have e2 : (q % 18446744073709551616 + m) % 18446744073709551616 = (p * 18446744073709551616 + q + m) % 18446744073709551616 := by omega
    rw [e1, e2, decide_eq_false (by omega)]
theorem split_val (m : Int) (h0 : 0 ≤ m) (h1 : m < 340282366920938463463374607431768211456) : val (m / 18446744073709551616) (m % 18446744073709551616) = m ∧ U (m / 18446744073709551616) ∧ U (m % 18446744073709551616) := by unfold val U; omega
/-- The number with a size and a sign. -/
def sg (minus : Bool) (m : Int) : Int := if minus = true then -m else m
theorem signed_f (k : Nat) (hk : 1 ≤ k) (m : Int) (minus : Bool) (h0 : 0 ≤ m) (h1 : m < 340282366920938463463374607431768211456) :
    wide_size_signed.f k (m / 18446744073709551616) (m % 18446744073709551616) minus = if sg minus m < 170141183460469231731687303715884105728 ∧ -170141183460469231731687303715884105728 ≤ sg minus m then some (sg minus m / 18446744073709551616, sg minus m % 18446744073709551616, 0) else some (0, 0, 6) := by
  obtain ⟨k, rfl⟩ : ∃ j, k = j + 1 := ⟨k - 1, by omega⟩
  unfold wide_size_signed.f sg
  obtain ⟨hv, hH, hL⟩ := split_val m h0 h1
  have ht : ∀ b : Bool, wide_size_signed.j0 (k + 1) b true (m / 18446744073709551616) (m % 18446744073709551616) = some (0, 0, 6) := by intro b; simp [wide_size_signed.j0]
  have hf : m / 18446744073709551616 < 9223372036854775808 → wide_size_signed.j0 (k + 1) minus false (m / 18446744073709551616) (m % 18446744073709551616) = if (if minus = true then -m else m) < 170141183460469231731687303715884105728 ∧ -170141183460469231731687303715884105728 ≤ (if minus = true then -m else m) then some ((if minus = true then -m else m) / 18446744073709551616, (if minus = true then -m else m) % 18446744073709551616, 0) else some (0, 0, 6) := by
    intro hlt
    simp only [wide_size_signed.j0]
    rw [if_neg (by decide), w64 (n := m / 18446744073709551616) (by omega) (by omega)]
    cases minus with
    | true =>
      simp only [if_true]
      rw [negate_f _ _ ⟨by omega, by omega⟩ hL (by rw [hv]; omega), hv]
      simp only [Option.bind_some]
      rw [if_pos (by omega)]
    | false =>
      simp only [Bool.false_eq_true, if_false]
      rw [if_pos (by omega)]
  by_cases g1 : m / 18446744073709551616 > 9223372036854775808
  · rw [if_pos g1, ht]
    cases minus with
    | true => rw [if_neg]; simp only [if_true]; omega
    | false => simp only [Bool.false_eq_true, if_false]; rw [if_neg]; omega
  · rw [if_neg g1]
    by_cases g2 : m / 18446744073709551616 = 9223372036854775808
    · rw [if_pos g2]
      cases minus with
      | true =>
        simp only [if_true]
        by_cases g3 : m % 18446744073709551616 > 0
        · rw [decide_eq_true g3, ht, if_neg (by omega)]
        · rw [decide_eq_false g3]
          have e : m = 170141183460469231731687303715884105728 := by omega
          subst e
          simp only [wide_size_signed.j0]
          rw [if_neg (by decide), if_pos trivial, show wrap64 (170141183460469231731687303715884105728 / 18446744073709551616) = -9223372036854775808 from by unfold wrap64; omega, show (170141183460469231731687303715884105728 : Int) % 18446744073709551616 = 0 from rfl, negate_min]
          rfl
      | false =>
        simp only [Bool.false_eq_true, if_false]
        rw [ht, if_neg]; omega
    · rw [if_neg g2, hf (by omega)]
/-- A wide number as Go has it, or the error. -/
def out (v : Int) : Option (Int × Int × Int) := if v < 170141183460469231731687303715884105728 ∧ -170141183460469231731687303715884105728 ≤ v then some (v / 18446744073709551616, v % 18446744073709551616, 0) else some (0, 0, 6)
theorem ab_mul (v n : Int) : ab v * ab n = ab (v * n) := by
  unfold ab
  by_cases h1 : v < 0
  · rw [if_pos h1]
    by_cases h2 : n < 0
    · rw [if_pos h2]
      have := Int.mul_pos_of_neg_of_neg h1 h2
      rw [if_neg (by omega), Int.neg_mul_neg]
    · rw [if_neg h2, Int.neg_mul]
      by_cases h3 : n = 0
      · subst h3; simp
      · have := Int.mul_neg_of_neg_of_pos h1 (by omega : 0 < n)
        rw [if_pos this]
  · rw [if_neg h1]
    by_cases h2 : n < 0
    · rw [if_pos h2, Int.mul_neg]
      by_cases h3 : v = 0
      · subst h3; simp
      · have := Int.mul_neg_of_pos_of_neg (by omega : 0 < v) h2
        rw [if_pos this]
    · rw [if_neg h2]
      have := Int.mul_nonneg (by omega : 0 ≤ v) (by omega : 0 ≤ n)
      rw [if_neg (by omega)]
theorem sgn_mul (v n : Int) (h : v * n ≠ 0) : (v * n < 0) ↔ (decide (v < 0) != decide (n < 0)) = true := by
  have hv : v ≠ 0 := by intro e; subst e; simp at h
  have hn : n ≠ 0 := by intro e; subst e; simp at h
  by_cases h1 : v < 0
  · by_cases h2 : n < 0
    · have := Int.mul_pos_of_neg_of_neg h1 h2
      simp [h1, h2]; omega
    · have := Int.mul_neg_of_neg_of_pos h1 (by omega : 0 < n)
      simp [h1, h2]; omega
  · by_cases h2 : n < 0
    · have := Int.mul_neg_of_pos_of_neg (by omega : 0 < v) h2
      simp [h1, h2]; omega
    · have := Int.mul_nonneg (by omega : 0 ≤ v) (by omega : 0 ≤ n)
      simp [h1, h2]; omega
theorem prod_bd (v n : Int) (hv : -170141183460469231731687303715884105728 ≤ v ∧ v ≤ 170141183460469231731687303715884105728) (hn : I n) : -1569275433846670190958947355801916604025588861116008628224 ≤ v * n ∧ v * n ≤ 1569275433846670190958947355801916604025588861116008628224 := by
  have h1 := ab_le v (170141183460469231731687303715884105728) hv.1 hv.2
  have h2 := ab_le n (9223372036854775808) hn.1 (by have := hn.2; omega)
  have h3 := ab_nonneg v
  have h4 := ab_nonneg n
  have h5 : ab v * ab n ≤ 170141183460469231731687303715884105728 * 9223372036854775808 := by
    calc ab v * ab n ≤ 170141183460469231731687303715884105728 * ab n := Int.mul_le_mul_of_nonneg_right h1 h4
      _ ≤ 170141183460469231731687303715884105728 * 9223372036854775808 := Int.mul_le_mul_of_nonneg_left h2 (by omega)
  rw [ab_mul] at h5
  unfold ab at h5
  have e : (170141183460469231731687303715884105728 * 9223372036854775808 : Int) = 1569275433846670190958947355801916604025588861116008628224 := by decide
  rw [e] at h5
  split at h5 <;> omega
theorem Scale_f (k : Nat) (hk : 1 ≤ k) (h l n : Int) (hh : I h) (hl : U l) (hn : I n) : wide_Scale.f k h l n = out (val h l * n) := by
  unfold wide_Scale.f
  have hb := val_bd h l hh hl
  have hsgn : (h < 0) ↔ (val h l < 0) := by unfold val U at *; omega
  have ha := ab_nonneg (val h l)
  have ha' := ab_le (val h l) (170141183460469231731687303715884105728) hb.1 (by omega)
  have hn0 := ab_nonneg n
  have hn' := ab_le n (9223372036854775808) hn.1 (by have := hn.2; omega)
  rw [absolute_f h l hh hl, abs_f n hn]
  simp only [Option.bind_some]
  obtain ⟨hv, hH, hL⟩ := split_val (ab (val h l)) ha (by omega)
  rw [times_f _ _ _ 0 hH hL ⟨hn0, by omega⟩ ⟨by omega, by omega⟩, hv, Int.add_zero, ab_mul]
  simp only [Option.bind_some]
  have hp := prod_bd (val h l) n ⟨hb.1, by omega⟩ hn
  generalize hpp : val h l * n = p at *
  have habp := ab_nonneg p
  unfold out
  by_cases hQ : ab p < 340282366920938463463374607431768211456
  · rw [decide_eq_true hQ]
    simp only [if_true]
    rw [show (ab p / 18446744073709551616 % 18446744073709551616) = ab p / 18446744073709551616 from by omega]
    have key : ∀ minus : Bool, sg minus (ab p) = p → ((wide_size_signed.f k (ab p / 18446744073709551616) (ab p % 18446744073709551616) minus).bind fun bt => (some (bt.1, bt.2.1, bt.2.2))) = if p < 170141183460469231731687303715884105728 ∧ -170141183460469231731687303715884105728 ≤ p then some (p / 18446744073709551616, p % 18446744073709551616, 0) else some (0, 0, 6) := by
      intro minus hs
      rw [signed_f k hk (ab p) minus habp hQ, hs]
      split <;> rfl
    have hds : (decide (h < 0)) = decide (val h l < 0) := decide_eq_decide.mpr hsgn
    rw [hds]
    by_cases hd : (decide (val h l < 0) != decide (n < 0)) = true
    · rw [if_pos hd]
      apply key
      by_cases hp0 : p = 0
      · subst hp0; decide
      · have hneg : p < 0 := by rw [← hpp] at hp0 ⊢; exact (sgn_mul _ _ hp0).mpr hd
        have e : (!((ab p / 18446744073709551616) == 0) || (!((ab p % 18446744073709551616) == 0))) = true := by
          unfold ab
          rw [if_pos hneg]
          by_cases z : (-p) / 18446744073709551616 = 0
          · have z2 : ¬ (-p) % 18446744073709551616 = 0 := by omega
            simp [z2]
          · simp [z]
        rw [e]
        unfold sg ab; simp [hneg]
    · rw [if_neg hd]
      apply key
      have hnn : ¬ p < 0 := by
        intro hlt
        rw [← hpp] at hlt
        exact hd ((sgn_mul _ _ (by omega)).mp hlt)
      unfold sg ab; simp [hnn]
  · rw [decide_eq_false hQ, if_neg (by decide), if_neg]
    unfold ab at hQ
    split at hQ <;> omega
theorem Mul_f (a b : Int) (ha : I a) (hb : I b) : wide_Mul.f a b = some (a * b / 18446744073709551616, a * b % 18446744073709551616) := by
  unfold wide_Mul.f
  have h1 := ab_nonneg a
  have h2 := ab_nonneg b
  have h3 := ab_le a (9223372036854775808) ha.1 (by have := ha.2; omega)
  have h4 := ab_le b (9223372036854775808) hb.1 (by have := hb.2; omega)
  rw [abs_f a ha, abs_f b hb]
  simp only [Option.bind_some]
  rw [mul64_f _ _ ⟨h1, by omega⟩ ⟨h2, by omega⟩]
  simp only [Option.bind_some]
  have h5 : ab a * ab b ≤ 9223372036854775808 * 9223372036854775808 := by
    calc ab a * ab b ≤ 9223372036854775808 * ab b := Int.mul_le_mul_of_nonneg_right h3 h2
      _ ≤ 9223372036854775808 * 9223372036854775808 := Int.mul_le_mul_of_nonneg_left h4 (by omega)
  rw [show (9223372036854775808 * 9223372036854775808 : Int) = 85070591730234615865843651857942052864 from by decide] at h5
  rw [ab_mul] at *
  have h6 := ab_nonneg (a * b)
  generalize hp : a * b = p at *
  rw [w64 (n := ab p / 18446744073709551616) (by omega) (by omega)]
  obtain ⟨hv, hH, hL⟩ := split_val (ab p) h6 (by omega)
  by_cases hd : (decide (a < 0) != decide (b < 0)) = true
  · rw [if_pos hd]
    have e : ab p = -p := by
      by_cases hp0 : p = 0
      · subst hp0; rfl
      · have hneg : p < 0 := by rw [← hp] at hp0 ⊢; exact (sgn_mul _ _ hp0).mpr hd
        unfold ab; rw [if_pos hneg]
    rw [negate_f _ _ ⟨by omega, by omega⟩ hL (by rw [hv]; omega), hv]
    simp only [Option.bind_some]
    rw [e, Int.neg_neg]
  · rw [if_neg hd]
    have hnn : ¬ p < 0 := by
      intro hlt
      rw [← hp] at hlt
      exact hd ((sgn_mul _ _ (by omega)).mp hlt)
    have e : ab p = p := by unfold ab; rw [if_neg hnn]
    rw [e]
theorem div_val (v : Int) (h : v < 170141183460469231731687303715884105728 ∧ -170141183460469231731687303715884105728 ≤ v) : val (v / 18446744073709551616) (v % 18446744073709551616) = v ∧ I (v / 18446744073709551616) ∧ U (v % 18446744073709551616) := by unfold val I U; omega
theorem prod_in (a b : Int) (ha : I a) (hb : I b) : a * b < 170141183460469231731687303715884105728 ∧ -170141183460469231731687303715884105728 ≤ a * b := by
  have h1 := ab_nonneg a
  have h2 := ab_nonneg b
  have h3 := ab_le a (9223372036854775808) ha.1 (by have := ha.2; omega)
  have h4 := ab_le b (9223372036854775808) hb.1 (by have := hb.2; omega)
  have h5 : ab a * ab b ≤ 9223372036854775808 * 9223372036854775808 := by
    calc ab a * ab b ≤ 9223372036854775808 * ab b := Int.mul_le_mul_of_nonneg_right h3 h2
      _ ≤ 9223372036854775808 * 9223372036854775808 := Int.mul_le_mul_of_nonneg_left h4 (by omega)
  rw [show (9223372036854775808 * 9223372036854775808 : Int) = 85070591730234615865843651857942052864 from by decide, ab_mul] at h5
  unfold ab at h5
  split at h5 <;> omega
theorem sg_ab (v : Int) : sg (decide (v < 0)) (ab v) = v := by unfold sg ab; by_cases h : v < 0 <;> simp [h]
end Go.Proofs.Ytkhocaehhflpcaa.Wide
