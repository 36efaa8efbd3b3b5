/- The program's sums, differences and conversions. -/
import Derived.Test.YtkhocaehhflpcaaPAx0
import Derived.Test.YtkhocaehhflpcaaPAx11
import Derived.Test.YtkhocaehhflpcaaPAx25
import Derived.Test.YtkhocaehhflpcaaWide
namespace Go.Proofs.Ytkhocaehhflpcaa.Wide
open Go.RowKit Go.Proofs.Ytkhocaehhflpcaa.PA Go.Proofs.Ytkhocaehhflpcaa.Uw Go.Proofs.YtkhocaehhflpcaaW.PrintWords Go.Proofs.YtkhocaehhflpcaaW.PrintLast

theorem wrap_add (x y : Int) : wrap64 (wrap64 x + wrap64 y) = wrap64 (x + y) := by unfold wrap64; omega
theorem wrap_sub (x y : Int) : wrap64 (wrap64 x - wrap64 y) = wrap64 (x - y) := by unfold wrap64; omega
theorem wrap_cases (x : Int) (h0 : -18446744073709551616 ≤ x) (h1 : x < 18446744073709551616) : (x < -9223372036854775808 ∧ wrap64 x = x + 18446744073709551616) ∨ (-9223372036854775808 ≤ x ∧ x < 9223372036854775808 ∧ wrap64 x = x) ∨ (9223372036854775808 ≤ x ∧ wrap64 x = x - 18446744073709551616) := by unfold wrap64; omega
theorem Add_f (a b c d : Int) (ha : I a) (hb : U b) (hc : I c) (hd : U d) : wide_Add.f a b c d = out (val a b + val c d) := by
  unfold wide_Add.f out
  obtain ⟨a0, a1⟩ := ha
  obtain ⟨b0, b1⟩ := hb
  obtain ⟨c0, c1⟩ := hc
  obtain ⟨d0, d1⟩ := hd
  rw [adds_eq b d b0 d0, addc_eq b d b0 d0, wrap_add]
  have e1 : (val a b + val c d) / 18446744073709551616 = a + c + (b + d) / 18446744073709551616 := by unfold val; omega
  have e2 : (val a b + val c d) % 18446744073709551616 = (b + d) % 18446744073709551616 := by unfold val; omega
  have e3 : (val a b + val c d < 170141183460469231731687303715884105728 ∧ -170141183460469231731687303715884105728 ≤ val a b + val c d) ↔ (-9223372036854775808 ≤ a + c + (b + d) / 18446744073709551616 ∧ a + c + (b + d) / 18446744073709551616 < 9223372036854775808) := by omega
  rw [e1, e2]
  have hb0 : 0 ≤ (b + d) / 18446744073709551616 ∧ (b + d) / 18446744073709551616 ≤ 1 := by omega
  generalize (b + d) / 18446744073709551616 = q at *
  generalize (b + d) % 18446744073709551616 = r at *
  rcases wrap_cases (a + c + q) (by omega) (by omega) with ⟨h, e⟩ | ⟨h, h', e⟩ | ⟨h, e⟩
  · rw [e, if_pos (by rw [decide_eq_true (by omega : a < 0), decide_eq_true (by omega : c < 0)]; rfl), if_pos (by rw [decide_eq_true (by omega : a < 0), decide_eq_false (by omega)]; rfl), if_neg (by rw [e3]; omega)]
  · rw [e]
    by_cases s : (decide (a < 0) == decide (c < 0)) = true
    · rw [if_pos s, if_neg, if_pos (e3.mpr ⟨h, h'⟩)]
      intro g
      by_cases p : a < 0
      · have q2 : c < 0 := by simpa [p] using s
        rw [decide_eq_true p, decide_eq_true (by omega)] at g; cases g
      · have q2 : ¬ c < 0 := by simpa [p] using s
        rw [decide_eq_false p, decide_eq_false (by omega)] at g; cases g
    · rw [if_neg s, if_pos (e3.mpr ⟨h, h'⟩)]
  · rw [e, if_pos (by rw [decide_eq_false (by omega : ¬ a < 0), decide_eq_false (by omega : ¬ c < 0)]; rfl), if_pos (by rw [decide_eq_false (by omega : ¬ a < 0), decide_eq_true (by omega)]; rfl), if_neg (by rw [e3]; omega)]
theorem subs_eq (x y : Int) (hx : U x) (hy : U y) : sub64s x y = (x - y) % 18446744073709551616 := by unfold sub64s U at *; omega
theorem subc_eq (x y : Int) (hx : U x) (hy : U y) : sub64c x y = -((x - y) / 18446744073709551616) := by unfold sub64c U at *; split <;> omega
theorem Sub_f (a b c d : Int) (ha : I a) (hb : U b) (hc : I c) (hd : U d) : wide_Sub.f a b c d = out (val a b - val c d) := by
  unfold wide_Sub.f out
  rw [subs_eq b d hb hd, subc_eq b d hb hd, wrap_sub]
  obtain ⟨a0, a1⟩ := ha
  obtain ⟨b0, b1⟩ := hb
  obtain ⟨c0, c1⟩ := hc
  obtain ⟨d0, d1⟩ := hd
  have e1 : (val a b - val c d) / 18446744073709551616 = a - c - -((b - d) / 18446744073709551616) := by unfold val; omega
  have e2 : (val a b - val c d) % 18446744073709551616 = (b - d) % 18446744073709551616 := by unfold val; omega
  have e3 : (val a b - val c d < 170141183460469231731687303715884105728 ∧ -170141183460469231731687303715884105728 ≤ val a b - val c d) ↔ (-9223372036854775808 ≤ a - c - -((b - d) / 18446744073709551616) ∧ a - c - -((b - d) / 18446744073709551616) < 9223372036854775808) := by omega
  rw [e1, e2]
  have hb0 : -1 ≤ (b - d) / 18446744073709551616 ∧ (b - d) / 18446744073709551616 ≤ 0 := by omega
  generalize (b - d) / 18446744073709551616 = q at *
  generalize (b - d) % 18446744073709551616 = r at *
  rcases wrap_cases (a - c - -q) (by omega) (by omega) with ⟨h, e⟩ | ⟨h, h', e⟩ | ⟨h, e⟩
  · rw [e, if_pos (by rw [decide_eq_true (by omega : a < 0), decide_eq_false (by omega : ¬ c < 0)]; rfl), if_pos (by rw [decide_eq_true (by omega : a < 0), decide_eq_false (by omega)]; rfl), if_neg (by rw [e3]; omega)]
  · rw [e]
    by_cases s : (decide (a < 0) != decide (c < 0)) = true
    · rw [if_pos s, if_neg, if_pos (e3.mpr ⟨h, h'⟩)]
      intro g
      by_cases p : a < 0
      · have q2 : ¬ c < 0 := by simpa [p] using s
        rw [decide_eq_true p, decide_eq_true (by omega)] at g; cases g
      · have q2 : c < 0 := by simpa [p] using s
        rw [decide_eq_false p, decide_eq_false (by omega)] at g; cases g
    · rw [if_neg s, if_pos (e3.mpr ⟨h, h'⟩)]
  · rw [e, if_pos (by rw [decide_eq_false (by omega : ¬ a < 0), decide_eq_true (by omega : c < 0)]; rfl), if_pos (by rw [decide_eq_false (by omega : ¬ a < 0), decide_eq_true (by omega)]; rfl), if_neg (by rw [e3]; omega)]
theorem Of_f (n : Int) (hn : I n) : wide_Of.f n = some (n / 18446744073709551616, n % 18446744073709551616) := by
  unfold wide_Of.f I at *
  rw [wrapu]; congr 2; omega
/-- A wide number that is an int. -/
theorem Int_f (h l : Int) (_hh : I h) (hl : U l) : wide_Int.f h l = if -9223372036854775808 ≤ val h l ∧ val h l < 9223372036854775808 then some (val h l, true) else some (0, false) := by
  unfold wide_Int.f
  have hw : I (wrap64 l) := by unfold I wrap64; omega
  rw [Of_f _ hw]
  simp only [Option.bind_some]
  have hlw : wrap64 l = if l < 9223372036854775808 then l else l - 18446744073709551616 := by unfold wrap64 U at *; split <;> omega
  by_cases hin : -9223372036854775808 ≤ val h l ∧ val h l < 9223372036854775808
  · have hv : wrap64 l = val h l := by unfold val U I at *; rw [hlw]; split <;> omega
    rw [if_pos hin, hv, val_div h l hl, val_mod h l hl]
    simp
  · rw [if_neg hin, if_pos]
    have : ¬ (wrap64 l / 18446744073709551616 = h ∧ wrap64 l % 18446744073709551616 = l) := by
      intro g
      apply hin
      unfold val U I at *
      rw [hlw] at g
      split at g <;> omega
    simp only [Bool.or_eq_true, Bool.not_eq_true', beq_eq_false_iff_ne]
    omega
end Go.Proofs.Ytkhocaehhflpcaa.Wide
