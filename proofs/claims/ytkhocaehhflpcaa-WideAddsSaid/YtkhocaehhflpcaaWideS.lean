/- The reference's sums. -/
import Derived.Test.YtkhocaehhflpcaaPAx23
import Derived.Test.YtkhocaehhflpcaaPAx24
import Derived.Test.YtkhocaehhflpcaaPAx25
import Derived.Test.YtkhocaehhflpcaaPAx8
import Derived.Test.YtkhocaehhflpcaaWideR
namespace Go.Proofs.Ytkhocaehhflpcaa.Wide
open Go.RowKit Go.Proofs.Ytkhocaehhflpcaa.PA Go.Proofs.Ytkhocaehhflpcaa.Uw Go.Proofs.YtkhocaehhflpcaaW.PrintWords Go.Proofs.YtkhocaehhflpcaaW.PrintLast

theorem Less_f (a b c d : Int) (hb : U b) (hd : U d) : corebankref01_Less.f a b c d = some (decide (val a b < val c d)) := by
  unfold corebankref01_Less.f val U at *
  by_cases h1 : a < c
  · rw [if_pos h1, decide_eq_true (by omega)]
  · rw [if_neg h1]
    by_cases h2 : a = c
    · rw [if_pos h2]; congr 1; exact decide_eq_decide.mpr (by omega)
    · rw [if_neg h2, decide_eq_false (by omega)]
theorem minus_f (a b c d : Int) (ha : U a) (hb : U b) (hc : U c) (hd : U d) (h : val c d ≤ val a b) :
    corebankref01_minus.f a b c d = some ((val a b - val c d) / 18446744073709551616, (val a b - val c d) % 18446744073709551616) := by
  unfold corebankref01_minus.f val U at *
  by_cases h1 : b < d
  · rw [if_pos h1]; simp only [wrapu]; congr 2 <;> omega
  · rw [if_neg h1]; simp only [wrapu]; congr 2 <;> omega
/-- The sum of two numbers that are given by signs and sizes. -/
theorem sum_f (an bn : Bool) (a b : Int) (ha : 0 ≤ a ∧ a < 340282366920938463463374607431768211456) (hb : 0 ≤ b ∧ b < 340282366920938463463374607431768211456) :
    corebankref01_sum.f an (a / 18446744073709551616) (a % 18446744073709551616) bn (b / 18446744073709551616) (b % 18446744073709551616) = out (sg an a + sg bn b) := by
  unfold corebankref01_sum.f
  obtain ⟨va, hHa, hLa⟩ := split_val a ha.1 ha.2
  obtain ⟨vb, hHb, hLb⟩ := split_val b hb.1 hb.2
  have hfin : ∀ (neg ok : Bool) (m : Int), 0 ≤ m → m < 340282366920938463463374607431768211456 → (ok = true → sg neg m = sg an a + sg bn b) → (ok = false → ¬ (sg an a + sg bn b < 170141183460469231731687303715884105728 ∧ -170141183460469231731687303715884105728 ≤ sg an a + sg bn b)) →
      ((corebankref01_Join.f neg (m / 18446744073709551616) (m % 18446744073709551616)).bind fun bt => (if ok = true then (if bt.2.2 = true then (some (bt.1, bt.2.1, (0 : Int))) else (some (0, 0, 6))) else (some (0, 0, 6)))) = out (sg an a + sg bn b) := by
    intro neg ok m h0 h1 h2 h3
    obtain ⟨p, q, hJ, hJ2⟩ := Join_f neg m h0 h1
    rw [hJ]
    simp only [Option.bind_some]
    unfold out
    cases ok with
    | true =>
      rw [if_pos rfl]
      rw [h2 rfl] at hJ2 ⊢
      by_cases hin : sg an a + sg bn b < 170141183460469231731687303715884105728 ∧ -170141183460469231731687303715884105728 ≤ sg an a + sg bn b
      · obtain ⟨e1, e2⟩ := hJ2 hin
        rw [decide_eq_true hin, if_pos rfl, if_pos hin, e1, e2]
      · rw [decide_eq_false hin, if_neg (by decide), if_neg hin]
    | false => rw [if_neg (by decide), if_neg (h3 rfl)]
  by_cases hs : an = bn
  · subst hs
    rw [if_pos (by simp), plus_val a _ _ ha.1 ha.2 hHb hLb, vb]
    simp only [Option.bind_some]
    apply hfin an (decide (a + b < 340282366920938463463374607431768211456)) ((a + b) % 340282366920938463463374607431768211456) (by omega) (by omega)
    · intro h
      have := of_decide_eq_true h
      unfold sg; cases an <;> simp <;> omega
    · intro h
      have := of_decide_eq_false h
      unfold sg; cases an <;> simp <;> omega
  · rw [if_neg (by simpa using hs), Less_f _ _ _ _ hLa hLb, va, vb]
    simp only [Option.bind_some]
    by_cases hlt : a < b
    · rw [if_pos (decide_eq_true hlt), minus_f _ _ _ _ hHb hLb hHa hLa (by rw [va, vb]; omega), va, vb]
      simp only [Option.bind_some]
      have := hfin bn true (b - a) (by omega) (by omega) (by intro _; unfold sg; cases an <;> cases bn <;> simp at * <;> omega) (by intro h; cases h)
      simpa using this
    · rw [if_neg (by rw [decide_eq_false hlt]; decide), minus_f _ _ _ _ hHa hLa hHb hLb (by rw [va, vb]; omega), va, vb]
      simp only [Option.bind_some]
      have := hfin an true (a - b) (by omega) (by omega) (by intro _; unfold sg; cases an <;> cases bn <;> simp at * <;> omega) (by intro h; cases h)
      simpa using this
theorem Add_r (h l h' l' : Int) (hh : I h) (hl : U l) (hh' : I h') (hl' : U l') : corebankref01_Add.f h l h' l' = out (val h l + val h' l') := by
  unfold corebankref01_Add.f
  have hb := val_bd h l hh hl
  have hb' := val_bd h' l' hh' hl'
  rw [Split_f h l hh hl, Split_f h' l' hh' hl']
  simp only [Option.bind_some]
  have a1 := ab_nonneg (val h l)
  have a2 := ab_nonneg (val h' l')
  have a3 := ab_le (val h l) (170141183460469231731687303715884105728) hb.1 (by omega)
  have a4 := ab_le (val h' l') (170141183460469231731687303715884105728) hb'.1 (by omega)
  rw [sum_f _ _ _ _ ⟨a1, by omega⟩ ⟨a2, by omega⟩, sg_ab, sg_ab]
  unfold out
  split <;> rfl
end Go.Proofs.Ytkhocaehhflpcaa.Wide
