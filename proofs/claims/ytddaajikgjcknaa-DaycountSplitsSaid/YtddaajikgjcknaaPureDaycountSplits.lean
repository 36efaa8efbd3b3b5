/- DaycountSplits, of the plain functions: interest adds up over a day between, and is the opposite for the opposite balance. -/
import Derived.Test.YtddaajikgjcknaaPAx21
import Derived.Test.YtddaajikgjcknaaPureDaycountInterest
namespace Go.Proofs.Ytddaajikgjcknaa.Pure
open Go.RowKit Go.Proofs.Ytddaajikgjcknaa.PA Go.Proofs.Ytddaajikgjcknaa.Date Go.Proofs.Ytddaajikgjcknaa.Cal Go.Proofs.Ytddaajikgjcknaa.Wide Go.Proofs.YtddaajikgjcknaaW.PrintWords Go.Proofs.YtddaajikgjcknaaW.PrintLast
theorem DaycountSplits_all (a p b x m y : Int) : corebanklaw06_DaycountSplits.f 1001 a p b x m y = some true := by
  have hl := lives 1000 (by omega)
  have hj : ∀ (e n0 n1 : Int), (e = 0 ∨ e = 1) → corebanklaw06_DaycountSplits.j0 1001 x m y e true a p b n0 n1 = some true := by
    intro e n0 n1 he
    simp only [corebanklaw06_DaycountSplits.j0, if_true]
    rw [hl]
    rcases he with rfl | rfl <;> rfl
  unfold corebanklaw06_DaycountSplits.f
  by_cases h : -1000000000000 ≤ a ∧ a ≤ 1000000000000 ∧ 0 ≤ p ∧ p ≤ 1000000 ∧ Vb b ∧ Vd x ∧ Vd y ∧ x ≤ y
  · rw [interest_p 1001 (by omega) a p b x y h]
    simp only [Option.bind_some, if_true]
    by_cases h1 : m < x
    · rw [if_pos h1, hj 0 _ _ (.inl rfl)]
    · rw [if_neg h1]
      by_cases h2 : m > y
      · rw [decide_eq_true h2, hj 0 _ _ (.inl rfl)]
      · rw [decide_eq_false h2]
        have hg := Gr_bd h
        obtain ⟨c1, c2, c3, c4, c5, c6, c7, c8⟩ := h
        have hm : Vd m := ⟨by have := c6.1; omega, by have := c7.2; omega⟩
        have f1 : Fit a p b x m := ⟨c1, c2, c3, c4, c5, c6, hm, by omega⟩
        have f2 : Fit a p b m y := ⟨c1, c2, c3, c4, c5, hm, c7, by omega⟩
        have f3 : Fit (-a) p b x y := ⟨by omega, by omega, c3, c4, c5, c6, c7, c8⟩
        simp only [corebanklaw06_DaycountSplits.j0]
        rw [if_neg (by decide), Cal.w64 (n := -a) (by omega) (by omega), interest_p 1000 (by omega) a p b x m f1, interest_p 1000 (by omega) a p b m y f2, interest_p 1000 (by omega) (-a) p b x y f3]
        simp only [Option.bind_some]
        have g1 := Gr_bd f1
        have g2 := Gr_bd f2
        have g3 := Gr_bd f3
        have hsum : Gr a p b x m + Gr a p b m y = Gr a p b x y := by
          unfold Gr; rw [← Int.mul_add, Sm_add c5 c6 hm c7 (by omega) (by omega)]
        have hneg : Gr (-a) p b x y = -Gr a p b x y := by
          unfold Gr; rw [Int.neg_mul, Int.neg_mul]
        rw [hneg] at g3 ⊢
        obtain ⟨v1, i1, u1⟩ := div_val (Gr a p b x m) (by omega)
        obtain ⟨v2, i2, u2⟩ := div_val (Gr a p b m y) (by omega)
        obtain ⟨v3, i3, u3⟩ := div_val (-Gr a p b x y) (by omega)
        obtain ⟨v4, i4, u4⟩ := div_val (Gr a p b x y) (by omega)
        rw [Add_r _ _ _ _ i1 u1 i2 u2, Add_r _ _ _ _ i4 u4 i3 u3, v1, v2, v3, v4, hsum, out_in hg.1 hg.2, Int.add_right_neg, out_in (by omega) (by omega)]
        simp only [Option.bind_some, if_true]
        rw [hl]
        simp
  · rw [interest_p_out 1001 (by omega) a p b x y h]
    simp only [Option.bind_some]
    rw [if_neg (by decide), hj 1 _ _ (.inr rfl)]
theorem DaycountSplits : corebanklaw06_DaycountSplits.Pure := fun a p b x m y _ _ _ _ _ _ => ⟨1001, DaycountSplits_all a p b x m y⟩
end Go.Proofs.Ytddaajikgjcknaa.Pure
