/- DaycountAdds, of the plain functions: the part of a year between two days is the sum of the parts, and of the weights of the days. -/
import Derived.Test.YtddaajikgjcknaaPAx8
import Derived.Test.YtddaajikgjcknaaSum
import Derived.Test.YtddaajikgjcknaaLives
namespace Go.Proofs.Ytddaajikgjcknaa.Pure
open Go.RowKit Go.Proofs.Ytddaajikgjcknaa.PA Go.Proofs.Ytddaajikgjcknaa.Date Go.Proofs.Ytddaajikgjcknaa.Cal Go.Proofs.YtddaajikgjcknaaW.PrintWords Go.Proofs.YtddaajikgjcknaaW.PrintLast
theorem Ph_out {b d : Int} (hb : ¬ Vb b) : Ph b d = 0 := by
  unfold Vb at hb
  unfold Ph
  rw [if_neg (by omega), if_neg (by omega), if_neg (by omega), if_neg (by omega)]
theorem Sm_ph {b x y : Int} (hx : Vd x) (hy : Vd y) (h : x ≤ y) : Sm b x y = Ph b y - Ph b x := by
  unfold Sm
  by_cases hb : Vb b
  · rw [if_pos ⟨hb, hx, hy, h⟩]
  · rw [if_neg (fun hh => hb hh.1), Ph_out hb, Ph_out hb]; rfl
theorem adds_l (b : Int) (j : Nat) : ∀ (x y n : Int), Vd x → Vd y → x ≤ y → y - x = j → n = Ph b y - Ph b x →
    ∀ k, j + 300 ≤ k → corebanklaw06_DaycountAdds.l0 k b y n x = some true := by
  induction j with
  | zero =>
    intro x y n hx hy h hj hn k hk
    obtain ⟨k, rfl⟩ : ∃ j, k = j + 1 := ⟨k - 1, by omega⟩
    simp only [corebanklaw06_DaycountAdds.l0]
    have e : x = y := by omega
    subst e
    rw [if_neg (by omega), if_pos (by omega), lives k (by omega)]; rfl
  | succ j ih =>
    intro x y n hx hy h hj hn k hk
    obtain ⟨k, rfl⟩ : ∃ j, k = j + 1 := ⟨k - 1, by omega⟩
    have h1 := hx.1; have h2 := hy.2
    have hv : Vd (x + 1) := ⟨by omega, by omega⟩
    have hst := Wt_step (b := b) hx hv
    have hb := Wt_bd b x
    have hp := Ph_bd (b := b) hx
    have hp' := Ph_bd (b := b) hy
    simp only [corebanklaw06_DaycountAdds.l0]
    rw [if_pos (by omega), weight_p k (by omega)]
    simp only [Option.bind_some]
    rw [w64 (n := n - Wt b x) (by omega) (by omega), w64 (n := x + 1) (by omega) (by omega)]
    exact ih (x + 1) y _ hv hy (by omega) (by omega) (by omega) k (by omega)
theorem adds_j1 (b x y n : Int) (hx : Vd x) (hy : Vd y) (h : x ≤ y) (hn : n = Ph b y - Ph b x) (k : Nat) (hk : 900 ≤ k) :
    corebanklaw06_DaycountAdds.j1 k b x y n false = some true := by
  obtain ⟨k, rfl⟩ : ∃ j, k = j + 1 := ⟨k - 1, by omega⟩
  have h1 := hx.1; have h2 := hy.2
  simp only [corebanklaw06_DaycountAdds.j1]
  rw [if_neg (by decide), w64 (n := y - x) (by omega) (by omega)]
  by_cases h100 : y - x > 100
  · rw [if_pos h100, lives k (by omega)]; rfl
  · rw [if_neg h100]
    exact adds_l b (y - x).toNat x y n hx hy h (by omega) hn k (by omega)
theorem DaycountAdds : corebanklaw06_DaycountAdds.Pure := by
  intro b x m y _ _ _ _
  refine ⟨1001, ?_⟩
  have hl := lives 1000 (by omega)
  have hj : ∀ p q r s, corebanklaw06_DaycountAdds.j0 1001 p q r s true = some true := by
    intro p q r s
    simp only [corebanklaw06_DaycountAdds.j0, if_true]
    rw [hl]; rfl
  unfold corebanklaw06_DaycountAdds.f
  rw [valid_r', valid_r']
  simp only [Option.bind_some]
  by_cases hx : Vd x
  · by_cases hy : Vd y
    · simp only [hx, hy, decide_true, if_true]
      by_cases h1 : x > m
      · rw [if_pos h1, hj]
      · rw [if_neg h1]
        by_cases h2 : m > y
        · rw [decide_eq_true h2, hj]
        · rw [decide_eq_false h2]
          have hm : Vd m := ⟨by have := hx.1; omega, by have := hy.2; omega⟩
          simp only [corebanklaw06_DaycountAdds.j0]
          rw [if_neg (by decide), sum_p 1000 (by omega), sum_p 1000 (by omega), sum_p 1000 (by omega)]
          simp only [Option.bind_some]
          rw [Sm_ph hx hy (by omega), Sm_ph hx hm (by omega), Sm_ph hm hy (by omega)]
          have p1 := Ph_bd (b := b) hx
          have p2 := Ph_bd (b := b) hy
          have p3 := Ph_bd (b := b) hm
          rw [w64 (n := Ph b m - Ph b x + (Ph b y - Ph b m)) (by omega) (by omega), if_pos (by omega)]
          by_cases h4 : b = 4
          · rw [if_pos h4, thirty_p 1000 (by omega)]
            simp only [Option.bind_some]
            have ht := Th_bd x y
            have e : Ph b y - Ph b x = 4453 * Th x y := by
              subst h4; simp [Ph, Th, hx, hy]; omega
            rw [w64 (n := 4453 * Th x y) (by omega) (by omega), e, bne_self_eq_false, ← e]
            exact adds_j1 b x y _ hx hy (by omega) rfl 1000 (by omega)
          · rw [if_neg h4]
            exact adds_j1 b x y _ hx hy (by omega) rfl 1000 (by omega)
    · simp only [hx, hy, decide_true, decide_false, if_true]
      rw [if_neg (by decide), hj]
  · simp only [hx, decide_false]
    rw [if_neg (by decide), hj]
end Go.Proofs.Ytddaajikgjcknaa.Pure
