/- DaycountYears, of the plain functions: from a day to the same date of the next year there is one year on the bases. -/
import Derived.Test.YtddaajikgjcknaaPAx22
import Derived.Test.YtddaajikgjcknaaPAx23
import Derived.Test.YtddaajikgjcknaaPAx4
import Derived.Test.YtddaajikgjcknaaSum
import Derived.Test.YtddaajikgjcknaaLives
namespace Go.Proofs.Ytddaajikgjcknaa.Pure
open Go.RowKit Go.Proofs.Ytddaajikgjcknaa.PA Go.Proofs.Ytddaajikgjcknaa.Date Go.Proofs.Ytddaajikgjcknaa.Cal Go.Proofs.YtddaajikgjcknaaW.PrintWords Go.Proofs.YtddaajikgjcknaaW.PrintLast
theorem length_out (k : Nat) (hk : 3 ≤ k) (y m : Int) (h : ¬ (1 ≤ m ∧ m ≤ 12)) : corebankref04_Length.f k y m = some 0 := by
  obtain ⟨k, rfl⟩ : ∃ j, k = j + 3 := ⟨k - 3, by omega⟩
  have e : ∀ c : Int, 1 ≤ c → c ≤ 12 → m ≠ c := fun c h1 h2 he => h ⟨by omega, by omega⟩
  unfold corebankref04_Length.f
  rw [if_neg (e 1 (by omega) (by omega)), if_neg (e 3 (by omega) (by omega)), if_neg (e 5 (by omega) (by omega)), if_neg (e 7 (by omega) (by omega)), if_neg (e 8 (by omega) (by omega)), if_neg (e 10 (by omega) (by omega))]
  rw [beq_eq_false_iff_ne.mpr (e 12 (by omega) (by omega))]
  simp only [corebankref04_Length.j0]
  rw [if_neg (by decide), if_neg (e 4 (by omega) (by omega)), if_neg (e 6 (by omega) (by omega)), if_neg (e 9 (by omega) (by omega)), beq_eq_false_iff_ne.mpr (e 11 (by omega) (by omega))]
  simp only [corebankref04_Length.j1]
  rw [if_neg (by decide), if_neg (e 2 (by omega) (by omega))]
theorem day_l1 (y : Int) (h : 2000 ≤ y) (h' : y ≤ 2199) (m : Int) (hm' : m ≤ 12) (j : Nat) : ∀ (x i : Int), 1 ≤ i → i ≤ m → m - i = j → 0 ≤ x → x ≤ 100000 - 31 * (j : Int) →
    ∀ k, j + 5 ≤ k → corebankref04_Day.l1 k y m x i = some (x + (cum y m - cum y i), 0) := by
  induction j with
  | zero =>
    intro x i h1 h2 hj h3 h4 k hk
    obtain ⟨k, rfl⟩ : ∃ j, k = j + 1 := ⟨k - 1, by omega⟩
    simp only [corebankref04_Day.l1]
    rw [if_neg (by omega), (by omega : i = m)]
    congr 2; omega
  | succ j ih =>
    intro x i h1 h2 hj h3 h4 k hk
    obtain ⟨k, rfl⟩ : ∃ j, k = j + 1 := ⟨k - 1, by omega⟩
    have hl := len_bd y i h1 (by omega)
    have hc := cum_succ y i
    simp only [corebankref04_Day.l1]
    rw [if_pos (by omega), length_r k (by omega) y i h h' h1 (by omega)]
    simp only [Option.bind_some]
    rw [w64 (n := x + len y i) (by omega) (by omega), w64 (n := i + 1) (by omega) (by omega), ih _ _ (by omega) (by omega) (by omega) (by omega) (by omega) k (by omega)]
    congr 2; omega
theorem day_l0 (y : Int) (h : 2000 ≤ y) (h' : y ≤ 2199) (m : Int) (hm : 1 ≤ m) (hm' : m ≤ 12) (j : Nat) : ∀ (x i : Int), 2000 ≤ i → i ≤ y → y - i = j → 0 ≤ x → x ≤ 90000 - 366 * (j : Int) →
    ∀ k, j + 30 ≤ k → corebankref04_Day.l0 k y m x i = some (x + (bg y - bg i) + cum y m, 0) := by
  induction j with
  | zero =>
    intro x i h1 h2 hj h3 h4 k hk
    obtain ⟨k, rfl⟩ : ∃ j, k = j + 1 := ⟨k - 1, by omega⟩
    simp only [corebankref04_Day.l0]
    rw [if_neg (by omega), (by omega : i = y), day_l1 y h h' m hm' (m - 1).toNat x 1 (by omega) hm (by omega) h3 (by omega) k (by omega), cum_1]
    congr 2; omega
  | succ j ih =>
    intro x i h1 h2 hj h3 h4 k hk
    obtain ⟨k, rfl⟩ : ∃ j, k = j + 1 := ⟨k - 1, by omega⟩
    have hl := lp_01 i
    have hs := bg_succ i h1 (by omega)
    simp only [corebankref04_Day.l0]
    rw [if_pos (by omega), ylen_r i h1 (by omega)]
    simp only [Option.bind_some]
    rw [w64 (n := x + (365 + lp i)) (by omega) (by omega), w64 (n := i + 1) (by omega) (by omega), ih _ _ (by omega) (by omega) (by omega) (by omega) (by omega) k (by omega)]
    congr 2; omega
/-- The reference's Day answers an error, or the day with that date. -/
theorem day_r (k : Nat) (hk : 300 ≤ k) (y m d : Int) : corebankref04_Day.f k y m d = some (0, 1) ∨ ∃ n, IsCiv n y m d ∧ corebankref04_Day.f k y m d = some (n, 0) := by
  obtain ⟨k, rfl⟩ : ∃ j, k = j + 1 := ⟨k - 1, by omega⟩
  have ht : corebankref04_Day.j0 (k + 1) y m d true = some (0, 1) := by simp [corebankref04_Day.j0]
  unfold corebankref04_Day.f
  by_cases h1 : y < 2000
  · rw [if_pos h1, ht]; exact .inl rfl
  · rw [if_neg h1]
    by_cases h2 : y > 2199
    · rw [if_pos h2, ht]; exact .inl rfl
    · rw [if_neg h2]
      by_cases h3 : d < 1
      · rw [if_pos h3, ht]; exact .inl rfl
      · rw [if_neg h3]
        by_cases hm : 1 ≤ m ∧ m ≤ 12
        · rw [length_r (k + 1) (by omega) y m (by omega) (by omega) hm.1 hm.2]
          simp only [Option.bind_some]
          by_cases h4 : d > len y m
          · rw [decide_eq_true h4, ht]; exact .inl rfl
          · rw [decide_eq_false h4]
            simp only [corebankref04_Day.j0]
            have hl := len_bd y m hm.1 hm.2
            rw [if_neg (by decide), w64 (n := d - 1) (by omega) (by omega), day_l0 y (by omega) (by omega) m hm.1 hm.2 (y - 2000).toNat (d - 1) 2000 (by omega) (by omega) (by omega) (by omega) (by omega) k (by omega), bg_0]
            exact .inr ⟨_, ⟨by omega, by omega, hm.1, hm.2, by omega, by omega, by omega⟩, rfl⟩
        · rw [length_out (k + 1) (by omega) y m hm]
          simp only [Option.bind_some]
          rw [decide_eq_true (by omega), ht]; exact .inl rfl
theorem civ_of {n y m d : Int} (h : IsCiv n y m d) : civ n = (y, m, d) := by
  have hd := h.day
  obtain ⟨a, b, c⟩ := h.unique (civ_all n hd.1 hd.2).1
  rw [a, b, c]
theorem DaycountYears : corebanklaw06_DaycountYears.Pure := by
  intro y m d wy_ _ _
  refine ⟨1002, ?_⟩
  have hl := lives 1001 (by omega)
  have hj : ∀ p q r s, corebanklaw06_DaycountYears.j0 1002 p q r s true = some true := by
    intro p q r s
    simp only [corebanklaw06_DaycountYears.j0, if_true]
    rw [hl]; rfl
  unfold corebanklaw06_DaycountYears.f
  rcases day_r 1002 (by omega) y m d with e | ⟨n, hc, e⟩
  · rcases day_r 1002 (by omega) (wrap64 (y + 1)) m d with e' | ⟨n', hc', e'⟩
    · rw [e, e']; simp only [Option.bind_some]; rw [if_neg (by decide), hj]
    · rw [e, e']; simp only [Option.bind_some]; rw [if_neg (by decide), hj]
  · rcases day_r 1002 (by omega) (wrap64 (y + 1)) m d with e' | ⟨n', hc', e'⟩
    · rw [e, e']; simp only [Option.bind_some]; rw [if_pos trivial, (by decide : ((1 : Int) != 0) = true), hj]
    · rw [e, e']; simp only [Option.bind_some]; rw [if_pos trivial, bne_self_eq_false]
      have hy := hc.1
      have hy' := hc.2.1
      rw [w64 (n := y + 1) (by omega) (by omega)] at hc'
      have hy2 := hc'.2.1
      have v : Vd n := hc.day
      have v' : Vd n' := hc'.day
      have hyr := hc.year
      have hyr' := hc'.year
      have hle : n + 365 ≤ n' := by
        obtain ⟨_, _, m1, m2, d1, d2, e1⟩ := hc
        obtain ⟨_, _, _, _, _, d3, e2⟩ := hc'
        have hs := bg_succ y hy (by omega)
        have l1 := lp_01 y
        have l2 := lp_01 (y + 1)
        unfold cum at e1 e2
        split at e1
        · omega
        · split at e1
          · omega
          · unfold lp at *
            by_cases g : y % 4 = 0 ∧ y ≠ 2100
            · rw [if_pos g] at *; rw [if_neg (by omega)] at *; omega
            · rw [if_neg g] at *; omega
      have s4 : Sm 4 n n' = 1603080 := by
        unfold Sm
        rw [if_pos ⟨by unfold Vb; omega, v, v', by omega⟩]
        simp only [Ph, T, civ_of hc, civ_of hc']
        simp
        omega
      have s2 : Sm 2 n n' ≥ 1603080 := by
        unfold Sm
        rw [if_pos ⟨by unfold Vb; omega, v, v', by omega⟩]
        simp [Ph]
        omega
      have hj1 : corebanklaw06_DaycountYears.j1 1001 n n' false = some true := by
        simp only [corebanklaw06_DaycountYears.j1]
        rw [if_neg (by decide), sum_p 1000 (by omega), sum_p 1000 (by omega), lives 1000 (by omega), s4]
        simp only [Option.bind_some]
        rw [if_pos trivial, if_pos s2]
      simp only [corebanklaw06_DaycountYears.j0]
      rw [if_neg (by decide)]
      by_cases hm : m = 1
      · rw [if_pos hm]
        by_cases hd : d = 1
        · rw [if_pos hd, sum_p 1001 (by omega)]
          have s3 : Sm 3 n n' = 1603080 := by
            unfold Sm
            rw [if_pos ⟨by unfold Vb; omega, v, v', by omega⟩]
            subst hm; subst hd
            have e1 : n = bg y := by have := hc.2.2.2.2.2.2; rw [cum_1] at this; omega
            have e2 : n' = bg (y + 1) := by have := hc'.2.2.2.2.2.2; rw [cum_1] at this; omega
            have hs := bg_succ y hy (by omega)
            have := Ph3_in v v' (by rw [civ_of hc]) (by omega) (by rw [e2]; exact Int.le_refl _)
            rw [this, ← wy_year y]
            congr 1; omega
          simp only [Option.bind_some]
          rw [s3, bne_self_eq_false]
          exact hj1
        · rw [if_neg hd]; exact hj1
      · rw [if_neg hm]; exact hj1
end Go.Proofs.Ytddaajikgjcknaa.Pure
