/- Plain facts about civil dates from 2000 to 2199: no program in sight. -/
import Derived.RowKit
namespace Go.Proofs.Ytddaajikgjcknaa.Cal
open Go.RowKit
theorem w64 {n : Int} (h1 : -9223372036854775808 ≤ n) (h2 : n ≤ 9223372036854775807) : wrap64 n = n := by unfold wrap64; omega
def lp (y : Int) : Int := if y % 4 = 0 ∧ y ≠ 2100 then 1 else 0
def bg (y : Int) : Int := 365 * (y - 2000) + (y - 2000 + 3) / 4 - (if y > 2100 then 1 else 0)
def cum (y m : Int) : Int := if m ≤ 1 then 0 else if m ≤ 2 then 31 else (153 * (m - 3) + 2) / 5 + 59 + lp y
def len (y m : Int) : Int := cum y (m + 1) - cum y m
def IsCiv (d y m n : Int) : Prop := 2000 ≤ y ∧ y ≤ 2199 ∧ 1 ≤ m ∧ m ≤ 12 ∧ 1 ≤ n ∧ n ≤ len y m ∧ bg y + cum y m + n - 1 = d
theorem lp_01 (y : Int) : 0 ≤ lp y ∧ lp y ≤ 1 := by unfold lp; split <;> omega
theorem bg_succ (y : Int) (h : 2000 ≤ y) (h' : y ≤ 2199) : bg (y + 1) = bg y + 365 + lp y := by
  unfold bg lp
  by_cases h1 : y % 4 = 0 ∧ y ≠ 2100
  · rw [if_pos h1]; by_cases h2 : y > 2100
    · rw [if_pos h2, if_pos (by omega)]; omega
    · rw [if_neg h2, if_neg (by omega)]; omega
  · rw [if_neg h1]; by_cases h2 : y > 2100
    · rw [if_pos h2, if_pos (by omega)]; omega
    · rw [if_neg h2]; by_cases h3 : y = 2100
      · subst h3; decide
      · rw [if_neg (by omega)]; omega
theorem bg_0 : bg 2000 = 0 := by decide
theorem bg_200 : bg 2200 = 73049 := by decide
theorem bg_mono {x y : Int} (h : 2000 ≤ x) (h2 : x ≤ y) (h3 : y ≤ 2200) : bg x + 365 * (y - x) ≤ bg y := by
  obtain ⟨n, hn⟩ : ∃ n : Nat, y = x + n := ⟨(y - x).toNat, by omega⟩
  subst hn
  induction n with
  | zero => simp
  | succ n ih =>
    have := ih (by omega) (by omega)
    have hs := bg_succ (x + n) (by omega) (by omega)
    have hl := lp_01 (x + n)
    have e : x + ((n + 1 : Nat) : Int) = x + (n : Int) + 1 := by omega
    rw [e, hs]; omega
theorem bg_lo (y : Int) (h : 2000 ≤ y) (h' : y ≤ 2200) : 0 ≤ bg y ∧ bg y ≤ 73049 := by
  have := bg_mono (x := 2000) (y := y) (by omega) h h'
  have := bg_mono (x := y) (y := 2200) h h' (by omega)
  rw [bg_0] at *; rw [bg_200] at *; omega
theorem cum_1 (y : Int) : cum y 1 = 0 := by unfold cum; simp
theorem cum_13 (y : Int) : cum y 13 = 365 + lp y := by unfold cum; simp
theorem cum_mono (y : Int) {a b : Int} (h : 1 ≤ a) (h2 : a ≤ b) (h3 : b ≤ 13) : cum y a ≤ cum y b := by
  have := lp_01 y
  unfold cum
  by_cases h4 : a ≤ 1
  · rw [if_pos h4]; by_cases h5 : b ≤ 1
    · rw [if_pos h5]; omega
    · rw [if_neg h5]; by_cases h6 : b ≤ 2
      · rw [if_pos h6]; omega
      · rw [if_neg h6]; omega
  · rw [if_neg h4, if_neg (by omega : ¬ b ≤ 1)]; by_cases h5 : a ≤ 2
    · rw [if_pos h5]; by_cases h6 : b ≤ 2
      · rw [if_pos h6]; omega
      · rw [if_neg h6]; omega
    · rw [if_neg h5, if_neg (by omega : ¬ b ≤ 2)]; omega
theorem months {m : Int} (h : 1 ≤ m) (h' : m ≤ 12) : m = 1 ∨ m = 2 ∨ m = 3 ∨ m = 4 ∨ m = 5 ∨ m = 6 ∨ m = 7 ∨ m = 8 ∨ m = 9 ∨ m = 10 ∨ m = 11 ∨ m = 12 := by omega
def tab (m : Int) : Int := if m = 1 then 31 else if m = 2 then 28 else if m = 3 then 31 else if m = 4 then 30 else if m = 5 then 31 else if m = 6 then 30 else if m = 7 then 31 else if m = 8 then 31 else if m = 9 then 30 else if m = 10 then 31 else if m = 11 then 30 else 31
theorem len_eq (y m : Int) (h : 1 ≤ m) (h' : m ≤ 12) : len y m = tab m + if m = 2 then lp y else 0 := by
  unfold len cum tab
  rcases months h h' with rfl | rfl | rfl | rfl | rfl | rfl | rfl | rfl | rfl | rfl | rfl | rfl <;> simp <;> omega
theorem len_bd (y m : Int) (h : 1 ≤ m) (h' : m ≤ 12) : 28 ≤ len y m ∧ len y m ≤ 31 := by
  rw [len_eq y m h h']
  have := lp_01 y
  unfold tab
  rcases months h h' with rfl | rfl | rfl | rfl | rfl | rfl | rfl | rfl | rfl | rfl | rfl | rfl <;> simp <;> omega
theorem cum_succ (y m : Int) : cum y (m + 1) = cum y m + len y m := by unfold len; omega
theorem cum_bd (y m : Int) (h : 1 ≤ m) (h' : m ≤ 13) : 0 ≤ cum y m ∧ cum y m ≤ 366 := by
  have a := cum_mono y (a := 1) (b := m) (by omega) h h'
  have b := cum_mono y (a := m) (b := 13) h h' (by omega)
  rw [cum_1] at a; rw [cum_13] at b; have := lp_01 y; omega
/-- Where a date lies in its year. -/
theorem IsCiv.year {d y m n : Int} (h : IsCiv d y m n) : bg y ≤ d ∧ d < bg (y + 1) := by
  obtain ⟨a, b, c, e, f, g, i⟩ := h
  have h1 := cum_mono y (a := m + 1) (b := 13) (by omega) (by omega) (by omega)
  have h2 := cum_bd y m c (by omega)
  have h3 := bg_succ y a b
  rw [cum_13, cum_succ] at h1
  omega
theorem IsCiv.day {d y m n : Int} (h : IsCiv d y m n) : 0 ≤ d ∧ d ≤ 73048 := by
  have h1 := h.year
  obtain ⟨a, b, _⟩ := h
  have h2 := bg_lo y a (by omega)
  have h3 := bg_lo (y + 1) (by omega) (by omega)
  omega
theorem year_one {d x y : Int} (hx : 2000 ≤ x) (hx' : x ≤ 2199) (hy : 2000 ≤ y) (hy' : y ≤ 2199) (h1 : bg x ≤ d) (h2 : d < bg (x + 1)) (h3 : bg y ≤ d) (h4 : d < bg (y + 1)) : x = y := by
  by_cases h : x < y
  · have := bg_mono (x := x + 1) (y := y) (by omega) (by omega) (by omega); omega
  · by_cases h' : y < x
    · have := bg_mono (x := y + 1) (y := x) (by omega) (by omega) (by omega); omega
    · omega
theorem IsCiv.unique {d y m n y' m' n' : Int} (h : IsCiv d y m n) (h' : IsCiv d y' m' n') : y = y' ∧ m = m' ∧ n = n' := by
  have e : y = y' := year_one h.1 h.2.1 h'.1 h'.2.1 h.year.1 h.year.2 h'.year.1 h'.year.2
  subst e
  obtain ⟨_, _, c, e, f, g, i⟩ := h
  obtain ⟨_, _, c', e', f', g', i'⟩ := h'
  rcases Int.lt_trichotomy m m' with hm | hm | hm
  · have := cum_mono y (a := m + 1) (b := m') (by omega) (by omega) (by omega)
    rw [cum_succ] at this; omega
  · subst hm; omega
  · have := cum_mono y (a := m' + 1) (b := m) (by omega) (by omega) (by omega)
    rw [cum_succ] at this; omega
end Go.Proofs.Ytddaajikgjcknaa.Cal
