/- The civil date of a day: the program and the reference come to the same. -/
import Derived.Test.YtddaajikgjcknaaPAx3
import Derived.Test.YtddaajikgjcknaaPAx4
import Derived.Test.YtddaajikgjcknaaCal
namespace Go.Proofs.Ytddaajikgjcknaa.Date
open Go.RowKit Go.Proofs.Ytddaajikgjcknaa.PA Go.Proofs.Ytddaajikgjcknaa.Cal Go.Proofs.YtddaajikgjcknaaW.PrintWords Go.Proofs.YtddaajikgjcknaaW.PrintLast

theorem valid_p (d : Int) : date_Valid.f d = some (decide (0 ≤ d ∧ d ≤ 73048)) := by
  unfold date_Valid.f
  by_cases h : d ≥ 0
  · rw [if_pos h]; simp; omega
  · rw [if_neg h]; simp; omega
theorem valid_r (d : Int) : corebankref04_Valid.f d = some (decide (0 ≤ d ∧ d ≤ 73048)) := by
  unfold corebankref04_Valid.f
  by_cases h : d ≥ 0
  · rw [if_pos h]; simp; omega
  · rw [if_neg h]; simp; omega
theorem leap_plain (y : Int) (h : 2000 ≤ y) (h' : y ≤ 2199) :
    (if (Int.tmod y 4) = 0 then (if (Int.tmod y 100) = 0 then (some ((Int.tmod y 400) == 0)) else (some true)) else (some false)) = some (decide (lp y = 1)) := by
  rw [Int.tmod_eq_emod_of_nonneg (by omega), Int.tmod_eq_emod_of_nonneg (by omega), Int.tmod_eq_emod_of_nonneg (by omega)]
  unfold lp
  by_cases h4 : y % 4 = 0
  · rw [if_pos h4]
    by_cases h100 : y % 100 = 0
    · rw [if_pos h100]
      have : y = 2000 ∨ y = 2100 := by omega
      rcases this with rfl | rfl <;> decide
    · rw [if_neg h100, if_pos ⟨h4, by omega⟩]; rfl
  · rw [if_neg h4, if_neg (by omega)]; rfl
theorem leap_p (y : Int) (h : 2000 ≤ y) (h' : y ≤ 2199) : date_Leap.f y = some (decide (lp y = 1)) := leap_plain y h h'
theorem leap_r (y : Int) (h : 2000 ≤ y) (h' : y ≤ 2199) : corebankref04_Leap.f y = some (decide (lp y = 1)) := leap_plain y h h'
theorem begin_p (y : Int) (h : 2000 ≤ y) (h' : y ≤ 2200) : date_begin.f y = some (bg y) := by
  unfold date_begin.f bg
  rw [w64 (n := y - 2000) (by omega) (by omega), w64 (n := 365 * (y - 2000)) (by omega) (by omega), w64 (n := y - 2000 + 3) (by omega) (by omega), Int.tdiv_eq_ediv_of_nonneg (by omega), w64 (n := (y - 2000 + 3) / 4) (by omega) (by omega)]
  by_cases h1 : y > 2100
  · rw [if_pos h1, if_pos h1, w64 (n := (y - 2000 + 3) / 4 - 1) (by omega) (by omega), w64 (by omega) (by omega)]; congr 1; omega
  · rw [if_neg h1, if_neg h1, w64 (by omega) (by omega)]; congr 1; omega
theorem length_p (y m : Int) (h : 2000 ≤ y) (h' : y ≤ 2199) (hm : 1 ≤ m) (hm' : m ≤ 12) : date_length.f y m = some (len y m) := by
  rw [len_eq y m hm hm']
  unfold date_length.f
  by_cases h2 : m = 2
  · rw [if_pos h2, leap_p y h h']
    subst h2
    have := lp_01 y
    simp only [Option.bind_some]
    by_cases hl : lp y = 1
    · simp [hl, tab]
    · have h0 : lp y = 0 := by omega
      simp [h0, tab]
  · rw [if_neg h2, if_pos (by omega), if_pos (by omega), if_neg h2]
    rcases months hm hm' with rfl | rfl | rfl | rfl | rfl | rfl | rfl | rfl | rfl | rfl | rfl | rfl <;> first | decide | exact absurd rfl h2
theorem length_r (k : Nat) (hk : 3 ≤ k) (y m : Int) (h : 2000 ≤ y) (h' : y ≤ 2199) (hm : 1 ≤ m) (hm' : m ≤ 12) : corebankref04_Length.f k y m = some (len y m) := by
  rw [len_eq y m hm hm']
  obtain ⟨k, rfl⟩ : ∃ j, k = j + 3 := ⟨k - 3, by omega⟩
  by_cases h2 : m = 2
  · subst h2
    have := lp_01 y
    simp only [corebankref04_Length.f, corebankref04_Length.j0, corebankref04_Length.j1]
    rw [leap_r y h h']
    simp only [Option.bind_some]
    by_cases hl : lp y = 1
    · simp [hl, tab]
    · have h0 : lp y = 0 := by omega
      simp [h0, tab]
  · rw [if_neg h2]
    simp only [corebankref04_Length.f, corebankref04_Length.j0, corebankref04_Length.j1]
    rcases months hm hm' with rfl | rfl | rfl | rfl | rfl | rfl | rfl | rfl | rfl | rfl | rfl | rfl <;> first | exact absurd rfl h2 | simp [tab]
theorem ylen_r (y : Int) (h : 2000 ≤ y) (h' : y ≤ 2199) : corebankref04_yearLength.f y = some (365 + lp y) := by
  unfold corebankref04_yearLength.f
  rw [leap_r y h h']
  have := lp_01 y
  simp only [Option.bind_some]
  by_cases hl : lp y = 1
  · simp [hl]
  · have h0 : lp y = 0 := by omega
    simp [h0]

/-- The months' loop of the program. -/
theorem civ_l1 (y : Int) (h : 2000 ≤ y) (h' : y ≤ 2199) (j : Nat) : ∀ (m x : Int), 1 ≤ m → m ≤ 12 → 12 - m = j → 0 ≤ x → x < 365 + lp y - cum y m →
    ∃ m' n, m ≤ m' ∧ m' ≤ 12 ∧ 1 ≤ n ∧ n ≤ len y m' ∧ x = cum y m' - cum y m + n - 1 ∧ (∀ k, j + 1 ≤ k → date_Civil.l1 k x y m = some (y, m', n)) ∧ (∀ k, j + 4 ≤ k → corebankref04_Civil.l1 k x y m = some (y, m', n)) := by
  induction j with
  | zero =>
    intro m x h1 h2 hj h3 h4
    have e : m = 12 := by omega
    subst e
    have hl := len_bd y 12 (by omega) (by omega)
    have hc : cum y 13 = cum y 12 + len y 12 := cum_succ y 12
    rw [cum_13] at hc
    refine ⟨12, x + 1, by omega, by omega, by omega, by omega, by omega, ?_, ?_⟩
    · intro k hk
      obtain ⟨k, rfl⟩ : ∃ j, k = j + 1 := ⟨k - 1, by omega⟩
      simp only [date_Civil.l1]
      rw [length_p y 12 h h' (by omega) (by omega)]
      simp only [Option.bind_some]
      rw [if_neg (by omega), w64 (by omega) (by omega)]
    · intro k hk
      obtain ⟨k, rfl⟩ : ∃ j, k = j + 1 := ⟨k - 1, by omega⟩
      simp only [corebankref04_Civil.l1]
      rw [length_r k (by omega) y 12 h h' (by omega) (by omega)]
      simp only [Option.bind_some]
      rw [if_neg (by omega), w64 (by omega) (by omega)]
  | succ j ih =>
    intro m x h1 h2 hj h3 h4
    have hl := len_bd y m (by omega) (by omega)
    have hc : cum y (m + 1) = cum y m + len y m := cum_succ y m
    by_cases hx : x < len y m
    · refine ⟨m, x + 1, by omega, by omega, by omega, by omega, by omega, ?_, ?_⟩
      · intro k hk
        obtain ⟨k, rfl⟩ : ∃ j, k = j + 1 := ⟨k - 1, by omega⟩
        simp only [date_Civil.l1]
        rw [length_p y m h h' (by omega) (by omega)]
        simp only [Option.bind_some]
        rw [if_neg (by omega), w64 (by omega) (by omega)]
      · intro k hk
        obtain ⟨k, rfl⟩ : ∃ j, k = j + 1 := ⟨k - 1, by omega⟩
        simp only [corebankref04_Civil.l1]
        rw [length_r k (by omega) y m h h' (by omega) (by omega)]
        simp only [Option.bind_some]
        rw [if_neg (by omega), w64 (by omega) (by omega)]
    · have hb := cum_bd y m h1 (by omega)
      obtain ⟨m', n, g1, g2, g3, g4, g5, g6, g7⟩ := ih (m + 1) (x - len y m) (by omega) (by omega) (by omega) (by omega) (by omega)
      have := lp_01 y
      refine ⟨m', n, by omega, g2, g3, g4, by omega, ?_, ?_⟩
      · intro k hk
        obtain ⟨k, rfl⟩ : ∃ j, k = j + 1 := ⟨k - 1, by omega⟩
        simp only [date_Civil.l1]
        rw [length_p y m h h' (by omega) (by omega)]
        simp only [Option.bind_some]
        rw [if_pos (by omega), w64 (n := x - len y m) (by omega) (by omega), w64 (n := m + 1) (by omega) (by omega)]
        exact g6 k (by omega)
      · intro k hk
        obtain ⟨k, rfl⟩ : ∃ j, k = j + 1 := ⟨k - 1, by omega⟩
        simp only [corebankref04_Civil.l1]
        rw [length_r k (by omega) y m h h' (by omega) (by omega)]
        simp only [Option.bind_some]
        rw [if_pos (by omega), w64 (n := x - len y m) (by omega) (by omega), w64 (n := m + 1) (by omega) (by omega)]
        exact g7 k (by omega)
/-- The years' loop of the program. -/
theorem civ_l0 (d : Int) (hd : 0 ≤ d) (hd' : d ≤ 73048) (j : Nat) : ∀ y : Int, 2000 ≤ y → y ≤ 2199 → 2199 - y = j → bg y ≤ d →
    ∃ y' m n, IsCiv d y' m n ∧ ∀ k, j + 13 ≤ k → date_Civil.l0 k d y = some (y', m, n) := by
  induction j with
  | zero =>
    intro y h h' hj hb
    have e : y = 2199 := by omega
    subst e
    have hs : bg (2199 + 1) = 73049 := bg_200
    have hs' := bg_succ 2199 (by omega) (by omega)
    obtain ⟨m', n, g1, g2, g3, g4, g5, g6, g7⟩ := civ_l1 2199 (by omega) (by omega) 11 1 (d - bg 2199) (by omega) (by omega) (by omega) (by omega) (by rw [cum_1]; omega)
    rw [cum_1] at g5
    refine ⟨2199, m', n, ⟨by omega, by omega, g1, g2, g3, g4, by omega⟩, ?_⟩
    intro k hk
    obtain ⟨k, rfl⟩ : ∃ j, k = j + 1 := ⟨k - 1, by omega⟩
    simp only [date_Civil.l0]
    rw [w64 (n := 2199 + 1) (by omega) (by omega), begin_p (2199 + 1) (by omega) (by omega), begin_p 2199 (by omega) (by omega)]
    simp only [Option.bind_some]
    have := bg_lo 2199 (by omega) (by omega)
    rw [if_neg (by omega), w64 (by omega) (by omega)]
    exact g6 k (by omega)
  | succ j ih =>
    intro y h h' hj hb
    have hs := bg_succ y (by omega) (by omega)
    have hbd := bg_lo y (by omega) (by omega)
    by_cases hx : bg (y + 1) ≤ d
    · obtain ⟨y', m, n, hc, hr⟩ := ih (y + 1) (by omega) (by omega) (by omega) hx
      refine ⟨y', m, n, hc, ?_⟩
      intro k hk
      obtain ⟨k, rfl⟩ : ∃ j, k = j + 1 := ⟨k - 1, by omega⟩
      simp only [date_Civil.l0]
      rw [w64 (n := y + 1) (by omega) (by omega), begin_p (y + 1) (by omega) (by omega)]
      simp only [Option.bind_some]
      rw [if_pos hx]
      exact hr k (by omega)
    · obtain ⟨m', n, g1, g2, g3, g4, g5, g6, g7⟩ := civ_l1 y (by omega) (by omega) 11 1 (d - bg y) (by omega) (by omega) (by omega) (by omega) (by rw [cum_1]; omega)
      rw [cum_1] at g5
      refine ⟨y, m', n, ⟨by omega, by omega, g1, g2, g3, g4, by omega⟩, ?_⟩
      intro k hk
      obtain ⟨k, rfl⟩ : ∃ j, k = j + 1 := ⟨k - 1, by omega⟩
      simp only [date_Civil.l0]
      rw [w64 (n := y + 1) (by omega) (by omega), begin_p (y + 1) (by omega) (by omega), begin_p y (by omega) (by omega)]
      simp only [Option.bind_some]
      rw [if_neg (by omega), w64 (by omega) (by omega)]
      exact g6 k (by omega)
/-- The years' loop of the reference. -/
theorem civ_l0r (j : Nat) : ∀ (y x : Int), 2000 ≤ y → y ≤ 2199 → 2199 - y = j → 0 ≤ x → x + bg y ≤ 73048 →
    ∃ y' m n, IsCiv (x + bg y) y' m n ∧ ∀ k, j + 16 ≤ k → corebankref04_Civil.l0 k x y 1 = some (y', m, n) := by
  induction j with
  | zero =>
    intro y x h h' hj h0 hb
    have e : y = 2199 := by omega
    subst e
    have hs : bg (2199 + 1) = 73049 := bg_200
    have hs' := bg_succ 2199 (by omega) (by omega)
    obtain ⟨m', n, g1, g2, g3, g4, g5, g6, g7⟩ := civ_l1 2199 (by omega) (by omega) 11 1 x (by omega) (by omega) (by omega) (by omega) (by rw [cum_1]; omega)
    rw [cum_1] at g5
    refine ⟨2199, m', n, ⟨by omega, by omega, g1, g2, g3, g4, by omega⟩, ?_⟩
    intro k hk
    obtain ⟨k, rfl⟩ : ∃ j, k = j + 1 := ⟨k - 1, by omega⟩
    simp only [corebankref04_Civil.l0]
    rw [ylen_r 2199 (by omega) (by omega)]
    simp only [Option.bind_some]
    rw [if_neg (by omega)]
    exact g7 k (by omega)
  | succ j ih =>
    intro y x h h' hj h0 hb
    have hs := bg_succ y (by omega) (by omega)
    have hl := lp_01 y
    have hbd := bg_lo y (by omega) (by omega)
    by_cases hx : 365 + lp y ≤ x
    · obtain ⟨y', m, n, hc, hr⟩ := ih (y + 1) (x - (365 + lp y)) (by omega) (by omega) (by omega) (by omega) (by omega)
      have e : x - (365 + lp y) + bg (y + 1) = x + bg y := by omega
      rw [e] at hc
      refine ⟨y', m, n, hc, ?_⟩
      intro k hk
      obtain ⟨k, rfl⟩ : ∃ j, k = j + 1 := ⟨k - 1, by omega⟩
      simp only [corebankref04_Civil.l0]
      rw [ylen_r y (by omega) (by omega)]
      simp only [Option.bind_some]
      rw [if_pos (by omega), w64 (n := x - (365 + lp y)) (by omega) (by omega), w64 (n := y + 1) (by omega) (by omega)]
      exact hr k (by omega)
    · obtain ⟨m', n, g1, g2, g3, g4, g5, g6, g7⟩ := civ_l1 y (by omega) (by omega) 11 1 x (by omega) (by omega) (by omega) (by omega) (by rw [cum_1]; omega)
      rw [cum_1] at g5
      refine ⟨y, m', n, ⟨by omega, by omega, g1, g2, g3, g4, by omega⟩, ?_⟩
      intro k hk
      obtain ⟨k, rfl⟩ : ∃ j, k = j + 1 := ⟨k - 1, by omega⟩
      simp only [corebankref04_Civil.l0]
      rw [ylen_r y (by omega) (by omega)]
      simp only [Option.bind_some]
      rw [if_neg (by omega)]
      exact g7 k (by omega)
/-- The civil date of a day. -/
def civ (d : Int) : Int × Int × Int := (date_Civil.f 300 d).getD (0, 0, 0)
theorem guess (d : Int) (hd : 0 ≤ d) (hd' : d ≤ 73048) : 2000 ≤ 2000 + d / 366 ∧ 2000 + d / 366 ≤ 2199 ∧ bg (2000 + d / 366) ≤ d := by
  refine ⟨by omega, by omega, ?_⟩
  unfold bg
  split <;> omega
theorem civ_all (d : Int) (hd : 0 ≤ d) (hd' : d ≤ 73048) : IsCiv d (civ d).1 (civ d).2.1 (civ d).2.2 ∧ (∀ k, 220 ≤ k → date_Civil.f k d = some (civ d)) ∧ (∀ k, 220 ≤ k → corebankref04_Civil.f k d = some (civ d)) := by
  obtain ⟨g1, g2, g3⟩ := guess d hd hd'
  obtain ⟨y, m, n, hc, hr⟩ := civ_l0 d hd hd' (2199 - (2000 + d / 366)).toNat (2000 + d / 366) g1 g2 (by omega) g3
  obtain ⟨y', m', n', hc', hr'⟩ := civ_l0r 199 2000 d (by omega) (by omega) (by omega) hd (by rw [bg_0]; omega)
  rw [bg_0, Int.add_zero] at hc'
  obtain ⟨rfl, rfl, rfl⟩ := hc.unique hc'
  have hp : ∀ k, 220 ≤ k → date_Civil.f k d = some (y, m, n) := by
    intro k hk
    unfold date_Civil.f
    rw [valid_p, decide_eq_true (⟨hd, hd'⟩ : 0 ≤ d ∧ d ≤ 73048)]
    simp only [Option.bind_some, if_true]
    rw [Int.tdiv_eq_ediv_of_nonneg hd, w64 (n := d / 366) (by omega) (by omega), w64 (by omega) (by omega)]
    exact hr k (by omega)
  have e : civ d = (y, m, n) := by unfold civ; rw [hp 300 (by omega)]; rfl
  rw [e]
  refine ⟨hc, hp, ?_⟩
  intro k hk
  unfold corebankref04_Civil.f
  rw [valid_r, decide_eq_true (⟨hd, hd'⟩ : 0 ≤ d ∧ d ≤ 73048)]
  simp only [Option.bind_some, if_true]
  exact hr' k (by omega)
end Go.Proofs.Ytddaajikgjcknaa.Date
