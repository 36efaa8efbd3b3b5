/- The plain law of BalanceDays: the program's lists are the reference's. -/
import Derived.Test.YtnilmhhidmdlnaaPAx14
import Derived.Test.YtnilmhhidmdlnaaPlDaily
import Derived.Test.YtnilmhhidmdlnaaPlMoves
namespace Go.Proofs.Ytnilmhhidmdlnaa.Pl
open Go Go.RowKit Go.Proofs.Ytnilmhhidmdlnaa.PA Go.Proofs.YtnilmhhidmdlnaaW.PrintWords
set_option linter.unusedVariables false
set_option linter.unusedSimpArgs false

theorem daily_len (l : List S36) (a a2 a3 : Int) : (dailyL l a a2 a3).length ≤ 4000 := by
  unfold dailyL
  split
  · simp
  · rename_i c
    have hc : ¬ (a2 < 0 ∨ a3 > 73048 ∨ a2 > a3 ∨ wrap64 (a3 - a2) ≥ 4000) := fun h => c ((bad_iff _ _).2 h)
    have hw0 : wrap64 (a3 - a2) = a3 - a2 := by unfold wrap64; omega
    rw [hw0] at hc
    rw [dayL_len]
    omega
theorem movesL_len (l : List S36) (a : Int) (hf : Few l) : (movesL l a).length ≤ 2000 := by
  have h1 := legs_few hf.2
  have h2 := hf.1
  have h3 := moves_len l a
  have h4 := Lib.compact_length_le (sortI (vals' l a))
  have h5 := sortI_len (vals' l a)
  have h6 : (vals' l a).length = (moves l a).length := by simp [vals']
  unfold movesL
  omega
theorem days_ (l : List S36) (a b v : Int) : ∃ k, corebanklaw21_BalanceDays.f k l a b v = some true := by
  obtain ⟨c, ⟨K0, k0⟩, hf⟩ := few_ev l
  obtain ⟨K5, k5⟩ := live_ev
  refine Ev.rounds ?_
  dsimp only at k0 k5
  cases c with
  | false =>
    refine ⟨K0 + K5, fun k hk => ?_⟩
    simp only [corebanklaw21_BalanceDays.f]
    rw [k0 k (by omega), Option.bind_some, if_neg (by simp), k5 k (by omega), Option.bind_some]
  | true =>
    have hF := hf rfl
    have hJ := okJ_few hF
    obtain ⟨K1, k1⟩ := rdaily_ev l a b v hF
    obtain ⟨K2, k2⟩ := rmoves_ev l a hF
    obtain ⟨K3, k3⟩ := ints_self (dailyL l a b v) (by have := daily_len l a b v; omega)
    obtain ⟨K4, k4⟩ := ints_self (movesL l a) (by have := movesL_len l a hF; omega)
    dsimp only at k1 k2 k3 k4
    refine ⟨K0 + K1 + K2 + K3 + K4 + K5, fun k hk => ?_⟩
    simp only [corebanklaw21_BalanceDays.f]
    rw [k0 k (by omega), Option.bind_some, if_pos rfl, Daily_f hJ, Option.bind_some, k1 k (by omega), Option.bind_some, k3 k (by omega), Option.bind_some, if_pos rfl, Moves_f hF, Option.bind_some, k2 k (by omega), Option.bind_some, k4 k (by omega), Option.bind_some, if_pos rfl, k5 k (by omega), Option.bind_some]
end Go.Proofs.Ytnilmhhidmdlnaa.Pl
