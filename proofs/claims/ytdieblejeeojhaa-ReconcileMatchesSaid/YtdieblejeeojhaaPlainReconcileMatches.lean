/- The plain law of ReconcileMatches: the pairs and what is left are the reference's. -/
import Derived.Test.YtdieblejeeojhaaPAx7
import Derived.Test.YtdieblejeeojhaaPlMatch
namespace Go.Proofs.Ytdieblejeeojhaa.Pl
open Go Go.RowKit Go.Proofs.Ytdieblejeeojhaa.PA Go.Proofs.YtdieblejeeojhaaW.PrintWords
set_option linter.unusedVariables false
set_option linter.unusedSimpArgs false
theorem matches_ (l0 l1 : List S40) (q0 : ∀ x ∈ l0, okItem x) (q1 : ∀ x ∈ l1, okItem x) : ∃ k, corebanklaw44_ReconcileMatches.f k l0 l1 = some true := by
  obtain ⟨b0, g0, c0⟩ := great_ev l0
  obtain ⟨b1, g1, c1⟩ := great_ev l1
  refine Ev.rounds ?_
  have hlv : Ev (fun k => (corebanklaw44_live.f k).bind fun t240 => (some t240)) true := Ev.congr (fun k => by cases corebanklaw44_live.f k <;> rfl) live_ev
  have hl : Ev (fun k => corebanklaw44_ReconcileMatches.j0 k l0 l1 true) true := by
    refine Ev.step (fun k => ?_) hlv
    simp only [corebanklaw44_ReconcileMatches.j0, if_true]
  refine Ev.bind (f := fun k t => (if t = true then (corebanklaw44_ReconcileMatches.j0 k l0 l1 true) else ((corebankref44_Great.f k l1).bind fun t256 => (corebanklaw44_ReconcileMatches.j0 k l0 l1 t256)))) g0 ?_
  cases b0 with
  | true => simpa using hl
  | false =>
    simp only [Bool.false_eq_true, if_false]
    refine Ev.bind (f := fun k t => corebanklaw44_ReconcileMatches.j0 k l0 l1 t) g1 ?_
    cases b1 with
    | true => exact hl
    | false =>
      have e0 := c0 rfl
      have e1 := c1 rfl
      have hm := match_some l0 l1 (by omega) (by omega) q0 q1
      have hr := refMatch_ev l0 l1 (by omega) (by omega)
      have n1 := ordL_len (runM l0 l1).out l0.length
      have n2 := restL_len (runM l0 l1).M l0.length
      have n3 := restL_len (runM l0 l1).S l1.length
      have s1 := pairs_self (ordL (runM l0 l1).out l0.length) (by omega)
      have s2 := ints_self (restL (runM l0 l1).M l0.length) (by omega)
      have s3 := ints_self (restL (runM l0 l1).S l1.length) (by omega)
      generalize ordL (runM l0 l1).out l0.length = A at *
      generalize restL (runM l0 l1).M l0.length = B at *
      generalize restL (runM l0 l1).S l1.length = C at *
      obtain ⟨K1, k1⟩ := hr
      obtain ⟨K2, k2⟩ := s1
      obtain ⟨K3, k3⟩ := s2
      obtain ⟨K4, k4⟩ := s3
      obtain ⟨K5, k5⟩ := hlv
      dsimp only at k1 k2 k3 k4 k5
      refine ⟨K1 + K2 + K3 + K4 + K5 + 1, fun k hk => ?_⟩
      obtain ⟨m, rfl⟩ : ∃ m, k = m + 1 := ⟨k - 1, by omega⟩
      simp only [corebanklaw44_ReconcileMatches.j0]
      rw [if_neg (by simp), hm, Option.bind_some, k1 m (by omega), Option.bind_some, k2 m (by omega), Option.bind_some, if_pos rfl, k3 m (by omega), Option.bind_some, if_pos rfl, k4 m (by omega), Option.bind_some, if_pos rfl]
      exact k5 m (by omega)
end Go.Proofs.Ytdieblejeeojhaa.Pl
