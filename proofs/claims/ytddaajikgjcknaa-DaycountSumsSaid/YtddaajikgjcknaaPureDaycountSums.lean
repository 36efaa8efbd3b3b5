/- DaycountSums, of the plain functions: Sum is the reference's number. -/
import Derived.Test.YtddaajikgjcknaaPAx8
import Derived.Test.YtddaajikgjcknaaSum
import Derived.Test.YtddaajikgjcknaaLives
namespace Go.Proofs.Ytddaajikgjcknaa.Pure
open Go.RowKit Go.Proofs.Ytddaajikgjcknaa.PA Go.Proofs.Ytddaajikgjcknaa.Date Go.Proofs.Ytddaajikgjcknaa.Cal Go.Proofs.YtddaajikgjcknaaW.PrintWords Go.Proofs.YtddaajikgjcknaaW.PrintLast
theorem near_some (a b : Int) : ∃ t, corebanklaw06_near.f a b = some t := by
  unfold corebanklaw06_near.f
  rw [valid_r', valid_r']
  simp only [Option.bind_some]
  split
  · split <;> exact ⟨_, rfl⟩
  · exact ⟨_, rfl⟩
theorem DaycountSums : corebanklaw06_DaycountSums.Pure := by
  intro b x y _ _ _
  refine ⟨74000, ?_⟩
  unfold corebanklaw06_DaycountSums.f
  obtain ⟨t, ht⟩ := near_some x y
  rw [ht, sum_p 74000 (by omega), sum_r 74000 (by omega), lives 74000 (by omega)]
  cases t <;> simp
end Go.Proofs.Ytddaajikgjcknaa.Pure
