/- DaycountWeights, of the plain functions: Valid and Weight of the program and of the reference are the same numbers. -/
import Derived.Test.YtddaajikgjcknaaPAx7
import Derived.Test.YtddaajikgjcknaaSum
import Derived.Test.YtddaajikgjcknaaLives
namespace Go.Proofs.Ytddaajikgjcknaa.Pure
open Go.RowKit Go.Proofs.Ytddaajikgjcknaa.PA Go.Proofs.Ytddaajikgjcknaa.Date Go.Proofs.YtddaajikgjcknaaW.PrintWords Go.Proofs.YtddaajikgjcknaaW.PrintLast
theorem DaycountWeights : corebanklaw06_DaycountWeights.Pure := by
  intro b d _ _
  refine ⟨300, ?_⟩
  unfold corebanklaw06_DaycountWeights.f
  rw [basis_p, basis_r, weight_p 300 (by omega), weight_r 300 (by omega), lives 300 (by omega)]
  simp
end Go.Proofs.Ytddaajikgjcknaa.Pure
