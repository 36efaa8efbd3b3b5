/- The chapter's examples hold of the program. -/
import Derived.Test.YtddaajikgjcknaaPAx7
namespace Go.Proofs.Ytddaajikgjcknaa.Date
open Go.RowKit Go.Proofs.Ytddaajikgjcknaa.PA Go.Proofs.YtddaajikgjcknaaW.PrintWords Go.Proofs.YtddaajikgjcknaaW.PrintLast
theorem lives40 : corebanklaw06_lives.f 40 = some true := by decide +kernel
theorem lives (k : Nat) (hk : 40 ≤ k) : corebanklaw06_lives.f k = some true := at_rounds corebanklaw06_lives.mono hk lives40
end Go.Proofs.Ytddaajikgjcknaa.Date
