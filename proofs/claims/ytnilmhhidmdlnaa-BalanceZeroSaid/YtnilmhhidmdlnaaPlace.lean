/- balance.place as a map's key. -/
import Derived.DeepKeys4
import Derived.Maps.Keyed
import Derived.Test.YtnilmhhidmdlnaaPAx0
namespace Go.Proofs.Ytnilmhhidmdlnaa.PA
open Go.RowKit
theorem placeLaid : laidOutB Try.prog = true := by kernel_rfl
theorem placeRow : (52 : TypeId) < Try.prog.types.size := of_decide_eq_true (by kernel_rfl)
theorem placeLaw : WideMaps.KeyLaw Try.prog 52 := deep_law_laid placeLaid (m := 2) (by omega) placeRow (by kernel_rfl) (by kernel_rfl)
theorem placeKeyed : Maps.Keyed Try.prog 52 := Maps.Keyed.of_law placeLaw
end Go.Proofs.Ytnilmhhidmdlnaa.PA
