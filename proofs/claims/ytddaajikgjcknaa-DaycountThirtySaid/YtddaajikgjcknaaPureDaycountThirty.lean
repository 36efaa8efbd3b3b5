/- DaycountThirty, of the plain functions: Thirty is the reference's number, and its opposite for days in the opposite order. -/
import Derived.Test.YtddaajikgjcknaaPAx8
import Derived.Test.YtddaajikgjcknaaSum
import Derived.Test.YtddaajikgjcknaaLives
namespace Go.Proofs.Ytddaajikgjcknaa.Pure
open Go.RowKit Go.Proofs.Ytddaajikgjcknaa.PA Go.Proofs.Ytddaajikgjcknaa.Date Go.Proofs.Ytddaajikgjcknaa.Cal Go.Proofs.YtddaajikgjcknaaW.PrintWords Go.Proofs.YtddaajikgjcknaaW.PrintLast
theorem Th_neg (a b : Int) : Th b a = -Th a b := by
  unfold Th
  by_cases ha : Vd a
  · by_cases hb : Vd b
    · rw [if_pos ⟨hb, ha⟩, if_pos ⟨ha, hb⟩]; omega
    · rw [if_neg (fun h => hb h.1), if_neg (fun h => hb h.2)]; rfl
  · rw [if_neg (fun h => ha h.2), if_neg (fun h => ha h.1)]; rfl
theorem DaycountThirty : corebanklaw06_DaycountThirty.Pure := by
  intro a b _ _
  refine ⟨300, ?_⟩
  unfold corebanklaw06_DaycountThirty.f
  have := Th_bd a b
  rw [thirty_p 300 (by omega), thirty_r 300 (by omega), thirty_p 300 (by omega), lives 300 (by omega)]
  simp only [Option.bind_some, if_true]
  rw [w64 (n := -Th a b) (by omega) (by omega), if_pos (Th_neg a b)]
end Go.Proofs.Ytddaajikgjcknaa.Pure
