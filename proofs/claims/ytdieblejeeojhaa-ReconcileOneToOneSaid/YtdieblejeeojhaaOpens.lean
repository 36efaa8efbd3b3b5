/- The arguments of the laws: what each reads as. -/
import Derived.Test.YtdieblejeeojhaaReads
import Derived.Test.YtdieblejeeojhaaPl
namespace Go.Proofs.Ytdieblejeeojhaa.RD
open Go Go.RowKit Go.Proofs.Ytdieblejeeojhaa.PA Go.Proofs.Ytdieblejeeojhaa.Pl Go.Proofs.YtdieblejeeojhaaW.PrintWords
variable {H : Type} {enc : TypeId × Value → H}
theorem opens40 : Opens Try.prog enc 40 k40 okItem :=
  Opens.struct Try.underlying40 (by kernel_rfl) (OpensAt.cons (Opens.string Try.underlying9) rfl rfl rfl (by kernel_rfl) (OpensAt.cons (Opens.int Try.underlying3) rfl rfl rfl (by kernel_rfl) (OpensAt.last (Opens.int Try.underlying3) rfl rfl rfl (by kernel_rfl) rfl))) (fun b => ⟨b.1, b.2.1, b.2.2⟩) (fun _ => rfl)
theorem opens38 : Opens Try.prog enc 38 k38 (fun _ => True) := fun w base spare held fuel cs x h => by
  obtain ⟨a, ha, _⟩ := (Opens.struct (P := Try.prog) (enc := enc) (T := 38) (α := S38) (g := fun x : S38 => (x.f0, x.f1, x.f2)) Try.underlying38 (by kernel_rfl) (OpensAt.cons (Opens.int Try.underlying3) rfl rfl rfl (by kernel_rfl) (OpensAt.cons (Opens.int Try.underlying3) rfl rfl rfl (by kernel_rfl) (OpensAt.last (Opens.int Try.underlying3) rfl rfl rfl (by kernel_rfl) rfl))) (fun b => ⟨b.1, b.2.1, b.2.2⟩) (fun _ => rfl)) w base spare held fuel cs x h
  exact ⟨a, ha, trivial⟩
theorem opens22 : Opens Try.prog enc 22 (Kd.slice 40 k40) (fun l => ∀ x ∈ l, okItem x) := Opens.slice Try.underlying22 (by kernel_rfl) opens40
theorem opens25 : Opens Try.prog enc 25 (Kd.slice 38 k38) (fun l => ∀ x ∈ l, True) := Opens.slice Try.underlying25 (by kernel_rfl) opens38
end Go.Proofs.Ytdieblejeeojhaa.RD
