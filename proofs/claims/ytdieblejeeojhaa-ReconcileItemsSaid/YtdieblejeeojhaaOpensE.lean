/- The journal of the law ReconcileItems: what it reads as. -/
import Derived.Test.YtdieblejeeojhaaOpens
namespace Go.Proofs.Ytdieblejeeojhaa.RD
open Go Go.RowKit Go.Proofs.Ytdieblejeeojhaa.PA Go.Proofs.Ytdieblejeeojhaa.Pl Go.Proofs.YtdieblejeeojhaaW.PrintWords
variable {H : Type} {enc : TypeId × Value → H}
theorem Opens.imp {α : Type} {P : Program} {T : TypeId} {d : Kd α} {q q' : α → Prop} (h : Opens P enc T d q) (hq : ∀ a, q a → q' a) : Opens P enc T d q' := fun w base spare held fuel cs x hx => by
  obtain ⟨a, h1, h2⟩ := h w base spare held fuel cs x hx
  exact ⟨a, h1, hq a h2⟩
theorem opens73 : Opens Try.prog enc 73 k73 (fun _ => True) :=
  (Opens.struct Try.underlying73 (by kernel_rfl) (OpensAt.cons (Opens.int Try.underlying3) rfl rfl rfl (by kernel_rfl) (OpensAt.cons (Opens.int Try.underlying3) rfl rfl rfl (by kernel_rfl) (OpensAt.last (Opens.string Try.underlying9) rfl rfl rfl (by kernel_rfl) rfl))) (fun b => (⟨b.1, b.2.1, b.2.2⟩ : S73)) (fun _ => rfl) : Opens Try.prog enc 73 k73 _).imp (fun _ _ => trivial)
theorem opens68 : Opens Try.prog enc 68 (Kd.slice 73 k73) (fun l => ∀ x ∈ l, True) := Opens.slice Try.underlying68 (by kernel_rfl) opens73
theorem opens71 : Opens Try.prog enc 71 k71 (fun _ => True) :=
  (Opens.struct Try.underlying71 (by kernel_rfl)
    (OpensAt.cons (Opens.int Try.underlying3) rfl rfl rfl (by kernel_rfl)
    (OpensAt.cons (Opens.int Try.underlying3) rfl rfl rfl (by kernel_rfl)
    (OpensAt.cons (Opens.int Try.underlying3) rfl rfl rfl (by kernel_rfl)
    (OpensAt.cons (Opens.int Try.underlying3) rfl rfl rfl (by kernel_rfl)
    (OpensAt.cons (Opens.int Try.underlying3) rfl rfl rfl (by kernel_rfl)
    (OpensAt.cons (Opens.int Try.underlying3) rfl rfl rfl (by kernel_rfl)
    (OpensAt.cons (Opens.string Try.underlying9) rfl rfl rfl (by kernel_rfl)
    (OpensAt.cons (Opens.string Try.underlying9) rfl rfl rfl (by kernel_rfl)
    (OpensAt.cons opens68 rfl rfl rfl (by kernel_rfl)
    (OpensAt.last (Opens.int Try.underlying69) rfl rfl rfl (by kernel_rfl) rfl)))))))))) (fun b => (⟨b.1, b.2.1, b.2.2.1, b.2.2.2.1, b.2.2.2.2.1, b.2.2.2.2.2.1, b.2.2.2.2.2.2.1, b.2.2.2.2.2.2.2.1, b.2.2.2.2.2.2.2.2.1, b.2.2.2.2.2.2.2.2.2⟩ : S71)) (fun _ => rfl) : Opens Try.prog enc 71 k71 _).imp (fun _ _ => trivial)
theorem opens43 : Opens Try.prog enc 43 (Kd.slice 71 k71) (fun l => ∀ x ∈ l, True) := Opens.slice Try.underlying43 (by kernel_rfl) opens71
end Go.Proofs.Ytdieblejeeojhaa.RD
