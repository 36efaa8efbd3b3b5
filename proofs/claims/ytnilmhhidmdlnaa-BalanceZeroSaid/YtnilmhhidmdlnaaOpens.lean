/- The arguments of the laws: what each reads as. -/
import Derived.Test.YtnilmhhidmdlnaaReads
import Derived.Test.YtnilmhhidmdlnaaPl
namespace Go.Proofs.Ytnilmhhidmdlnaa.RD
open Go Go.RowKit Go.Proofs.Ytnilmhhidmdlnaa.PA Go.Proofs.Ytnilmhhidmdlnaa.Pl Go.Proofs.YtnilmhhidmdlnaaW.PrintWords
variable {H : Type} {enc : TypeId × Value → H}
theorem Opens.imp {α : Type} {P : Program} {T : TypeId} {d : Kd α} {q q' : α → Prop} (h : Opens P enc T d q) (hq : ∀ a, q a → q' a) : Opens P enc T d q' := fun w base spare held fuel cs x hx => by
  obtain ⟨a, h1, h2⟩ := h w base spare held fuel cs x hx
  exact ⟨a, h1, hq a h2⟩
def okL (x : S39) : Prop := (Lit.int .i64 x.f0).wf = true ∧ (Lit.int .i64 x.f1).wf = true ∧ x.f2.size ≤ maxLen
theorem opens39 : Opens Try.prog enc 39 k39 okL :=
  Opens.struct Try.underlying39 (by kernel_rfl) (OpensAt.cons (Opens.int Try.underlying3) rfl rfl rfl (by kernel_rfl) (OpensAt.cons (Opens.int Try.underlying3) rfl rfl rfl (by kernel_rfl) (OpensAt.last (Opens.string Try.underlying9) rfl rfl rfl (by kernel_rfl) rfl))) (fun b => (⟨b.1, b.2.1, b.2.2⟩ : S39)) (fun _ => rfl)
theorem opens33 : Opens Try.prog enc 33 (Kd.slice 39 k39) (fun l => ∀ x ∈ l, okL x) := Opens.slice Try.underlying33 (by kernel_rfl) opens39
theorem opens36 : Opens Try.prog enc 36 k36 okE :=
  (Opens.struct Try.underlying36 (by kernel_rfl)
    (OpensAt.cons (Opens.int Try.underlying3) rfl rfl rfl (by kernel_rfl)
    (OpensAt.cons (Opens.int Try.underlying3) rfl rfl rfl (by kernel_rfl)
    (OpensAt.cons (Opens.int Try.underlying3) rfl rfl rfl (by kernel_rfl)
    (OpensAt.cons (Opens.int Try.underlying3) rfl rfl rfl (by kernel_rfl)
    (OpensAt.cons (Opens.int Try.underlying3) rfl rfl rfl (by kernel_rfl)
    (OpensAt.cons (Opens.int Try.underlying3) rfl rfl rfl (by kernel_rfl)
    (OpensAt.cons (Opens.string Try.underlying9) rfl rfl rfl (by kernel_rfl)
    (OpensAt.cons (Opens.string Try.underlying9) rfl rfl rfl (by kernel_rfl)
    (OpensAt.cons opens33 rfl rfl rfl (by kernel_rfl)
    (OpensAt.last (Opens.int Try.underlying34) rfl rfl rfl (by kernel_rfl) rfl)))))))))) (fun b => (⟨b.1, b.2.1, b.2.2.1, b.2.2.2.1, b.2.2.2.2.1, b.2.2.2.2.2.1, b.2.2.2.2.2.2.1, b.2.2.2.2.2.2.2.1, b.2.2.2.2.2.2.2.2.1, b.2.2.2.2.2.2.2.2.2⟩ : S36)) (fun _ => rfl) : Opens Try.prog enc 36 k36 _).imp (fun _ h => h.2.2.2.2.2.2.2.2.1)
theorem opens22 : Opens Try.prog enc 22 (Kd.slice 36 k36) (fun l => ∀ x ∈ l, okE x) := Opens.slice Try.underlying22 (by kernel_rfl) opens36
end Go.Proofs.Ytnilmhhidmdlnaa.RD
