/- The arguments of the laws BalanceAdds and BalanceZero: what each reads as; a row that came in as a row that may be shared. -/
import Derived.Test.YtnilmhhidmdlnaaOpens
import Derived.Test.YtnilmhhidmdlnaaWShare
namespace Go.Proofs.Ytnilmhhidmdlnaa.RD
open Go Go.RowKit Go.Proofs.Ytnilmhhidmdlnaa.PA Go.Proofs.Ytnilmhhidmdlnaa.Pl Go.Proofs.YtnilmhhidmdlnaaW.PrintWords
variable {H : Type} {enc : TypeId × Value → H}
def okB (e : S36) : Prop := okE e ∧ (Lit.int .i64 e.f1).wf = true
theorem opens36b : Opens Try.prog enc 36 k36 okB :=
  (Opens.struct Try.underlying36 (by kernel_rfl)
    (OpensAt.cons (Opens.int Try.underlying3) rfl rfl rfl (by kernel_rfl)
    (OpensAt.cons (Opens.int Try.underlying3) rfl rfl rfl (by kernel_rfl)
    (OpensAt.cons (Opens.int Try.underlying3) rfl rfl rfl (by kernel_rfl)
    (OpensAt.cons (Opens.int Try.underlying3) rfl rfl rfl (by kernel_rfl)
    (OpensAt.cons (Opens.int Try.underlying3) rfl rfl rfl (by kernel_rfl)
    (OpensAt.cons (Opens.int Try.underlying3) rfl rfl rfl (by kernel_rfl)
    (OpensAt.cons (Opens.string Try.underlying9) rfl rfl rfl (by kernel_rfl)
    (OpensAt.cons (Opens.string Try.underlying9) rfl rfl rfl (by kernel_rfl)
    (OpensAt.cons opens33 rfl rfl rfl (by kernel_rfl)
    (OpensAt.last (Opens.int Try.underlying34) rfl rfl rfl (by kernel_rfl) rfl)))))))))) (fun b => (⟨b.1, b.2.1, b.2.2.1, b.2.2.2.1, b.2.2.2.2.1, b.2.2.2.2.2.1, b.2.2.2.2.2.2.1, b.2.2.2.2.2.2.2.1, b.2.2.2.2.2.2.2.2.1, b.2.2.2.2.2.2.2.2.2⟩ : S36)) (fun _ => rfl) : Opens Try.prog enc 36 k36 _).imp (fun _ h => ⟨h.2.2.2.2.2.2.2.2.1, h.2.1⟩)
theorem opens22b : Opens Try.prog enc 22 (Kd.slice 36 k36) (fun l => ∀ x ∈ l, okB x) := Opens.slice Try.underlying22 (by kernel_rfl) opens36b
theorem heap36 : Kd.Heap k36 := Kd.heap_iso _ (Kd.heap_pair (Kd.heap_int _) (Kd.heap_pair (Kd.heap_int _) (Kd.heap_pair (Kd.heap_int _) (Kd.heap_pair (Kd.heap_int _) (Kd.heap_pair (Kd.heap_int _) (Kd.heap_pair (Kd.heap_int _) (Kd.heap_pair Kd.heap_string (Kd.heap_pair Kd.heap_string (Kd.heap_pair (Kd.heap_slice 39 (Kd.heap_iso _ (Kd.heap_pair (Kd.heap_int _) (Kd.heap_pair (Kd.heap_int _) Kd.heap_string)))) (Kd.heap_int _))))))))))
/-- What came in may be shared. -/
theorem shared {w : World} {A : Option Addr} {c : Nat} {l : List S36} (h : Kd.C k36 w A l.length l) (hc : l.length ≤ c) : Kd.V k36 36 w w.heap.size (fun k_ => (fun k => k < w.heap.size) k_) (.slice A l.length c) l := Kd.V_mk hc (Kd.C_F heap36 h)
end Go.Proofs.Ytnilmhhidmdlnaa.RD
