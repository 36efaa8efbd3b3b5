/- The chapter's examples hold of the program; what well formed numbers are. -/
import Derived.Test.YtkhocaehhflpcaaPAx12
import Derived.Test.YtkhocaehhflpcaaWord
namespace Go.Proofs.Ytkhocaehhflpcaa.Wide
open Go.RowKit Go.Proofs.Ytkhocaehhflpcaa.PA Go.Proofs.Ytkhocaehhflpcaa.Uw Go.Proofs.YtkhocaehhflpcaaW.PrintWords Go.Proofs.YtkhocaehhflpcaaW.PrintLast

theorem wf_I {n : Int} (h : (Lit.int .i64 n).wf = true) : I n := by
  have g := h
  simp [Lit.wf, IntKind.min, IntKind.max, IntKind.signed, IntKind.bits] at g
  unfold I; omega
theorem wf_U {n : Int} (h : (Lit.int .u64 n).wf = true) : U n := by
  have g := h
  simp [Lit.wf, IntKind.min, IntKind.max, IntKind.signed, IntKind.bits] at g
  unfold U; omega
theorem live_at : corebanklaw01_live.f 700 = some true := by decide +kernel
theorem live_f (k : Nat) (hk : 700 ≤ k) : corebanklaw01_live.f k = some true := at_rounds corebanklaw01_live.mono hk live_at
end Go.Proofs.Ytkhocaehhflpcaa.Wide
