/- WideQuotients, of the plain functions: Div is the quotient and the remainder of the reference. -/
import Derived.Test.YtkhocaehhflpcaaPAx13
import Derived.Test.YtkhocaehhflpcaaQuot
import Derived.Test.YtkhocaehhflpcaaQuotR
import Derived.Test.YtkhocaehhflpcaaLive
namespace Go.Proofs.Ytkhocaehhflpcaa.Pure
open Go.RowKit Go.Proofs.Ytkhocaehhflpcaa.PA Go.Proofs.Ytkhocaehhflpcaa.Uw Go.Proofs.Ytkhocaehhflpcaa.Wide Go.Proofs.YtkhocaehhflpcaaW.PrintWords Go.Proofs.YtkhocaehhflpcaaW.PrintLast
theorem WideQuotients : corebanklaw01_WideQuotients.Pure := by
  intro h l n hh hl hn
  refine ⟨1000, ?_⟩
  unfold corebanklaw01_WideQuotients.f
  rw [Div_f 1000 (by omega) h l n (wf_I hh) (wf_U hl) (wf_I hn), Div_r 1000 (by omega) h l n (wf_I hh) (wf_U hl) (wf_I hn), live_f 1000 (by omega)]
  split <;> simp
end Go.Proofs.Ytkhocaehhflpcaa.Pure
