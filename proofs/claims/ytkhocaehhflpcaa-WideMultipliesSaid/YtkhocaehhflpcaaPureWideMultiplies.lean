/- WideMultiplies, of the plain functions: Of, Int, Mul and Scale are those of the reference. -/
import Derived.Test.YtkhocaehhflpcaaPAx21
import Derived.Test.YtkhocaehhflpcaaPAx22
import Derived.Test.YtkhocaehhflpcaaWideR
import Derived.Test.YtkhocaehhflpcaaSums
import Derived.Test.YtkhocaehhflpcaaLive
namespace Go.Proofs.Ytkhocaehhflpcaa.Pure
open Go.RowKit Go.Proofs.Ytkhocaehhflpcaa.PA Go.Proofs.Ytkhocaehhflpcaa.Uw Go.Proofs.Ytkhocaehhflpcaa.Wide Go.Proofs.YtkhocaehhflpcaaW.PrintWords Go.Proofs.YtkhocaehhflpcaaW.PrintLast
theorem Int_r (h l : Int) (hl : U l) : corebankref01_Int.f h l = if -9223372036854775808 ≤ val h l ∧ val h l < 9223372036854775808 then some (val h l, true) else some (0, false) := by
  unfold corebankref01_Int.f
  have hw : I (wrap64 l) := by unfold I wrap64; omega
  rw [Of_r _ hw]
  simp only [Option.bind_some]
  have hlw : wrap64 l = if l < 9223372036854775808 then l else l - 18446744073709551616 := by unfold wrap64 U at *; split <;> omega
  by_cases hin : -9223372036854775808 ≤ val h l ∧ val h l < 9223372036854775808
  · have hv : wrap64 l = val h l := by unfold val U at *; rw [hlw]; split <;> omega
    rw [if_pos hin, hv, val_div h l hl, val_mod h l hl]
    simp
  · rw [if_neg hin, if_neg]
    intro g
    apply hin
    have : wrap64 l / 18446744073709551616 = h ∧ wrap64 l % 18446744073709551616 = l := by simpa using g
    unfold val U at *
    rw [hlw] at this
    split at this <;> omega
theorem out_some (v : Int) : ∃ r, out v = some r := by unfold out; split <;> exact ⟨_, rfl⟩
theorem WideMultiplies : corebanklaw01_WideMultiplies.Pure := by
  intro h l m n hh hl hm hn
  refine ⟨1000, ?_⟩
  unfold corebanklaw01_WideMultiplies.f
  rw [Scale_f 1000 (by omega) h l n (wf_I hh) (wf_U hl) (wf_I hn), Scale_r 1000 (by omega) h l n (wf_I hh) (wf_U hl) (wf_I hn), Int_f h l (wf_I hh) (wf_U hl), Int_r h l (wf_U hl), Mul_f m n (wf_I hm) (wf_I hn), Mul_r 1000 (by omega) m n (wf_I hm) (wf_I hn), Of_f n (wf_I hn), Of_r n (wf_I hn), live_f 1000 (by omega)]
  obtain ⟨r, hr⟩ := out_some (val h l * n)
  rw [hr]
  split <;> simp
end Go.Proofs.Ytkhocaehhflpcaa.Pure
