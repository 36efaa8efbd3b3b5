/- WideAdds, of the plain functions: Add, Sub and Cmp are those of the reference. -/
import Derived.Test.YtkhocaehhflpcaaPAx11
import Derived.Test.YtkhocaehhflpcaaPAx25
import Derived.Test.YtkhocaehhflpcaaPAx26
import Derived.Test.YtkhocaehhflpcaaWideS
import Derived.Test.YtkhocaehhflpcaaSums
import Derived.Test.YtkhocaehhflpcaaLive
namespace Go.Proofs.Ytkhocaehhflpcaa.Pure
open Go.RowKit Go.Proofs.Ytkhocaehhflpcaa.PA Go.Proofs.Ytkhocaehhflpcaa.Uw Go.Proofs.Ytkhocaehhflpcaa.Wide Go.Proofs.YtkhocaehhflpcaaW.PrintWords Go.Proofs.YtkhocaehhflpcaaW.PrintLast
theorem out_some' (v : Int) : ∃ r, out v = some r := by unfold out; split <;> exact ⟨_, rfl⟩
theorem sg_not (v : Int) : sg (!(decide (v < 0))) (ab v) = -v := by unfold sg ab; by_cases h : v < 0 <;> simp [h]
theorem Sub_r (h l h' l' : Int) (hh : I h) (hl : U l) (hh' : I h') (hl' : U l') : corebankref01_Sub.f h l h' l' = out (val h l - val h' l') := by
  unfold corebankref01_Sub.f
  have hb := val_bd h l hh hl
  have hb' := val_bd h' l' hh' hl'
  rw [Split_f h l hh hl, Split_f h' l' hh' hl']
  simp only [Option.bind_some]
  have a1 := ab_nonneg (val h l)
  have a2 := ab_nonneg (val h' l')
  have a3 := ab_le (val h l) 170141183460469231731687303715884105728 hb.1 (by omega)
  have a4 := ab_le (val h' l') 170141183460469231731687303715884105728 hb'.1 (by omega)
  rw [sum_f _ _ _ _ ⟨a1, by omega⟩ ⟨a2, by omega⟩, sg_ab, sg_not, show val h l + -val h' l' = val h l - val h' l' from by omega]
  obtain ⟨r, hr⟩ := out_some' (val h l - val h' l')
  rw [hr]; rfl
theorem Cmp_some (a b c d : Int) : ∃ r, wide_Cmp.f a b c d = some r ∧ corebankref01_Cmp.f a b c d = some r := by
  unfold wide_Cmp.f corebankref01_Cmp.f
  repeat' split
  all_goals exact ⟨_, rfl, rfl⟩
theorem WideAdds : corebanklaw01_WideAdds.Pure := by
  intro a b c d ha hb hc hd
  refine ⟨1000, ?_⟩
  unfold corebanklaw01_WideAdds.f
  obtain ⟨z, h1, h2⟩ := Cmp_some a b c d
  rw [Add_f a b c d (wf_I ha) (wf_U hb) (wf_I hc) (wf_U hd), Add_r a b c d (wf_I ha) (wf_U hb) (wf_I hc) (wf_U hd), Sub_f a b c d (wf_I ha) (wf_U hb) (wf_I hc) (wf_U hd), Sub_r a b c d (wf_I ha) (wf_U hb) (wf_I hc) (wf_U hd), h1, h2, live_f 1000 (by omega)]
  obtain ⟨r, hr⟩ := out_some' (val a b + val c d)
  obtain ⟨s, hs⟩ := out_some' (val a b - val c d)
  rw [hr, hs]
  simp
end Go.Proofs.Ytkhocaehhflpcaa.Pure
