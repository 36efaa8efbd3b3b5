/- WideRestores, of the plain functions: adding and then subtracting restores a number; products do not depend on the order. -/
import Derived.Test.YtkhocaehhflpcaaPAx11
import Derived.Test.YtkhocaehhflpcaaPAx28
import Derived.Test.YtkhocaehhflpcaaSums
import Derived.Test.YtkhocaehhflpcaaLive
namespace Go.Proofs.Ytkhocaehhflpcaa.Pure
open Go.RowKit Go.Proofs.Ytkhocaehhflpcaa.PA Go.Proofs.Ytkhocaehhflpcaa.Uw Go.Proofs.Ytkhocaehhflpcaa.Wide Go.Proofs.YtkhocaehhflpcaaW.PrintWords Go.Proofs.YtkhocaehhflpcaaW.PrintLast
theorem WideRestores : corebanklaw01_WideRestores.Pure := by
  intro a b c d n ha hb hc hd hn
  replace ha := wf_I ha
  replace hb := wf_U hb
  replace hc := wf_I hc
  replace hd := wf_U hd
  replace hn := wf_I hn
  refine ⟨1002, ?_⟩
  have hj1 : corebanklaw01_WideRestores.j1 1001 n (if -9223372036854775808 ≤ val a b ∧ val a b < 9223372036854775808 then val a b else 0) (if -9223372036854775808 ≤ val a b ∧ val a b < 9223372036854775808 then true else false) false = some true := by
    obtain ⟨hnv, hnI, hnU⟩ := div_val n (by have := hn.1; have := hn.2; omega)
    simp only [corebanklaw01_WideRestores.j1]
    rw [if_neg (by decide), Of_f n hn]
    simp only [Option.bind_some]
    by_cases hin : -9223372036854775808 ≤ val a b ∧ val a b < 9223372036854775808
    · rw [if_pos hin, if_pos hin]
      have hk : I (val a b) := ⟨by omega, by omega⟩
      generalize val a b = k at *
      have hp := prod_in n k hn hk
      have ho : out (n * k) = some ((n * k) / 18446744073709551616, (n * k) % 18446744073709551616, 0) := by unfold out; rw [if_pos hp]
      rw [Scale_f 1000 (by omega) _ _ k hnI hnU hk, hnv, ho, Mul_f n k hn hk, Mul_f k n hk hn, Int.mul_comm k n, live_f 1000 (by omega)]
      simp
    · rw [if_neg hin, if_neg hin]
      have h0 : I (0 : Int) := ⟨by omega, by omega⟩
      rw [Scale_f 1000 (by omega) _ _ 0 hnI hnU h0, hnv, Int.mul_zero, show out 0 = some (0, 0, 0) from by unfold out; rfl, live_f 1000 (by omega)]
      simp
  unfold corebanklaw01_WideRestores.f
  rw [Add_f a b c d ha hb hc hd]
  have hi := Int_f a b ha hb
  have hi2 : wide_Int.f a b = some ((if -9223372036854775808 ≤ val a b ∧ val a b < 9223372036854775808 then val a b else 0), (if -9223372036854775808 ≤ val a b ∧ val a b < 9223372036854775808 then true else false)) := by rw [hi]; split <;> rfl
  have hadd : wide_Add.f c d a b = out (val a b + val c d) := by rw [Add_f c d a b hc hd ha hb, Int.add_comm]
  by_cases hin : val a b + val c d < 170141183460469231731687303715884105728 ∧ -170141183460469231731687303715884105728 ≤ val a b + val c d
  · obtain ⟨hsv, hsI, hsU⟩ := div_val (val a b + val c d) hin
    have ho : out (val a b + val c d) = some ((val a b + val c d) / 18446744073709551616, (val a b + val c d) % 18446744073709551616, 0) := by unfold out; rw [if_pos hin]
    have hbd := val_bd a b ha hb
    have ho2 : out (val a b) = some (a, b, 0) := by unfold out; rw [if_pos (by omega), val_div a b hb, val_mod a b hb]
    rw [ho] at hadd ⊢
    simp only [Option.bind_some]
    rw [Sub_f _ _ c d hsI hsU hc hd, hsv, (by omega : val a b + val c d - val c d = val a b), ho2]
    simp only [Option.bind_some]
    rw [if_pos trivial, if_pos trivial]
    simp only [corebanklaw01_WideRestores.j0, beq_self_eq_true, Bool.not_true, Bool.or_self]
    rw [if_neg (by decide), hadd, hi2]
    simp only [Option.bind_some, beq_self_eq_true, Bool.not_true, Bool.or_self, bne_self_eq_false]
    rw [if_neg (by decide)]
    exact hj1
  · have ho : out (val a b + val c d) = some (0, 0, 6) := by unfold out; rw [if_neg hin]
    rw [ho] at hadd ⊢
    simp only [Option.bind_some]
    rw [Sub_f 0 0 c d ⟨by omega, by omega⟩ ⟨by omega, by omega⟩ hc hd]
    have : ∃ r, out (val 0 0 - val c d) = some r := by unfold out; split <;> exact ⟨_, rfl⟩
    obtain ⟨r, hr⟩ := this
    rw [hr]
    simp only [Option.bind_some]
    rw [if_neg (by decide)]
    simp only [corebanklaw01_WideRestores.j0]
    rw [if_neg (by decide), hadd, hi2]
    simp only [Option.bind_some, beq_self_eq_true, Bool.not_true, Bool.or_self, bne_self_eq_false]
    rw [if_neg (by decide)]
    exact hj1
end Go.Proofs.Ytkhocaehhflpcaa.Pure
