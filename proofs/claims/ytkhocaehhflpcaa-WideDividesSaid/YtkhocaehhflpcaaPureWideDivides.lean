/- WideDivides, of the plain functions: a number is its quotient times the divisor plus the remainder. -/
import Derived.Test.YtkhocaehhflpcaaPAx27
import Derived.Test.YtkhocaehhflpcaaQuot
import Derived.Test.YtkhocaehhflpcaaSums
import Derived.Test.YtkhocaehhflpcaaLive
namespace Go.Proofs.Ytkhocaehhflpcaa.Pure
open Go.RowKit Go.Proofs.Ytkhocaehhflpcaa.PA Go.Proofs.Ytkhocaehhflpcaa.Uw Go.Proofs.Ytkhocaehhflpcaa.Wide Go.Proofs.YtkhocaehhflpcaaW.PrintWords Go.Proofs.YtkhocaehhflpcaaW.PrintLast
theorem WideDivides : corebanklaw01_WideDivides.Pure := by
  intro h l n hh hl hn
  replace hh := wf_I hh
  replace hl := wf_U hl
  replace hn := wf_I hn
  refine ⟨1001, ?_⟩
  unfold corebanklaw01_WideDivides.f
  rw [Div_f 1001 (by omega) h l n hh hl hn]
  by_cases hn1 : n < 1
  · rw [if_pos hn1]
    simp only [Option.bind_some]
    rw [if_pos hn1, live_f 1001 (by omega)]
    simp
  · rw [if_neg hn1]
    simp only [Option.bind_some]
    have hb := val_bd h l hh hl
    have hn0 : 0 < n := by omega
    have hr0 := Int.emod_nonneg (val h l) (by omega : n ≠ 0)
    have hr1 := Int.emod_lt_of_pos (val h l) hn0
    have hdm := Int.mul_ediv_add_emod (val h l) n
    have hsgn : (h < 0) ↔ (val h l < 0) := by unfold val U at *; omega
    rw [if_neg hn1, if_pos trivial, if_neg (by omega), decide_eq_false (by omega)]
    have hvd := val_div h l hl
    have hvm := val_mod h l hl
    obtain ⟨v, hv⟩ : ∃ v, val h l = v := ⟨_, rfl⟩
    rw [hv] at hb hr0 hr1 hdm hsgn hvd hvm ⊢
    obtain ⟨q, hq⟩ : ∃ q, v / n = q := ⟨_, rfl⟩
    obtain ⟨r, hr⟩ : ∃ r, v % n = r := ⟨_, rfl⟩
    rw [hq, hr] at hdm
    rw [hr] at hr0 hr1
    rw [hq, hr]
    have hqb : q < 170141183460469231731687303715884105728 ∧ -170141183460469231731687303715884105728 ≤ q := by
      constructor
      · by_cases g : q < 170141183460469231731687303715884105728
        · exact g
        · have : 1 * q ≤ n * q := Int.mul_le_mul_of_nonneg_right (by omega) (by omega)
          omega
      · by_cases g : -170141183460469231731687303715884105728 ≤ q
        · exact g
        · have : n * q ≤ n * (-170141183460469231731687303715884105729) := Int.mul_le_mul_of_nonneg_left (by omega) (by omega)
          omega
    have hqs : 0 ≤ v → 0 ≤ n * q := fun g => Int.mul_nonneg (by omega) (by rw [← hq]; exact Int.ediv_nonneg g (by omega))
    have hqs2 : 0 ≤ q → 0 ≤ n * q := fun g => Int.mul_nonneg (by omega) g
    obtain ⟨hqv, hqI, hqU⟩ := div_val q hqb
    have hrI : I r := by have := hn.2; unfold I; omega
    obtain ⟨hrv, hrI2, hrU⟩ := div_val r (by have := hn.2; omega)
    simp only [corebanklaw01_WideDivides.j0]
    rw [if_neg (by decide), Scale_f 1000 (by omega) _ _ n hqI hqU hn, hqv, Int.mul_comm q n]
    have hnv : n * q = v - r := by omega
    by_cases hin : n * q < 170141183460469231731687303715884105728 ∧ -170141183460469231731687303715884105728 ≤ n * q
    · obtain ⟨hpv, hpI, hpU⟩ := div_val (n * q) hin
      have ho : out (n * q) = some ((n * q) / 18446744073709551616, (n * q) % 18446744073709551616, 0) := by unfold out; rw [if_pos hin]
      rw [ho]
      simp only [Option.bind_some]
      rw [if_pos trivial, Of_f r hrI]
      simp only [Option.bind_some]
      rw [Add_f _ _ _ _ hpI hpU hrI2 hrU, hpv, hrv, hnv, (by omega : v - r + r = v)]
      have ho2 : out v = some (v / 18446744073709551616, v % 18446744073709551616, 0) := by unfold out; rw [if_pos (by omega)]
      rw [ho2]
      simp only [Option.bind_some]
      rw [if_pos trivial, hvd, hvm, live_f 1000 (by omega)]
      simp
    · have ho : out (n * q) = some (0, 0, 6) := by unfold out; rw [if_neg hin]
      rw [ho]
      simp only [Option.bind_some]
      have hvneg : v < 0 := by
        by_cases g : v < 0
        · exact g
        · have := hqs (by omega); omega
      have hqneg : q < 0 := by
        by_cases g : q < 0
        · exact g
        · have := hqs2 (by omega); omega
      have hrpos : 0 < r := by omega
      have h1I : I (1 : Int) := by unfold I; omega
      obtain ⟨h1v, h1I2, h1U⟩ := div_val 1 (by omega)
      have hq1 : q + 1 < 170141183460469231731687303715884105728 := by omega
      obtain ⟨hnv2, hnI2, hnU2⟩ := div_val (q + 1) (by omega)
      have hnq1 : n * (q + 1) = v - r + n := by rw [Int.mul_add, Int.mul_one]; omega
      have hnr : I (n - r) := by have := hn.2; unfold I; omega
      rw [if_neg (by decide), Of_f 1 h1I]
      simp only [Option.bind_some]
      rw [Add_f _ _ _ _ hqI hqU h1I2 h1U, hqv, h1v]
      have ho3 : out (q + 1) = some ((q + 1) / 18446744073709551616, (q + 1) % 18446744073709551616, 0) := by unfold out; rw [if_pos (by omega)]
      rw [ho3]
      simp only [Option.bind_some]
      rw [Scale_f 1000 (by omega) _ _ n hnI2 hnU2 hn, hnv2, Int.mul_comm (q + 1) n, hnq1]
      have hlast : v - r + n < 170141183460469231731687303715884105728 ∧ -170141183460469231731687303715884105728 ≤ v - r + n := by have := hn.2; omega
      obtain ⟨hpv, hpI, hpU⟩ := div_val (v - r + n) hlast
      have ho4 : out (v - r + n) = some ((v - r + n) / 18446744073709551616, (v - r + n) % 18446744073709551616, 0) := by unfold out; rw [if_pos hlast]
      rw [ho4]
      simp only [Option.bind_some]
      obtain ⟨hmv, hmI, hmU⟩ := div_val (n - r) (by have := hnr.1; have := hnr.2; omega)
      rw [w64 (n := n - r) (by omega) (by have := hn.2; omega), Of_f (n - r) hnr]
      simp only [Option.bind_some]
      rw [Sub_f _ _ _ _ hpI hpU hmI hmU, hpv, hmv, (by omega : v - r + n - (n - r) = v)]
      have ho2 : out v = some (v / 18446744073709551616, v % 18446744073709551616, 0) := by unfold out; rw [if_pos (by omega)]
      rw [ho2]
      simp only [Option.bind_some]
      rw [if_pos (hsgn.mpr hvneg), if_pos hrpos, if_pos trivial, if_pos trivial, if_pos trivial, hvd, hvm, live_f 1000 (by omega)]
      simp
end Go.Proofs.Ytkhocaehhflpcaa.Pure
