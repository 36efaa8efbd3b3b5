/- The reference's text of a wide number. -/
import Derived.Test.YtkhocaehhflpcaaPAx16
import Derived.Test.YtkhocaehhflpcaaPAx7
import Derived.Test.YtkhocaehhflpcaaText
import Derived.Test.YtkhocaehhflpcaaQuotR
namespace Go.Proofs.Ytkhocaehhflpcaa.Wide
open Go.RowKit Go.Proofs.Ytkhocaehhflpcaa.PA Go.Proofs.Ytkhocaehhflpcaa.Uw Go.Proofs.Ytkhocaehhflpcaa.Dec Go.Proofs.YtkhocaehhflpcaaW.PrintWords Go.Proofs.YtkhocaehhflpcaaW.PrintLast

theorem textr_step (neg : Bool) (k : Nat) (hk : 257 ≤ k) (m : Int) (x : ByteArray) (h0 : 0 ≤ m) (h1 : m < 340282366920938463463374607431768211456) (hx : x.size ≤ 1000) (hc : x.data.toList = [] ∨ 0 < m) :
    corebankref01_Text.l0 (k + 1) neg x (m / 18446744073709551616) (m % 18446744073709551616) = corebankref01_Text.l0 k neg (dg (m % 10) ++ x) ((m / 10) / 18446744073709551616) ((m / 10) % 18446744073709551616) := by
  have hr : 0 ≤ m % 10 ∧ m % 10 < 10 := by omega
  have hs := dg_size (m % 10) hr.1 hr.2
  have hd : (⟨#[48, 49, 50, 51, 52, 53, 54, 55, 56, 57]⟩ : ByteArray).extract (m % 10 : Int).toNat ((m % 10 + 1) : Int).toNat = dg (m % 10) := rfl
  have S : ((corebankref01_Quotient.f k (m / 18446744073709551616) (m % 18446744073709551616) 10).bind fun bt309 => (if 0 ≤ bt309.2.2 then (if bt309.2.2 ≤ (IntKind.u64.wrap (bt309.2.2 + 1)) then (if (IntKind.u64.wrap (bt309.2.2 + 1)) ≤ 10 then (if ((⟨#[48, 49, 50, 51, 52, 53, 54, 55, 56, 57]⟩ : ByteArray).extract (bt309.2.2 : Int).toNat ((IntKind.u64.wrap (bt309.2.2 + 1)) : Int).toNat).size + x.size ≤ 9223372036854775807 then (corebankref01_Text.l0 k neg (((⟨#[48, 49, 50, 51, 52, 53, 54, 55, 56, 57]⟩ : ByteArray).extract (bt309.2.2 : Int).toNat ((IntKind.u64.wrap (bt309.2.2 + 1)) : Int).toNat) ++ x) bt309.1 bt309.2.1) else (none)) else (none)) else (none)) else (none))) = corebankref01_Text.l0 k neg (dg (m % 10) ++ x) ((m / 10) / 18446744073709551616) ((m / 10) % 18446744073709551616) := by
    rw [Quotient_f k hk m 10 h0 h1 (by omega) (by omega)]
    simp only [Option.bind_some]
    rw [wu (m % 10 + 1) (by omega) (by omega), if_pos hr.1, if_pos (by omega), if_pos (by omega), hd, if_pos (by rw [hs]; omega)]
  simp only [corebankref01_Text.l0]
  by_cases hx0 : x.toList = ([] : List UInt8)
  · rw [if_pos hx0]; exact S
  · rw [if_neg hx0]
    rw [ByteArray.toList_eq] at hx0
    have hm : 0 < m := by
      rcases hc with hc | hc
      · exact absurd hc hx0
      · exact hc
    by_cases hH : m / 18446744073709551616 > 0
    · rw [if_pos hH]; exact S
    · rw [if_neg hH, if_pos (by omega)]; exact S
theorem textr_end (neg : Bool) (x : ByteArray) (hx : x.size ≤ 1000) (hne : x.data.toList ≠ []) : ∃ y, (∀ k, 1 ≤ k → corebankref01_Text.l0 k neg x ((0 : Int) / 18446744073709551616) ((0 : Int) % 18446744073709551616) = some y) ∧ y.data.toList = pre (neg = true) ++ x.data.toList := by
  have hne' : ¬ x.toList = ([] : List UInt8) := by rw [ByteArray.toList_eq]; exact hne
  cases neg with
  | true =>
    refine ⟨(⟨#[45]⟩ : ByteArray) ++ x, ?_, ?_⟩
    · intro k hk
      obtain ⟨k, rfl⟩ : ∃ i, k = i + 1 := ⟨k - 1, by omega⟩
      simp only [corebankref01_Text.l0]
      rw [if_neg hne', if_neg (by decide), if_neg (by decide)]
      simp only [if_true]
      rw [if_pos (by omega)]
    · rw [app_list]; unfold pre; rw [if_pos rfl]
  | false =>
    refine ⟨x, ?_, ?_⟩
    · intro k hk
      obtain ⟨k, rfl⟩ : ∃ i, k = i + 1 := ⟨k - 1, by omega⟩
      simp only [corebankref01_Text.l0]
      rw [if_neg hne', if_neg (by decide), if_neg (by decide)]
      rfl
    · unfold pre; rw [if_neg (by decide)]; rfl
theorem textr_l0 (neg : Bool) (j : Nat) : ∀ (m : Int) (x : ByteArray), 0 ≤ m → m < 10 ^ j → m < 340282366920938463463374607431768211456 → x.size + j ≤ 1000 → x.data.toList ≠ [] →
    ∃ y, (∀ k, j + 260 ≤ k → corebankref01_Text.l0 k neg x (m / 18446744073709551616) (m % 18446744073709551616) = some y) ∧ y.data.toList = pre (neg = true) ++ ((if m = 0 then [] else D j m) ++ x.data.toList) := by
  induction j with
  | zero =>
    intro m x h0 h1 hQ hx hne
    have e : m = 0 := by simp at h1; omega
    subst e
    obtain ⟨y, hy, hl⟩ := textr_end neg x (by omega) hne
    exact ⟨y, fun k hk => hy k (by omega), by rw [hl]; simp⟩
  | succ j ih =>
    intro m x h0 h1 hQ hx hne
    by_cases hm : m = 0
    · subst hm
      obtain ⟨y, hy, hl⟩ := textr_end neg x (by omega) hne
      exact ⟨y, fun k hk => hy k (by omega), by rw [hl]; simp⟩
    · have hr : 0 ≤ m % 10 ∧ m % 10 < 10 := by omega
      have hs := dg_size (m % 10) hr.1 hr.2
      have h10 : m / 10 < 10 ^ j := by rw [Int.pow_succ] at h1; omega
      obtain ⟨y, hy, hl⟩ := ih (m / 10) (dg (m % 10) ++ x) (by omega) h10 (by omega) (by rw [app_size, hs]; omega) (by rw [app_list, dg_list _ hr.1 hr.2]; simp)
      refine ⟨y, ?_, ?_⟩
      · intro k hk
        obtain ⟨k, rfl⟩ : ∃ i, k = i + 1 := ⟨k - 1, by omega⟩
        rw [textr_step neg k (by omega) m x h0 hQ (by omega) (.inr (by omega))]
        exact hy k (by omega)
      · rw [hl, app_list, dg_list _ hr.1 hr.2, if_neg hm, D_step j m h0]; simp
theorem Text_r (h l : Int) (hh : I h) (hl : U l) : ∃ y, (∀ k, 400 ≤ k → corebankref01_Text.f k h l = some y) ∧ y.data.toList = pre (val h l < 0) ++ D 40 (ab (val h l)) := by
  have hb := val_bd h l hh hl
  have a0 := ab_nonneg (val h l)
  have a1 := ab_le (val h l) (170141183460469231731687303715884105728) hb.1 (by omega)
  generalize hv : val h l = v at *
  have hr : 0 ≤ ab v % 10 ∧ ab v % 10 < 10 := by omega
  have hs := dg_size (ab v % 10) hr.1 hr.2
  have h39 : (10 : Int) ^ 39 = 1000000000000000000000000000000000000000 := by decide
  obtain ⟨y, hy, hlist⟩ := textr_l0 (decide (v < 0)) 39 (ab v / 10) (dg (ab v % 10) ++ (⟨#[]⟩ : ByteArray)) (by omega) (by omega) (by omega) (by rw [app_size, hs]; decide) (by rw [app_list, dg_list _ hr.1 hr.2]; simp)
  refine ⟨y, ?_, ?_⟩
  · intro k hk
    obtain ⟨k, rfl⟩ : ∃ i, k = i + 1 := ⟨k - 1, by omega⟩
    unfold corebankref01_Text.f
    rw [Split_f h l hh hl, hv]
    simp only [Option.bind_some]
    rw [textr_step _ k (by omega) (ab v) (⟨#[]⟩ : ByteArray) a0 (by omega) (by decide) (.inl rfl)]
    exact hy k (by omega)
  · rw [hlist, app_list, dg_list _ hr.1 hr.2, D_step 39 (ab v) a0]
    unfold pre
    by_cases g : v < 0 <;> simp [g]
end Go.Proofs.Ytkhocaehhflpcaa.Wide
