/- The decimal form of a wide number: the program's and the reference's text. -/
import Derived.Test.YtkhocaehhflpcaaPAx11
import Derived.Test.YtkhocaehhflpcaaDec
import Derived.Test.YtkhocaehhflpcaaQuot
namespace Go.Proofs.Ytkhocaehhflpcaa.Wide
open Go.RowKit Go.Proofs.Ytkhocaehhflpcaa.PA Go.Proofs.Ytkhocaehhflpcaa.Uw Go.Proofs.Ytkhocaehhflpcaa.Dec Go.Proofs.YtkhocaehhflpcaaW.PrintWords Go.Proofs.YtkhocaehhflpcaaW.PrintLast

/-- A digit as a text. -/
def dg (r : Int) : ByteArray := (⟨#[48, 49, 50, 51, 52, 53, 54, 55, 56, 57]⟩ : ByteArray).extract (r : Int).toNat ((r + 1) : Int).toNat
theorem dg_list (r : Int) (h0 : 0 ≤ r) (h1 : r < 10) : (dg r).data.toList = [dgt r] := by
  have : r = 0 ∨ r = 1 ∨ r = 2 ∨ r = 3 ∨ r = 4 ∨ r = 5 ∨ r = 6 ∨ r = 7 ∨ r = 8 ∨ r = 9 := by omega
  rcases this with rfl | rfl | rfl | rfl | rfl | rfl | rfl | rfl | rfl | rfl <;> decide
theorem dg_size (r : Int) (h0 : 0 ≤ r) (h1 : r < 10) : (dg r).size = 1 := by
  have := congrArg List.length (dg_list r h0 h1)
  rw [Array.length_toList] at this
  exact this
theorem app_list (a b : ByteArray) : (a ++ b).data.toList = a.data.toList ++ b.data.toList := by rw [ByteArray.data_append, Array.toList_append]
theorem app_size (a b : ByteArray) : (a ++ b).size = a.size + b.size := ByteArray.size_append
/-- The sign's text. -/
def pre (neg : Prop) [Decidable neg] : List UInt8 := if neg then [45] else []
theorem text_l0 (h l : Int) (j : Nat) : ∀ (m : Int) (x : ByteArray), 0 ≤ m → m < 10 ^ j → m < 340282366920938463463374607431768211456 → x.size + j ≤ 1000 →
    ∃ y, (∀ k, j + 21 ≤ k → wide_Text.l0 k x h l (m / 18446744073709551616) (m % 18446744073709551616) = some y) ∧ y.data.toList = pre (h < 0) ++ ((if m = 0 then [] else D j m) ++ x.data.toList) := by
  have hbase : ∀ (x : ByteArray), x.size ≤ 1000 → ∃ y, (∀ k, 1 ≤ k → wide_Text.l0 k x h l ((0 : Int) / 18446744073709551616) ((0 : Int) % 18446744073709551616) = some y) ∧ y.data.toList = pre (h < 0) ++ x.data.toList := by
    intro x hx
    by_cases hn : h < 0
    · refine ⟨(⟨#[45]⟩ : ByteArray) ++ x, ?_, ?_⟩
      · intro k hk
        obtain ⟨k, rfl⟩ : ∃ i, k = i + 1 := ⟨k - 1, by omega⟩
        simp only [wide_Text.l0]
        rw [if_neg (by decide), if_pos hn, if_pos (by omega)]
      · rw [app_list]; unfold pre; rw [if_pos hn]
    · refine ⟨x, ?_, ?_⟩
      · intro k hk
        obtain ⟨k, rfl⟩ : ∃ i, k = i + 1 := ⟨k - 1, by omega⟩
        simp only [wide_Text.l0]
        rw [if_neg (by decide), if_neg hn]
      · unfold pre; rw [if_neg hn]; rfl
  induction j with
  | zero =>
    intro m x h0 h1 hQ hx
    have e : m = 0 := by simp at h1; omega
    subst e
    obtain ⟨y, hy, hl⟩ := hbase x (by omega)
    exact ⟨y, fun k hk => hy k (by omega), by rw [hl]; simp⟩
  | succ j ih =>
    intro m x h0 h1 hQ hx
    by_cases hm : m = 0
    · subst hm
      obtain ⟨y, hy, hl⟩ := hbase x (by omega)
      exact ⟨y, fun k hk => hy k (by omega), by rw [hl]; simp⟩
    · have hr : 0 ≤ m % 10 ∧ m % 10 < 10 := by omega
      have hs := dg_size (m % 10) hr.1 hr.2
      have h10 : m / 10 < 10 ^ j := by rw [Int.pow_succ] at h1; omega
      obtain ⟨y, hy, hl⟩ := ih (m / 10) (dg (m % 10) ++ x) (by omega) h10 (by omega) (by rw [app_size, hs]; omega)
      refine ⟨y, ?_, ?_⟩
      · intro k hk
        obtain ⟨k, rfl⟩ : ∃ i, k = i + 1 := ⟨k - 1, by omega⟩
        have hz : (!(m / 18446744073709551616 == 0) || (!(m % 18446744073709551616 == 0))) = true := by
          simp only [Bool.or_eq_true, Bool.not_eq_true', beq_eq_false_iff_ne]; omega
        simp only [wide_Text.l0]
        rw [if_pos hz, divide_f k (by omega) m 10 h0 hQ (by omega) (by omega)]
        simp only [Option.bind_some]
        rw [wu (m % 10 + 1) (by omega) (by omega), if_pos hr.1, if_pos (by omega), if_pos (by omega)]
        have hd : (⟨#[48, 49, 50, 51, 52, 53, 54, 55, 56, 57]⟩ : ByteArray).extract (m % 10 : Int).toNat ((m % 10 + 1) : Int).toNat = dg (m % 10) := rfl
        rw [hd, if_pos (by rw [hs]; omega)]
        exact hy k (by omega)
      · rw [hl, app_list, dg_list _ hr.1 hr.2, if_neg hm]
        have hD : D (j + 1) m = (if m / 10 = 0 then [] else D j (m / 10)) ++ [dgt (m % 10)] := by
          conv => lhs; unfold D
          by_cases h9 : m < 10
          · rw [if_pos h9, if_pos (by omega), (by omega : m % 10 = m)]; rfl
          · rw [if_neg h9, if_neg (by omega)]
        rw [hD]; simp
theorem D_step (j : Nat) (m : Int) (h0 : 0 ≤ m) : D (j + 1) m = (if m / 10 = 0 then [] else D j (m / 10)) ++ [dgt (m % 10)] := by
  conv => lhs; unfold D
  by_cases h9 : m < 10
  · rw [if_pos h9, if_pos (by omega), (by omega : m % 10 = m)]; rfl
  · rw [if_neg h9, if_neg (by omega)]
/-- The text of a number. -/
theorem Text_f (h l : Int) (hh : I h) (hl : U l) : ∃ y, (∀ k, 100 ≤ k → wide_Text.f k h l = some y) ∧ y.data.toList = pre (val h l < 0) ++ D 40 (ab (val h l)) := by
  have hb := val_bd h l hh hl
  have a0 := ab_nonneg (val h l)
  have a1 := ab_le (val h l) (170141183460469231731687303715884105728) hb.1 (by omega)
  have hsgn : (h < 0) ↔ (val h l < 0) := by unfold val U at *; omega
  generalize hv : val h l = v at *
  have hr : 0 ≤ ab v % 10 ∧ ab v % 10 < 10 := by omega
  have hs := dg_size (ab v % 10) hr.1 hr.2
  obtain ⟨y, hy, hlist⟩ := text_l0 h l 39 (ab v / 10) (dg (ab v % 10)) (by omega) (by have : (10 : Int) ^ 39 = 1000000000000000000000000000000000000000 := by decide
                                                                                      omega) (by omega) (by omega)
  refine ⟨y, ?_, ?_⟩
  · intro k hk
    unfold wide_Text.f
    rw [absolute_f h l hh hl, hv]
    simp only [Option.bind_some]
    rw [divide_f k (by omega) (ab v) 10 a0 (by omega) (by omega) (by omega)]
    simp only [Option.bind_some]
    rw [wu (ab v % 10 + 1) (by omega) (by omega), if_pos hr.1, if_pos (by omega), if_pos (by omega)]
    exact hy k (by omega)
  · rw [hlist, dg_list _ hr.1 hr.2, D_step 39 (ab v) a0]
    unfold pre
    by_cases g : v < 0
    · rw [if_pos g, if_pos (hsgn.mpr g)]
    · rw [if_neg g, if_neg (fun z => g (hsgn.mp z))]
end Go.Proofs.Ytkhocaehhflpcaa.Wide
