/- The reference's reading of a decimal text. -/
import Derived.Test.YtkhocaehhflpcaaPAx14
import Derived.Test.YtkhocaehhflpcaaPAx15
import Derived.Test.YtkhocaehhflpcaaParse
import Derived.Test.YtkhocaehhflpcaaWideR
namespace Go.Proofs.Ytkhocaehhflpcaa.Wide
open Go.RowKit Go.Proofs.Ytkhocaehhflpcaa.PA Go.Proofs.Ytkhocaehhflpcaa.Uw Go.Proofs.Ytkhocaehhflpcaa.Dec Go.Proofs.YtkhocaehhflpcaaW.PrintWords Go.Proofs.YtkhocaehhflpcaaW.PrintLast

theorem dec_l0 (s : ByteArray) (hsz : s.size ≤ 1000) (r : List UInt8) : ∀ (l : List UInt8), s.data.toList = l ++ r → (∀ c ∈ l, isD c) → ∀ k, r.length + 1 ≤ k →
    corebankref01_Decimal.l0 k s (l.length : Int) = some (decide (okd s.data.toList)) := by
  induction r with
  | nil =>
    intro l ht hl k hk
    obtain ⟨k, rfl⟩ : ∃ i, k = i + 1 := ⟨k - 1, by omega⟩
    rw [List.append_nil] at ht
    have hs : s.size = l.length := by rw [size_list, ht]
    simp only [corebankref01_Decimal.l0]
    rw [if_neg (by omega), ByteArray.toList_eq, ht]
    rcases l with _ | ⟨c, r⟩
    · rw [if_neg (by decide), if_neg (by rw [hs]; decide), decide_eq_false (fun z => z.1 rfl)]
    · have hb : bt s 0 = (c.toNat : Int) := bt_list s [] r c (by rw [ht]; rfl)
      rw [List.length_cons] at hs
      by_cases h48 : c = 48
      · subst h48
        rcases r with _ | ⟨d, r⟩
        · rw [if_pos rfl]; rfl
        · rw [if_neg (by simp), if_pos (by omega), if_pos (by omega), hb, decide_eq_false (fun z => by have := z.2.2 rfl; rw [List.length_cons, List.length_cons] at this; omega)]
          rfl
      · rw [if_neg (by simp [h48]), if_pos (by omega), if_pos (by omega), hb, decide_eq_true ⟨by simp, hl, fun z => absurd (by simpa using z) h48⟩]
        have : ¬ ((c.toNat : Int) == 48) = true := by
          rw [beq_iff_eq]
          intro z
          apply h48
          apply UInt8.toNat_inj.mp
          have : (48 : UInt8).toNat = 48 := rfl
          omega
        simpa using this
  | cons c r ih =>
    intro l ht hl k hk
    obtain ⟨k, rfl⟩ : ∃ i, k = i + 1 := ⟨k - 1, by omega⟩
    have hs : s.size = l.length + (r.length + 1) := by rw [size_list, ht, List.length_append, List.length_cons]
    rw [List.length_cons] at hk
    simp only [corebankref01_Decimal.l0]
    rw [if_pos (by omega), if_pos (by omega), bt_list s l r c ht]
    have hno : ¬ isD c → ¬ okd s.data.toList := fun h z => h (z.2.1 c (by rw [ht]; simp))
    by_cases g1 : (c.toNat : Int) < 48
    · rw [if_pos g1, decide_eq_false (hno (by unfold isD; omega))]
    · rw [if_neg g1]
      by_cases g2 : (c.toNat : Int) > 57
      · rw [if_pos g2, decide_eq_false (hno (by unfold isD; omega))]
      · have hc : isD c := by unfold isD; omega
        have hln : (l.length : Int) + 1 = ((l ++ [c]).length : Int) := by simp
        rw [if_neg g2, w64 (n := (l.length : Int) + 1) (by omega) (by omega), hln]
        exact ih (l ++ [c]) (by rw [ht]; simp) (by intro x hx; rcases List.mem_append.mp hx with hx | hx; exact hl x hx; simp at hx; rw [hx]; exact hc) k (by omega)
theorem good_neg (T : List UInt8) : good (45 :: T) ↔ okd T ∧ T ≠ [48] := by unfold good body; simp
theorem good_pos (T : List UInt8) (h : T.head? ≠ some 45) : good T ↔ okd T := by unfold good body; simp [h]
theorem okd_head (T : List UInt8) (h : okd T) : T.head? ≠ some 45 := by
  intro z
  rcases T with _ | ⟨c, r⟩
  · simp at z
  · have : c = 45 := by simpa using z
    have := h.2.1 c (by simp)
    subst c
    unfold isD at this
    have e : (45 : UInt8).toNat = 45 := rfl
    omega
theorem Decimal_r (n : Nat) : ∀ (s : ByteArray), s.data.toList.length = n → s.size ≤ 1000 → ∀ k, 2 * n + 1005 ≤ k → corebankref01_Decimal.f k s = some (decide (good s.data.toList)) := by
  induction n with
  | zero =>
    intro s hn hsz k hk
    obtain ⟨k, rfl⟩ : ∃ i, k = i + 1 + 1 := ⟨k - 2, by omega⟩
    have hsl := size_list s
    have hT : s.data.toList = [] := List.length_eq_zero_iff.mp hn
    simp only [corebankref01_Decimal.f, corebankref01_Decimal.j0]
    rw [if_neg (by omega), if_neg (by decide)]
    have := dec_l0 s hsz s.data.toList [] rfl (by simp) k (by omega)
    rw [show (0 : Int) = (([] : List UInt8).length : Int) from rfl, this, hT]
    rfl
  | succ n ih =>
    intro s hn hsz k hk
    obtain ⟨k, rfl⟩ : ∃ i, k = i + 1 + 1 := ⟨k - 2, by omega⟩
    have hsl := size_list s
    obtain ⟨c, r, hT⟩ : ∃ c r, s.data.toList = c :: r := by
      rcases h : s.data.toList with _ | ⟨c, r⟩
      · rw [h] at hn; cases hn
      · exact ⟨c, r, rfl⟩
    have hb : bt s 0 = (c.toNat : Int) := bt_list s [] r c (by rw [hT]; rfl)
    rw [hT, List.length_cons] at hsl
    simp only [corebankref01_Decimal.f]
    rw [if_pos (by omega), if_pos (by omega), hb]
    simp only [corebankref01_Decimal.j0]
    by_cases h45 : c = 45
    · have h3 : (((c.toNat : Nat) : Int) == 45) = true := by rw [h45]; rfl
      have hx := ext_tail s c r hT
      have hrl : r.length = n := by rw [hT, List.length_cons] at hn; omega
      rw [h3, if_pos rfl, ByteArray.toList_eq, hT, h45]
      rw [decide_eq_decide.mpr (good_neg r)]
      by_cases h0 : r = [48]
      · rw [if_pos (by rw [h0]), decide_eq_false (fun z => z.2 h0)]
      · rw [if_neg (by intro z; exact h0 (by simpa using z)), if_pos (by omega), ih (s.extract 1 s.size) (by rw [hx]; exact hrl) (by rw [size_list, hx]; omega) k (by omega), hx]
        simp only [Option.bind_some]
        by_cases hg : good r
        · rw [decide_eq_true hg, if_pos rfl]
          obtain ⟨d, q, rfl⟩ : ∃ d q, r = d :: q := by
            rcases r with _ | ⟨d, q⟩
            · exact absurd rfl hg.1.1
            · exact ⟨d, q, rfl⟩
          have hb1 : bt s 1 = (d.toNat : Int) := bt_list s [c] q d (by rw [hT]; rfl)
          rw [List.length_cons] at hsl
          rw [if_pos (by omega), hb1]
          by_cases hd : d = 45
          · rw [decide_eq_false (fun z => okd_head _ z.1 (by rw [hd]; rfl)), hd]; rfl
          · have := (good_pos (d :: q) (by simpa using hd)).mp hg
            rw [decide_eq_true ⟨this, h0⟩]
            have : ¬ ((d.toNat : Int) == 45) = true := by
              rw [beq_iff_eq]
              intro z
              apply hd
              apply UInt8.toNat_inj.mp
              have : (45 : UInt8).toNat = 45 := rfl
              omega
            simpa using this
        · rw [decide_eq_false hg, if_neg (by decide), decide_eq_false]
          intro z
          exact hg ((good_pos r (okd_head r z.1)).mpr z.1)
    · have h2 : ¬ (((c.toNat : Nat) : Int) == 45) = true := by
        rw [beq_iff_eq]
        intro z
        apply h45
        apply UInt8.toNat_inj.mp
        have : (45 : UInt8).toNat = 45 := rfl
        omega
      have h3 : (((c.toNat : Nat) : Int) == 45) = false := by simpa using h2
      have := dec_l0 s hsz s.data.toList [] rfl (by simp) k (by omega)
      rw [h3, if_neg (by decide), show (0 : Int) = (([] : List UInt8).length : Int) from rfl, this]
      exact congrArg some (decide_eq_decide.mpr (good_pos _ (by rw [hT]; simpa using h45)).symm)
theorem vl_stepr (v d : Int) (h0 : 0 ≤ v) (hd : 0 ≤ d) (hd9 : d ≤ 9) : val 0 d = d ∧ U d ∧ 0 ≤ (v % 340282366920938463463374607431768211456 * 10) % 340282366920938463463374607431768211456 ∧ (v % 340282366920938463463374607431768211456 * 10) % 340282366920938463463374607431768211456 < 340282366920938463463374607431768211456 ∧ ((v % 340282366920938463463374607431768211456 * 10) % 340282366920938463463374607431768211456 + d) % 340282366920938463463374607431768211456 = (v * 10 + d) % 340282366920938463463374607431768211456 ∧ (v < 340282366920938463463374607431768211456 ∧ v % 340282366920938463463374607431768211456 * 10 < 340282366920938463463374607431768211456 ∧ (v % 340282366920938463463374607431768211456 * 10) % 340282366920938463463374607431768211456 + d < 340282366920938463463374607431768211456 ↔ v * 10 + d < 340282366920938463463374607431768211456) := by
  unfold val U
  refine ⟨?_, ?_, ?_, ?_, ?_, ?_⟩ <;> omega
theorem parser_l0 (neg : Bool) (s : ByteArray) (hsz : s.size ≤ 1000) (p : List UInt8) (r : List UInt8) : ∀ (l : List UInt8), s.data.toList = p ++ l ++ r → (∀ c ∈ l ++ r, isD c) → ∀ k, r.length + 80 ≤ k →
    corebankref01_Parse.l0 k s neg (decide (vl l < 340282366920938463463374607431768211456)) ((p ++ l).length : Int) (vl l % 340282366920938463463374607431768211456 / 18446744073709551616) (vl l % 340282366920938463463374607431768211456 % 18446744073709551616) = out (sg neg (vl (l ++ r))) := by
  induction r with
  | nil =>
    intro l ht hl k hk
    obtain ⟨k, rfl⟩ : ∃ i, k = i + 1 := ⟨k - 1, by omega⟩
    have hs : s.size = (p ++ l).length := by rw [size_list, ht, List.append_nil]
    have hv := vl_nonneg l (fun c hc => hl c (by simp [hc]))
    simp only [corebankref01_Parse.l0]
    rw [if_neg (by omega), List.append_nil]
    obtain ⟨x, y, hj, hxy⟩ := Join_f neg (vl l % 340282366920938463463374607431768211456) (by omega) (by omega)
    rw [hj]
    simp only [Option.bind_some]
    by_cases g : vl l < 340282366920938463463374607431768211456
    · rw [decide_eq_true g, if_pos rfl]
      rw [Int.emod_eq_of_lt hv g] at hxy ⊢
      unfold out
      by_cases g2 : sg neg (vl l) < 170141183460469231731687303715884105728 ∧ -170141183460469231731687303715884105728 ≤ sg neg (vl l)
      · rw [if_pos g2, decide_eq_true g2, if_pos rfl, (hxy g2).1, (hxy g2).2]
      · rw [if_neg g2, decide_eq_false g2, if_neg (by decide)]
    · rw [decide_eq_false g, if_neg (by decide)]
      unfold out sg
      rw [if_neg]
      cases neg <;> simp <;> omega
  | cons c r ih =>
    intro l ht hl k hk
    have hs : s.size = (p ++ l).length + (r.length + 1) := by rw [size_list, ht, List.length_append, List.length_cons]
    rw [List.length_cons] at hk
    obtain ⟨k, rfl⟩ : ∃ i, k = i + 1 := ⟨k - 1, by omega⟩
    have hv := vl_nonneg l (fun c hc => hl c (by simp [hc]))
    have hc : isD c := hl c (by simp)
    have hd := (isD_iff c).mp hc
    obtain ⟨e0, hU1, hU2, _, _, _⟩ := vl_step (vl l) (dv c) hv hd.1 hd.2
    obtain ⟨f0, f1, f2, f3, f4, f5⟩ := vl_stepr (vl l) (dv c) hv hd.1 hd.2
    simp only [corebankref01_Parse.l0]
    have hdv : ((c.toNat : Int) - 48) % 256 = dv c := by unfold dv; unfold dv at hd; omega
    rw [if_pos (by omega), if_pos (by omega), bt_list s (p ++ l) r c (by rw [ht]), if_neg (by unfold isD at hc; omega), times_r k (by omega) _ _ 10 hU1 hU2 (by unfold U; omega), e0, hdv]
    simp only [Option.bind_some]
    rw [plus_val _ 0 (dv c) f2 f3 (by unfold U; omega) f1, f0, f4]
    simp only [Option.bind_some]
    have hln : ((p ++ l).length : Int) + 1 = ((p ++ (l ++ [c])).length : Int) := by simp; omega
    have hap : l ++ [c] ++ r = l ++ c :: r := by simp
    rw [w64 (n := ((p ++ l).length : Int) + 1) (by omega) (by omega), hln, ← vl_snoc]
    have hih := ih (l ++ [c]) (by rw [ht]; simp) (by rw [hap]; exact hl) k (by omega)
    rw [hap] at hih
    rw [← hih]
    rw [← vl_snoc] at f5
    by_cases g1 : vl l < 340282366920938463463374607431768211456
    · rw [decide_eq_true g1, if_pos rfl]
      by_cases g2 : vl l % 340282366920938463463374607431768211456 * 10 < 340282366920938463463374607431768211456
      · rw [if_pos (decide_eq_true g2)]
        exact congrArg (fun b => corebankref01_Parse.l0 k s neg b _ _ _) (decide_eq_decide.mpr ⟨fun z => f5.mp ⟨g1, g2, z⟩, fun z => (f5.mpr z).2.2⟩)
      · rw [if_neg (by simpa using g2)]
        exact congrArg (fun b => corebankref01_Parse.l0 k s neg b _ _ _) (decide_eq_false (fun z => g2 (f5.mpr z).2.1)).symm
    · rw [decide_eq_false g1, if_neg (by decide)]
      exact congrArg (fun b => corebankref01_Parse.l0 k s neg b _ _ _) (decide_eq_false (fun z => g1 (f5.mpr z).1)).symm
/-- What the reference reads a text as. -/
theorem Parse_r (s : ByteArray) (hsz : s.size ≤ 1000) (k : Nat) (hk : 14000 ≤ k) : corebankref01_Parse.f k s = reads s.data.toList := by
  have hsl := size_list s
  unfold corebankref01_Parse.f
  rw [Decimal_r _ s rfl hsz k (by omega)]
  simp only [Option.bind_some]
  by_cases hg : good s.data.toList
  · rw [decide_eq_true hg, if_pos rfl]
    rcases hT : s.data.toList with _ | ⟨c, r⟩
    · rw [hT] at hg; exact absurd rfl hg.1.1
    · rw [hT] at hsl hg
      rw [List.length_cons] at hsl
      have hb : bt s 0 = (c.toNat : Int) := bt_list s [] r c (by rw [hT]; rfl)
      rw [if_pos (by omega), hb]
      by_cases h45 : c = 45
      · have h3 : (((c.toNat : Nat) : Int) == 45) = true := by rw [h45]; rfl
        rw [h45] at hg hT
        have hg' := (good_neg r).mp hg
        obtain ⟨k, rfl⟩ : ∃ i, k = i + 1 := ⟨k - 1, by omega⟩
        rw [h3, h45, reads_neg, if_pos ⟨hg'.1, fun _ => hg'.2⟩]
        simp only [corebankref01_Parse.l0]
        rw [if_pos (by omega), if_pos (by omega), hb, if_pos (by rw [h45]; rfl), w64 (n := (0 : Int) + 1) (by omega) (by omega)]
        have := parser_l0 true s hsz [45] r [] (by rw [hT]; rfl) (by simpa using hg'.1.2.1) k (by omega)
        rw [vl_nil] at this
        exact this
      · have h2 : ¬ (((c.toNat : Nat) : Int) == 45) = true := by
          rw [beq_iff_eq]
          intro z
          apply h45
          apply UInt8.toNat_inj.mp
          have : (45 : UInt8).toNat = 45 := rfl
          omega
        have h3 : (((c.toNat : Nat) : Int) == 45) = false := by simpa using h2
        have hh : (c :: r).head? ≠ some 45 := by simpa using h45
        have hg' := (good_pos (c :: r) hh).mp hg
        rw [h3, reads_pos _ hh, if_pos ⟨hg', fun z => absurd z (by decide)⟩]
        have := parser_l0 false s hsz [] (c :: r) [] (by rw [hT]; rfl) (by simpa using hg'.2.1) k (by rw [List.length_cons]; omega)
        rw [vl_nil] at this
        exact this
  · rw [decide_eq_false hg, if_neg (by decide)]
    unfold reads
    rw [if_neg hg]
end Go.Proofs.Ytkhocaehhflpcaa.Wide
