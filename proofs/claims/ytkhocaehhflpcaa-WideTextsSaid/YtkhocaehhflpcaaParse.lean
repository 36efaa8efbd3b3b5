/- The program's reading of a decimal text. -/
import Derived.Test.YtkhocaehhflpcaaPAx10
import Derived.Test.YtkhocaehhflpcaaText
namespace Go.Proofs.Ytkhocaehhflpcaa.Wide
open Go.RowKit Go.Proofs.Ytkhocaehhflpcaa.PA Go.Proofs.Ytkhocaehhflpcaa.Uw Go.Proofs.Ytkhocaehhflpcaa.Dec Go.Proofs.YtkhocaehhflpcaaW.PrintWords Go.Proofs.YtkhocaehhflpcaaW.PrintLast

/-- A text of digits without a needless zero at its head. -/
def okd (T : List UInt8) : Prop := T ≠ [] ∧ (∀ c ∈ T, isD c) ∧ (T.head? = some 48 → T.length = 1)
instance (T : List UInt8) : Decidable (okd T) := by unfold okd; infer_instance
/-- The text without its sign. -/
def body (L : List UInt8) : List UInt8 := if L.head? = some 45 then L.tail else L
/-- A well formed decimal text. -/
def good (L : List UInt8) : Prop := okd (body L) ∧ (L.head? = some 45 → body L ≠ [48])
instance (L : List UInt8) : Decidable (good L) := by unfold good; infer_instance
/-- What a decimal text is read as. -/
def reads (L : List UInt8) : Option (Int × Int × Int) := if good L then out (sg (decide (L.head? = some 45)) (vl (body L))) else some (0, 0, 2)
theorem bt_list (s : ByteArray) (l r : List UInt8) (c : UInt8) (h : s.data.toList = l ++ c :: r) : bt s (l.length : Int) = (c.toNat : Int) := by
  have hs : s.size = l.length + (r.length + 1) := by
    have := congrArg List.length h
    rw [Array.length_toList, List.length_append, List.length_cons] at this
    exact this
  unfold bt
  have hi : ((l.length : Int)).toNat = l.length := by omega
  rw [dif_pos (by omega)]
  have : s[((l.length : Int)).toNat]'(by omega) = c := by
    have e : s[((l.length : Int)).toNat]'(by omega) = s.data.toList[l.length]'(by rw [h]; simp) := by
      simp only [hi]
      rfl
    rw [e]
    simp only [h]
    simp
  rw [this]
theorem size_list (s : ByteArray) : s.size = s.data.toList.length := by rw [Array.length_toList]; rfl
theorem bt_dig (d : Int) (h0 : 0 ≤ d) (h1 : d < 10) : bt (⟨#[48, 49, 50, 51, 52, 53, 54, 55, 56, 57]⟩ : ByteArray) d = 48 + d := by
  have : d = 0 ∨ d = 1 ∨ d = 2 ∨ d = 3 ∨ d = 4 ∨ d = 5 ∨ d = 6 ∨ d = 7 ∨ d = 8 ∨ d = 9 := by omega
  rcases this with rfl | rfl | rfl | rfl | rfl | rfl | rfl | rfl | rfl | rfl <;> decide
theorem parse_l1 (neg : Bool) (t : ByteArray) (l r : List UInt8) (c : UInt8) (ht : t.data.toList = l ++ c :: r) (hsz : t.size ≤ 1000) (ok : Bool) (len H L : Int) (hH : U H) (hL : U L) (k : Nat) (j : Nat) : ∀ (d : Int), 0 ≤ d → d + j = 10 → 
    wide_Parse.l1 (j + 1 + k) neg t ok (l.length : Int) len (l.length : Int) d H L = if d ≤ dv c ∧ dv c ≤ 9 then wide_Parse.l0 (k + (10 - dv c).toNat) neg t (ok && decide (val H L * 10 + dv c < 340282366920938463463374607431768211456)) len ((l.length : Int) + 1) ((val H L * 10 + dv c) / 18446744073709551616 % 18446744073709551616) ((val H L * 10 + dv c) % 18446744073709551616) else some (0, 0, 2) := by
  have hs : t.size = l.length + (r.length + 1) := by
    rw [size_list, ht, List.length_append, List.length_cons]
  induction j with
  | zero =>
    intro d h0 h1
    rw [show 0 + 1 + k = k + 1 from by omega]
    simp only [wide_Parse.l1]
    rw [if_neg (by omega), if_neg (by omega)]
  | succ j ih =>
    intro d h0 h1
    rw [show j + 1 + 1 + k = (j + 1 + k) + 1 from by omega]
    simp only [wide_Parse.l1]
    rw [if_pos (by omega), if_pos (by omega), if_pos (by omega), if_pos h0, bt_list t l r c ht, bt_dig d h0 (by omega)]
    by_cases hc : dv c = d
    · rw [if_pos (by unfold dv at hc; omega), if_pos (by omega), wu d (by omega) (by omega), times_f H L 10 d hH hL (by unfold U; omega) (by unfold U; omega), hc]
      simp only [Option.bind_some]
      rw [w64 (n := (l.length : Int) + 1) (by omega) (by omega), show k + (10 - d).toNat = j + 1 + k from by omega]
      cases ok with
      | true => rw [if_pos rfl, Bool.true_and]
      | false => rw [if_neg (by decide), Bool.false_and]
    · rw [if_neg (by unfold dv at hc; omega), w64 (n := d + 1) (by omega) (by omega), ih (d + 1) (by omega) (by omega)]
      by_cases g : d ≤ dv c ∧ dv c ≤ 9
      · rw [if_pos g, if_pos (by omega)]
      · rw [if_neg g, if_neg (by omega)]
theorem isD_iff (c : UInt8) : isD c ↔ 0 ≤ dv c ∧ dv c ≤ 9 := by unfold isD dv; omega
theorem vl_step (v d : Int) (h0 : 0 ≤ v) (hd : 0 ≤ d) (hd9 : d ≤ 9) : val (v % 340282366920938463463374607431768211456 / 18446744073709551616) (v % 340282366920938463463374607431768211456 % 18446744073709551616) = v % 340282366920938463463374607431768211456 ∧ U (v % 340282366920938463463374607431768211456 / 18446744073709551616) ∧ U (v % 340282366920938463463374607431768211456 % 18446744073709551616) ∧ (v % 340282366920938463463374607431768211456 * 10 + d) / 18446744073709551616 % 18446744073709551616 = (v * 10 + d) % 340282366920938463463374607431768211456 / 18446744073709551616 ∧ (v % 340282366920938463463374607431768211456 * 10 + d) % 18446744073709551616 = (v * 10 + d) % 340282366920938463463374607431768211456 % 18446744073709551616 ∧ (v < 340282366920938463463374607431768211456 ∧ v % 340282366920938463463374607431768211456 * 10 + d < 340282366920938463463374607431768211456 ↔ v * 10 + d < 340282366920938463463374607431768211456) := by
  unfold val U
  refine ⟨?_, ?_, ?_, ?_, ?_, ?_⟩ <;> omega
theorem parse_l0 (neg : Bool) (t : ByteArray) (hsz : t.size ≤ 1000) (r : List UInt8) : ∀ (l : List UInt8), t.data.toList = l ++ r → (∀ c ∈ l, isD c) → ∀ k, 12 * r.length + 5 ≤ k →
    wide_Parse.l0 k neg t (decide (vl l < 340282366920938463463374607431768211456)) (t.size : Int) (l.length : Int) (vl l % 340282366920938463463374607431768211456 / 18446744073709551616) (vl l % 340282366920938463463374607431768211456 % 18446744073709551616) = if ∀ c ∈ r, isD c then out (sg neg (vl (l ++ r))) else some (0, 0, 2) := by
  induction r with
  | nil =>
    intro l ht hl k hk
    obtain ⟨k, rfl⟩ : ∃ i, k = i + 1 := ⟨k - 1, by omega⟩
    have hs : t.size = l.length := by rw [size_list, ht]; simp
    have hv := vl_nonneg l hl
    simp only [wide_Parse.l0]
    have he : ∀ c ∈ ([] : List UInt8), isD c := by intro c hc; simp at hc
    rw [if_neg (by omega), if_pos he, List.append_nil]
    by_cases g : vl l < 340282366920938463463374607431768211456
    · rw [decide_eq_true g, if_pos rfl, Int.emod_eq_of_lt hv g, signed_f k (by omega) (vl l) neg hv g]
      unfold out
      by_cases g2 : sg neg (vl l) < 170141183460469231731687303715884105728 ∧ -170141183460469231731687303715884105728 ≤ sg neg (vl l)
      · rw [if_pos g2]; rfl
      · rw [if_neg g2]; rfl
    · rw [decide_eq_false g, if_neg (by decide)]
      unfold out sg
      rw [if_neg]
      cases neg <;> simp <;> omega
  | cons c r ih =>
    intro l ht hl k hk
    have hs : t.size = l.length + (r.length + 1) := by rw [size_list, ht, List.length_append, List.length_cons]
    rw [List.length_cons] at hk
    obtain ⟨k, rfl⟩ : ∃ i, k = (10 + 1 + i) + 1 := ⟨k - 12, by omega⟩
    have hv := vl_nonneg l hl
    simp only [wide_Parse.l0]
    rw [if_pos (by omega)]
    obtain ⟨_, hU1, hU2, _, _, _⟩ := vl_step (vl l) 0 hv (by omega) (by omega)
    rw [parse_l1 neg t l r c ht hsz _ _ _ _ hU1 hU2 k 10 0 (by omega) (by omega)]
    by_cases hc : isD c
    · have hd := (isD_iff c).mp hc
      obtain ⟨e0, _, _, e3, e4, e5⟩ := vl_step (vl l) (dv c) hv hd.1 hd.2
      rw [if_pos hd, e0, e3, e4]
      have hb : (decide (vl l < 340282366920938463463374607431768211456) && decide (vl l % 340282366920938463463374607431768211456 * 10 + dv c < 340282366920938463463374607431768211456)) = decide (vl (l ++ [c]) < 340282366920938463463374607431768211456) := by
        rw [← Bool.decide_and, vl_snoc]
        exact decide_eq_decide.mpr e5
      have hln : (l.length : Int) + 1 = ((l ++ [c]).length : Int) := by simp
      rw [hb, ← vl_snoc, hln, ih (l ++ [c]) (by rw [ht]; simp) (by intro x hx; rcases List.mem_append.mp hx with hx | hx; exact hl x hx; simp at hx; rw [hx]; exact hc) _ (by omega)]
      have hap : l ++ [c] ++ r = l ++ c :: r := by simp
      rw [hap]
      by_cases g : ∀ x ∈ r, isD x
      · rw [if_pos g, if_pos (by intro x hx; rcases List.mem_cons.mp hx with hx | hx; rw [hx]; exact hc; exact g x hx)]
      · rw [if_neg g, if_neg (fun z => g (fun x hx => z x (List.mem_cons_of_mem _ hx)))]
    · rw [if_neg (fun z => hc ((isD_iff c).mpr z)), if_neg (fun z => hc (z c (by simp)))]
theorem parse_j1 (neg : Bool) (t : ByteArray) (hsz : t.size ≤ 1000) (k : Nat) (hk : 13000 ≤ k) :
    wide_Parse.j1 k neg t = if okd t.data.toList ∧ (neg = true → t.data.toList ≠ [48]) then out (sg neg (vl t.data.toList)) else some (0, 0, 2) := by
  obtain ⟨k, rfl⟩ : ∃ i, k = i + 1 + 1 := ⟨k - 2, by omega⟩
  have hsl := size_list t
  have hj : ∀ b : Bool, wide_Parse.j2 (k + 1) neg t b = if b = true then some (0, 0, 2) else if ∀ c ∈ t.data.toList, isD c then out (sg neg (vl t.data.toList)) else some (0, 0, 2) := by
    intro b
    simp only [wide_Parse.j2]
    have := parse_l0 neg t hsz t.data.toList [] rfl (by simp) k (by omega)
    rw [vl_nil] at this
    simp only [List.length_nil, List.nil_append] at this
    rw [← this]
    rfl
  simp only [wide_Parse.j1]
  rw [ByteArray.toList_eq]
  rcases hT : t.data.toList with _ | ⟨c, r⟩
  · rw [if_pos rfl, hj, if_pos rfl, if_neg (fun z => z.1.1 rfl)]
  · rw [hT] at hsl
    rw [List.length_cons] at hsl
    have hb : bt t 0 = (c.toNat : Int) := bt_list t [] r c (by rw [hT]; rfl)
    rw [if_neg (by simp), if_pos (by omega), hb]
    simp only [hj, hT]
    by_cases h48 : c.toNat = 48
    · have hc : c = 48 := UInt8.toNat_inj.mp h48
      rw [if_pos (by omega)]
      by_cases hl : (t.size : Int) > 1
      · rw [if_pos hl, if_pos trivial, if_neg]
        intro z
        have := z.1.2.2 (by simp [hc])
        rw [List.length_cons] at this; omega
      · rw [if_neg hl]
        have hr : r = [] := List.length_eq_zero_iff.mp (by omega)
        subst hr hc
        cases neg with
        | true => rw [if_pos rfl, if_neg (fun z => z.2 rfl rfl)]
        | false =>
          rw [if_neg (by decide), if_pos (by decide), if_pos (by decide)]
    · rw [if_neg (by omega), if_neg (by decide)]
      have hc : c ≠ 48 := fun z => h48 (by rw [z]; rfl)
      by_cases g : ∀ x ∈ c :: r, isD x
      · rw [if_pos g, if_pos ⟨⟨by simp, g, fun z => absurd (by simpa using z) hc⟩, fun _ z => hc (by simp at z; exact z.1)⟩]
      · rw [if_neg g, if_neg (fun z => g z.1.2.1)]
theorem ext_tail (s : ByteArray) (c : UInt8) (r : List UInt8) (h : s.data.toList = c :: r) : (s.extract 1 s.size).data.toList = r := by
  have hs : s.size = r.length + 1 := by rw [size_list, h, List.length_cons]
  rw [ByteArray.data_extract, Array.toList_extract, h, hs]
  simp
theorem reads_neg (T : List UInt8) : reads (45 :: T) = if okd T ∧ ((true : Bool) = true → T ≠ [48]) then out (sg true (vl T)) else some (0, 0, 2) := by
  unfold reads
  have e : good (45 :: T) ↔ okd T ∧ ((true : Bool) = true → T ≠ [48]) := by unfold good body; simp
  by_cases g : good (45 :: T)
  · rw [if_pos g, if_pos (e.mp g)]; rfl
  · rw [if_neg g, if_neg (fun z => g (e.mpr z))]
theorem reads_pos (T : List UInt8) (h : T.head? ≠ some 45) : reads T = if okd T ∧ ((false : Bool) = true → T ≠ [48]) then out (sg false (vl T)) else some (0, 0, 2) := by
  unfold reads
  have e : good T ↔ okd T ∧ ((false : Bool) = true → T ≠ [48]) := by unfold good body; simp [h]
  have eb : body T = T := by unfold body; rw [if_neg h]
  by_cases g : good T
  · rw [if_pos g, if_pos (e.mp g), eb, decide_eq_false h]
  · rw [if_neg g, if_neg (fun z => g (e.mpr z))]
/-- What the program reads a text as. -/
theorem Parse_f (s : ByteArray) (hsz : s.size ≤ 1000) (k : Nat) (hk : 14000 ≤ k) : wide_Parse.f k s = reads s.data.toList := by
  obtain ⟨k, rfl⟩ : ∃ i, k = i + 1 := ⟨k - 1, by omega⟩
  have hsl := size_list s
  unfold wide_Parse.f
  rcases hT : s.data.toList with _ | ⟨c, r⟩
  · rw [hT] at hsl
    rw [List.length_nil] at hsl
    rw [if_neg (by omega), reads_pos [] (by simp)]
    simp only [wide_Parse.j0]
    rw [if_neg (by decide), parse_j1 false s hsz k (by omega), hT]
  · rw [hT] at hsl
    rw [List.length_cons] at hsl
    have hb : bt s 0 = (c.toNat : Int) := bt_list s [] r c (by rw [hT]; rfl)
    rw [if_pos (by omega), if_pos (by omega), hb]
    simp only [wide_Parse.j0]
    have hx := ext_tail s c r hT
    by_cases h45 : c = 45
    · have h3 : (((c.toNat : Nat) : Int) == 45) = true := by rw [h45]; rfl
      rw [h3, if_pos rfl, if_pos (by omega), parse_j1 true _ (by rw [size_list, hx]; omega) k (by omega), hx, h45, reads_neg]
    · have h2 : ¬ (((c.toNat : Nat) : Int) == 45) = true := by
        rw [beq_iff_eq]
        intro z
        apply h45
        apply UInt8.toNat_inj.mp
        have : (45 : UInt8).toNat = 45 := rfl
        omega
      have h3 : (((c.toNat : Nat) : Int) == 45) = false := by simpa using h2
      rw [h3, if_neg (by decide), parse_j1 false s hsz k (by omega), hT, reads_pos (c :: r) (by simpa using h45)]
end Go.Proofs.Ytkhocaehhflpcaa.Wide
