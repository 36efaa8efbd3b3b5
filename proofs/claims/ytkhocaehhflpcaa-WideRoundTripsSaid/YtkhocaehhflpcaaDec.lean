/- Decimal texts as lists of bytes: no program in sight. -/
import Derived.RowKit
import Derived.Laws.Strings
namespace Go.Proofs.Ytkhocaehhflpcaa.Dec

def dgt (r : Int) : UInt8 := UInt8.ofNat (48 + r.toNat)
/-- The digits of a number from 0 on. -/
def D : Nat → Int → List UInt8
  | 0, _ => []
  | j + 1, m => if m < 10 then [dgt m] else D j (m / 10) ++ [dgt (m % 10)]
/-- The value of a byte as a digit. -/
def dv (c : UInt8) : Int := (c.toNat : Int) - 48
/-- A byte is a digit. -/
def isD (c : UInt8) : Prop := 48 ≤ c.toNat ∧ c.toNat ≤ 57
instance (c : UInt8) : Decidable (isD c) := by unfold isD; infer_instance
/-- The value of a text of digits. -/
def vl (l : List UInt8) : Int := l.foldl (fun a c => a * 10 + dv c) 0
theorem vl_snoc (l : List UInt8) (c : UInt8) : vl (l ++ [c]) = vl l * 10 + dv c := by unfold vl; rw [List.foldl_append]; rfl
theorem vl_nil : vl [] = 0 := rfl
theorem dgt_nat (r : Int) (h0 : 0 ≤ r) (h1 : r < 10) : (dgt r).toNat = 48 + r.toNat := by
  unfold dgt
  rw [UInt8.toNat_ofNat_of_lt']
  have : 48 + r.toNat < 256 := by omega
  simpa using this
theorem dv_dgt (r : Int) (h0 : 0 ≤ r) (h1 : r < 10) : dv (dgt r) = r := by unfold dv; rw [dgt_nat r h0 h1]; omega
theorem isD_dgt (r : Int) (h0 : 0 ≤ r) (h1 : r < 10) : isD (dgt r) := by unfold isD; rw [dgt_nat r h0 h1]; omega
theorem dgt_dv (c : UInt8) (h : isD c) : dgt (dv c) = c := by
  obtain ⟨h0, h1⟩ := h
  apply UInt8.toNat_inj.mp
  rw [dgt_nat (dv c) (by unfold dv; omega) (by unfold dv; omega)]
  unfold dv; omega
theorem dv_bd (c : UInt8) (h : isD c) : 0 ≤ dv c ∧ dv c ≤ 9 := by obtain ⟨h0, h1⟩ := h; unfold dv; omega
theorem vl_D (j : Nat) : ∀ m : Int, 0 ≤ m → m < 10 ^ j → vl (D j m) = m := by
  induction j with
  | zero => intro m h0 h1; have : m = 0 := by simp at h1; omega
            subst this; rfl
  | succ j ih =>
    intro m h0 h1
    unfold D
    by_cases h : m < 10
    · rw [if_pos h]
      have := dv_dgt m h0 h
      simp [vl, this]
    · rw [if_neg h, vl_snoc, ih (m / 10) (by omega) (by rw [Int.pow_succ] at h1; omega), dv_dgt _ (by omega) (by omega)]
      omega
theorem D_digits (j : Nat) : ∀ m : Int, 0 ≤ m → ∀ c ∈ D j m, isD c := by
  induction j with
  | zero => intro m _ c hc; cases hc
  | succ j ih =>
    intro m h0 c hc
    unfold D at hc
    by_cases h : m < 10
    · rw [if_pos h] at hc
      rw [List.mem_singleton] at hc
      rw [hc]; exact isD_dgt m h0 h
    · rw [if_neg h, List.mem_append, List.mem_singleton] at hc
      rcases hc with hc | hc
      · exact ih _ (by omega) c hc
      · rw [hc]; exact isD_dgt _ (by omega) (by omega)
theorem D_ne (j : Nat) (m : Int) (hj : 1 ≤ j) : D j m ≠ [] := by
  obtain ⟨j, rfl⟩ : ∃ i, j = i + 1 := ⟨j - 1, by omega⟩
  unfold D; split <;> simp
/-- No zero stands at the head, but for the number zero. -/
theorem D_head (j : Nat) : ∀ m : Int, 0 < m → m < 10 ^ j → ∃ c t, D j m = c :: t ∧ c.toNat ≠ 48 := by
  induction j with
  | zero => intro m h0 h1; simp at h1; omega
  | succ j ih =>
    intro m h0 h1
    unfold D
    by_cases h : m < 10
    · rw [if_pos h]; exact ⟨_, _, rfl, by rw [dgt_nat m (by omega) h]; omega⟩
    · rw [if_neg h]
      obtain ⟨c, t, e, hc⟩ := ih (m / 10) (by omega) (by rw [Int.pow_succ] at h1; omega)
      exact ⟨c, t ++ [dgt (m % 10)], by rw [e]; rfl, hc⟩
theorem D_zero (j : Nat) (hj : 1 ≤ j) : D j 0 = [48] := by
  obtain ⟨j, rfl⟩ : ∃ i, j = i + 1 := ⟨j - 1, by omega⟩
  rfl
theorem vl_nonneg (l : List UInt8) (h : ∀ c ∈ l, isD c) : 0 ≤ vl l := by
  obtain ⟨n, hn⟩ : ∃ n, l.length = n := ⟨_, rfl⟩
  induction n generalizing l with
  | zero => rw [List.length_eq_zero_iff.mp hn]; decide
  | succ n ih =>
    obtain ⟨t, c, rfl⟩ : ∃ t c, l = t ++ [c] := ⟨l.dropLast, l.getLast (by intro e; rw [e] at hn; cases hn), (List.dropLast_concat_getLast _).symm⟩
    rw [vl_snoc]
    have := ih t (fun x hx => h x (List.mem_append.mpr (.inl hx))) (by simp at hn; omega)
    have := dv_bd c (h c (by simp))
    omega
theorem vl_pos (c : UInt8) (t : List UInt8) (h : ∀ x ∈ c :: t, isD x) (hc : c.toNat ≠ 48) : 0 < vl (c :: t) := by
  obtain ⟨n, hn⟩ : ∃ n, t.length = n := ⟨_, rfl⟩
  induction n generalizing t with
  | zero =>
    rw [List.length_eq_zero_iff.mp hn]
    have := h c (by simp)
    unfold isD at this
    simp [vl, dv]; omega
  | succ n ih =>
    obtain ⟨s, d, rfl⟩ : ∃ s d, t = s ++ [d] := ⟨t.dropLast, t.getLast (by intro e; rw [e] at hn; cases hn), (List.dropLast_concat_getLast _).symm⟩
    have e : c :: (s ++ [d]) = (c :: s) ++ [d] := rfl
    rw [e, vl_snoc]
    have := ih s (fun x hx => h x (by simp only [List.mem_cons, List.mem_append] at hx ⊢; rcases hx with hx | hx <;> simp [hx])) (by simp at hn; omega)
    have := dv_bd d (h d (by simp))
    omega
/-- A text of digits without a zero at its head is the decimal form of its value. -/
theorem D_vl (n : Nat) : ∀ (c : UInt8) (t : List UInt8), t.length = n → (∀ x ∈ c :: t, isD x) → c.toNat ≠ 48 → ∀ j, n + 1 ≤ j → D j (vl (c :: t)) = c :: t := by
  induction n with
  | zero =>
    intro c t hn h hc j hj
    obtain ⟨j, rfl⟩ : ∃ i, j = i + 1 := ⟨j - 1, by omega⟩
    rw [List.length_eq_zero_iff.mp hn]
    have hd := h c (by simp)
    have e : vl [c] = dv c := by simp [vl]
    have := dv_bd c hd
    rw [e]
    unfold D
    rw [if_pos (by omega), dgt_dv c hd]
  | succ n ih =>
    intro c t hn h hc j hj
    obtain ⟨j, rfl⟩ : ∃ i, j = i + 1 := ⟨j - 1, by omega⟩
    obtain ⟨s, d, rfl⟩ : ∃ s d, t = s ++ [d] := ⟨t.dropLast, t.getLast (by intro e; rw [e] at hn; cases hn), (List.dropLast_concat_getLast _).symm⟩
    have e : c :: (s ++ [d]) = (c :: s) ++ [d] := rfl
    have hs : ∀ x ∈ c :: s, isD x := fun x hx => h x (by simp only [List.mem_cons, List.mem_append] at hx ⊢; rcases hx with hx | hx <;> simp [hx])
    have hp := vl_pos c s hs hc
    have hd := h d (by simp)
    have hdb := dv_bd d hd
    have hih := ih c s (by simp at hn; omega) hs hc j (by omega)
    rw [e, vl_snoc]
    unfold D
    rw [if_neg (by omega), (by omega : (vl (c :: s) * 10 + dv d) / 10 = vl (c :: s)), (by omega : (vl (c :: s) * 10 + dv d) % 10 = dv d), hih, dgt_dv d hd]
theorem vl_mono (l r : List UInt8) (h : ∀ c ∈ l ++ r, isD c) : vl l ≤ vl (l ++ r) := by
  obtain ⟨n, hn⟩ : ∃ n, r.length = n := ⟨_, rfl⟩
  induction n generalizing r with
  | zero => rw [List.length_eq_zero_iff.mp hn]; simp
  | succ n ih =>
    obtain ⟨s, d, rfl⟩ : ∃ s d, r = s ++ [d] := ⟨r.dropLast, r.getLast (by intro e; rw [e] at hn; cases hn), (List.dropLast_concat_getLast _).symm⟩
    have h1 : ∀ c ∈ l ++ s, isD c := fun x hx => h x (by rcases List.mem_append.mp hx with hx | hx <;> simp [hx])
    have := ih s h1 (by simp at hn; omega)
    have h2 := vl_nonneg (l ++ s) h1
    have := dv_bd d (h d (by simp))
    rw [← List.append_assoc, vl_snoc]
    omega
end Go.Proofs.Ytkhocaehhflpcaa.Dec
