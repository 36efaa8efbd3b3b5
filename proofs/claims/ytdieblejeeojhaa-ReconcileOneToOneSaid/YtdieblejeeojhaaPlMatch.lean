/- Plain: Match finds what the reference finds. -/
import Derived.Test.YtdieblejeeojhaaPAx6
import Derived.Test.YtdieblejeeojhaaPlAt
namespace Go.Proofs.Ytdieblejeeojhaa.Pl
open Go Go.RowKit Go.Proofs.Ytdieblejeeojhaa.PA Go.Proofs.YtdieblejeeojhaaW.PrintWords
set_option linter.unusedVariables false
set_option linter.unusedSimpArgs false

def closeB (a b : Int) : Bool := if a > b then decide (IntKind.u64.wrap (IntKind.u64.wrap a - IntKind.u64.wrap b) ≤ 5) else decide (IntKind.u64.wrap (IntKind.u64.wrap b - IntKind.u64.wrap a) ≤ 5)
theorem near_close (a b : Int) : nearB a b = closeB a b := by
  unfold nearB closeB
  by_cases h : a > b
  · rw [if_pos h, Int.max_eq_left (by omega), Int.min_eq_right (by omega)]
  · rw [if_neg h, Int.max_eq_right (by omega), Int.min_eq_left (by omega)]
def fitB (x y : S40) (p : Int) : Bool := if x.f2 = y.f2 then (if p = 1 then decide (x.f0 = y.f0) else if p = 2 then x.f1 == y.f1 else closeB x.f1 y.f1) else false
theorem str_eq (a b : ByteArray) : (a.toList == b.toList) = decide (a = b) := by
  rw [Lib.toList_data, Lib.toList_data, Bool.eq_iff_iff, beq_iff_eq, decide_eq_true_eq]
  constructor
  · intro h
    cases a
    cases b
    simp only [ByteArray.mk.injEq]
    exact Array.toList_inj.1 h
  · intro h; rw [h]
theorem fits_f (x y : S40) (p : Int) : corebankref44_Fits.f x.f0 x.f1 x.f2 y.f0 y.f1 y.f2 p = some (fitB x y p) := by
  unfold corebankref44_Fits.f fitB
  by_cases h : x.f2 = y.f2
  · rw [if_pos h, if_pos h]
    by_cases h1 : p = 1
    · rw [if_pos h1, if_pos h1, str_eq]
    · rw [if_neg h1, if_neg h1]
      by_cases h2 : p = 2
      · rw [if_pos h2, if_pos h2]
      · rw [if_neg h2, if_neg h2]
        unfold corebankref44_close.f closeB
        split <;> rfl
  · rw [if_neg h, if_neg h]
/-- The first place, below n, that is left and fits. -/
def ffi (q : S40 → Bool) (S : List Int) (l : List S40) : Nat → Option Int
  | 0 => none
  | n + 1 => (ffi q S l n).or (if (n : Int) ∈ S then none else if q (rd_T40 l n) = true then some (n : Int) else none)
theorem takeL_app (l : List S40) (S : List Int) (p : S40 → Bool) (b : List Int) : ∀ a : List Int, takeL l S p (a ++ b) = (takeL l S p a).or (takeL l S p b)
  | [] => by simp [takeL]
  | i :: r => by
    rw [List.cons_append]
    have ih := takeL_app l S p b r
    by_cases h : i ∈ S
    · simp only [takeL, if_pos h]; exact ih
    · by_cases g : p (rd_T40 l i) = true
      · simp only [takeL, if_neg h, if_pos g, Option.some_or]
      · simp only [takeL, if_neg h, if_neg g]; exact ih
theorem takeL_idx (l : List S40) (S : List Int) (p q : S40 → Bool) (n : Nat) : takeL l S p (idxL q l n) = ffi (fun y => q y && p y) S l n := by
  induction n with
  | zero => rfl
  | succ n ih =>
    unfold idxL ffi
    by_cases h : q (rd_T40 l n) = true
    · rw [if_pos h, takeL_app, ih]
      congr 1
      simp only [takeL, h, Bool.true_and]
    · rw [if_neg h, ih]
      have h' : q (rd_T40 l n) = false := by simpa using h
      simp [h']
theorem ffi_congr {q q' : S40 → Bool} (h : ∀ y, q y = q' y) (S : List Int) (l : List S40) (n : Nat) : ffi q S l n = ffi q' S l n := by
  have : q = q' := funext h
  rw [this]
theorem mat_ffi (l : List S40) (S : List Int) (x : S40) (p : Int) : matL l S x p = ffi (fun y => fitB x y p) S l l.length := by
  unfold matL
  by_cases h1 : p = 1
  · rw [if_pos h1, takeL_idx]
    refine ffi_congr (fun y => ?_) S l _
    unfold fitB
    rw [if_pos h1]
    by_cases e : x.f2 = y.f2
    · rw [if_pos e]; simp [e]
    · rw [if_neg e]
      have : (y.f2 == x.f2) = false := by simpa using fun h : y.f2 = x.f2 => e h.symm
      rw [this, Bool.and_false]
  · rw [if_neg h1]
    by_cases h2 : p = 2
    · rw [if_pos h2, takeL_idx]
      refine ffi_congr (fun y => ?_) S l _
      unfold fitB
      rw [if_neg h1, if_pos h2]
      by_cases e : x.f2 = y.f2
      · rw [if_pos e, decide_eq_true e, Bool.true_and, Bool.eq_iff_iff, beq_iff_eq, beq_iff_eq]
        exact eq_comm
      · rw [if_neg e]; simp [e]
    · rw [if_neg h2, takeL_idx]
      refine ffi_congr (fun y => ?_) S l _
      unfold fitB
      rw [if_neg h1, if_neg h2, near_close]
      by_cases e : x.f2 = y.f2
      · rw [if_pos e]; simp [e]
      · rw [if_neg e]; simp [e]
/-- The state's two sets are those of its pairs; it has at most K pairs. -/
structure InvS (s : St) (K : Nat) : Prop where
  m : ∀ y, y ∈ s.M ↔ y ∈ s.out.map (comp true)
  t : ∀ y, y ∈ s.S ↔ y ∈ s.out.map (comp false)
  len : s.out.length ≤ K
theorem InvS.step {s : St} {K : Nat} (h : InvS s K) (l1 : List S40) (p i : Int) (x : S40) : InvS (stepM l1 p i x s) (K + 1) := by
  unfold stepM
  split
  · exact ⟨h.m, h.t, Nat.le_succ_of_le h.len⟩
  · split
    · exact ⟨h.m, h.t, Nat.le_succ_of_le h.len⟩
    · refine ⟨fun y => ?_, fun y => ?_, by simp; exact h.len⟩
      · rw [List.map_append, List.mem_append, List.mem_cons, h.m y]
        simp only [List.map_cons, List.map_nil, List.mem_singleton, comp, if_true]
        exact Or.comm
      · rw [List.map_append, List.mem_append, List.mem_cons, h.t y]
        simp only [List.map_cons, List.map_nil, List.mem_singleton, comp, Bool.false_eq_true, if_false]
        exact Or.comm
/-- The list while the places of theirs are gone through. -/
def lk (L : List S38) (i p : Int) : Option Int → List S38
  | none => L
  | some j => L ++ [⟨i, j, p⟩]
theorem l2_ev (l0 l1 : List S40) (s : St) (K : Nat) (hs : InvS s K) (hK : K < 900000) (p : Int) (i : Nat) (hi : i < l0.length) (hl0 : l0.length < 900000) (hl1 : l1.length < 900000) (hM : (i : Int) ∉ s.M) {r : List S38 × List Int × List Int}
    (hc : Ev (fun k => corebankref44_Match.l1 k l0 l1 (lk s.out i p (ffi (fun y => fitB (rd_T40 l0 i) y p) s.S l1 l1.length)) p ((i + 1 : Nat) : Int)) r) :
    ∀ (d n : Nat), n + d = l1.length → Ev (fun k => corebankref44_Match.l2 k l0 l1 (lk s.out i p (ffi (fun y => fitB (rd_T40 l0 i) y p) s.S l1 n)) p i (n : Int)) r := by
  intro d
  induction d with
  | zero =>
    intro n hn
    obtain rfl : n = l1.length := by omega
    refine Ev.step (fun k => ?_) hc
    simp only [corebankref44_Match.l2]; rw [if_neg (by omega), wn (by omega)]
  | succ d ih =>
    intro n hn
    have hr := ih (n + 1) (by omega)
    have hlen : (lk s.out i p (ffi (fun y => fitB (rd_T40 l0 i) y p) s.S l1 n)).length < 1000000 := by
      have := hs.len
      cases ffi (fun y => fitB (rd_T40 l0 i) y p) s.S l1 n <;> simp [lk] <;> omega
    have ha := at_ev (lk s.out i p (ffi (fun y => fitB (rd_T40 l0 i) y p) s.S l1 n)) (i : Int) true hlen
    have hb := at_ev (lk s.out i p (ffi (fun y => fitB (rd_T40 l0 i) y p) s.S l1 n)) (n : Int) false hlen
    unfold ffi at hr
    cases hf : ffi (fun y => fitB (rd_T40 l0 i) y p) s.S l1 n with
    | some j =>
      rw [hf] at ha hr
      simp only [Option.some_or] at hr
      have hneg : ¬ atL (comp true) (i : Int) (lk s.out i p (some j)) 0 < 0 := by
        rw [atL_neg _ _ _ _ (Int.le_refl 0)]
        simp [lk, comp]
      refine Ev.step (f := fun k => (corebankref44_at.f k (lk s.out i p (some j)) i true).bind fun t180 => (if t180 < 0 then ((corebankref44_at.f k (lk s.out i p (some j)) n false).bind fun t181 => (if t181 < 0 then (if (0 : Int) ≤ i then (if (i : Int) < (l0.length : Int) then (if (0 : Int) ≤ n then ((corebankref44_Fits.f ((rd_T40 l0 i).f0) ((rd_T40 l0 i).f1) ((rd_T40 l0 i).f2) ((rd_T40 l1 n).f0) ((rd_T40 l1 n).f1) ((rd_T40 l1 n).f2) p).bind fun t184 => (if t184 = true then (if (lk s.out i p (some j)).length < 5864062014805 then (corebankref44_Match.l2 k l0 l1 ((lk s.out i p (some j)) ++ [(⟨i, n, p⟩ : S38)]) p i (wrap64 ((n : Int) + 1))) else (none)) else (corebankref44_Match.l2 k l0 l1 (lk s.out i p (some j)) p i (wrap64 ((n : Int) + 1))))) else (none)) else (none)) else (none)) else (corebankref44_Match.l2 k l0 l1 (lk s.out i p (some j)) p i (wrap64 ((n : Int) + 1))))) else (corebankref44_Match.l2 k l0 l1 (lk s.out i p (some j)) p i (wrap64 ((n : Int) + 1))))) (fun k => ?_) ?_
      · simp only [corebankref44_Match.l2]; rw [if_pos (by omega)]
      · refine Ev.bind (f := fun k t180 => (if t180 < 0 then ((corebankref44_at.f k (lk s.out i p (some j)) n false).bind fun t181 => (if t181 < 0 then (if (0 : Int) ≤ i then (if (i : Int) < (l0.length : Int) then (if (0 : Int) ≤ n then ((corebankref44_Fits.f ((rd_T40 l0 i).f0) ((rd_T40 l0 i).f1) ((rd_T40 l0 i).f2) ((rd_T40 l1 n).f0) ((rd_T40 l1 n).f1) ((rd_T40 l1 n).f2) p).bind fun t184 => (if t184 = true then (if (lk s.out i p (some j)).length < 5864062014805 then (corebankref44_Match.l2 k l0 l1 ((lk s.out i p (some j)) ++ [(⟨i, n, p⟩ : S38)]) p i (wrap64 ((n : Int) + 1))) else (none)) else (corebankref44_Match.l2 k l0 l1 (lk s.out i p (some j)) p i (wrap64 ((n : Int) + 1))))) else (none)) else (none)) else (none)) else (corebankref44_Match.l2 k l0 l1 (lk s.out i p (some j)) p i (wrap64 ((n : Int) + 1))))) else (corebankref44_Match.l2 k l0 l1 (lk s.out i p (some j)) p i (wrap64 ((n : Int) + 1))))) ha ?_
        simp only [if_neg hneg, wn (show n < 4611686018427387904 by omega)]
        exact hr
    | none =>
      rw [hf] at ha hb hr
      simp only [Option.none_or] at hr
      have hneg : atL (comp true) (i : Int) (lk s.out i p none) 0 < 0 := by
        rw [atL_neg _ _ _ _ (Int.le_refl 0)]
        exact fun h => hM ((hs.m _).2 h)
      refine Ev.step (f := fun k => (corebankref44_at.f k (lk s.out i p none) i true).bind fun t180 => (if t180 < 0 then ((corebankref44_at.f k (lk s.out i p none) n false).bind fun t181 => (if t181 < 0 then (if (0 : Int) ≤ i then (if (i : Int) < (l0.length : Int) then (if (0 : Int) ≤ n then ((corebankref44_Fits.f ((rd_T40 l0 i).f0) ((rd_T40 l0 i).f1) ((rd_T40 l0 i).f2) ((rd_T40 l1 n).f0) ((rd_T40 l1 n).f1) ((rd_T40 l1 n).f2) p).bind fun t184 => (if t184 = true then (if (lk s.out i p none).length < 5864062014805 then (corebankref44_Match.l2 k l0 l1 ((lk s.out i p none) ++ [(⟨i, n, p⟩ : S38)]) p i (wrap64 ((n : Int) + 1))) else (none)) else (corebankref44_Match.l2 k l0 l1 (lk s.out i p none) p i (wrap64 ((n : Int) + 1))))) else (none)) else (none)) else (none)) else (corebankref44_Match.l2 k l0 l1 (lk s.out i p none) p i (wrap64 ((n : Int) + 1))))) else (corebankref44_Match.l2 k l0 l1 (lk s.out i p none) p i (wrap64 ((n : Int) + 1))))) (fun k => ?_) ?_
      · simp only [corebankref44_Match.l2]; rw [if_pos (by omega)]
      refine Ev.bind (f := fun k t180 => (if t180 < 0 then ((corebankref44_at.f k (lk s.out i p none) n false).bind fun t181 => (if t181 < 0 then (if (0 : Int) ≤ i then (if (i : Int) < (l0.length : Int) then (if (0 : Int) ≤ n then ((corebankref44_Fits.f ((rd_T40 l0 i).f0) ((rd_T40 l0 i).f1) ((rd_T40 l0 i).f2) ((rd_T40 l1 n).f0) ((rd_T40 l1 n).f1) ((rd_T40 l1 n).f2) p).bind fun t184 => (if t184 = true then (if (lk s.out i p none).length < 5864062014805 then (corebankref44_Match.l2 k l0 l1 ((lk s.out i p none) ++ [(⟨i, n, p⟩ : S38)]) p i (wrap64 ((n : Int) + 1))) else (none)) else (corebankref44_Match.l2 k l0 l1 (lk s.out i p none) p i (wrap64 ((n : Int) + 1))))) else (none)) else (none)) else (none)) else (corebankref44_Match.l2 k l0 l1 (lk s.out i p none) p i (wrap64 ((n : Int) + 1))))) else (corebankref44_Match.l2 k l0 l1 (lk s.out i p none) p i (wrap64 ((n : Int) + 1))))) ha ?_
      simp only [if_pos hneg]
      refine Ev.bind (f := fun k t181 => (if t181 < 0 then (if (0 : Int) ≤ i then (if (i : Int) < (l0.length : Int) then (if (0 : Int) ≤ n then ((corebankref44_Fits.f ((rd_T40 l0 i).f0) ((rd_T40 l0 i).f1) ((rd_T40 l0 i).f2) ((rd_T40 l1 n).f0) ((rd_T40 l1 n).f1) ((rd_T40 l1 n).f2) p).bind fun t184 => (if t184 = true then (if (lk s.out i p none).length < 5864062014805 then (corebankref44_Match.l2 k l0 l1 ((lk s.out i p none) ++ [(⟨i, n, p⟩ : S38)]) p i (wrap64 ((n : Int) + 1))) else (none)) else (corebankref44_Match.l2 k l0 l1 (lk s.out i p none) p i (wrap64 ((n : Int) + 1))))) else (none)) else (none)) else (none)) else (corebankref44_Match.l2 k l0 l1 (lk s.out i p none) p i (wrap64 ((n : Int) + 1))))) hb ?_
      by_cases hS : (n : Int) ∈ s.S
      · have hneg2 : ¬ atL (comp false) (n : Int) (lk s.out i p none) 0 < 0 := by
          rw [atL_neg _ _ _ _ (Int.le_refl 0)]
          exact fun h => h ((hs.t _).1 hS)
        rw [if_pos hS] at hr
        simp only [if_neg hneg2, wn (show n < 4611686018427387904 by omega)]
        exact hr
      · have hneg2 : atL (comp false) (n : Int) (lk s.out i p none) 0 < 0 := by
          rw [atL_neg _ _ _ _ (Int.le_refl 0)]
          exact fun h => hS ((hs.t _).2 h)
        rw [if_neg hS] at hr
        simp only [if_pos hneg2, if_pos (show (0 : Int) ≤ (i : Int) by omega), if_pos (show (i : Int) < (l0.length : Int) by omega), if_pos (show (0 : Int) ≤ (n : Int) by omega), fits_f, Option.bind_some, wn (show n < 4611686018427387904 by omega)]
        by_cases hq : fitB (rd_T40 l0 i) (rd_T40 l1 n) p = true
        · rw [if_pos hq] at hr
          have hl2 : (lk s.out i p none).length < 5864062014805 := by have := hs.len; simp only [lk]; omega
          simp only [if_pos hq, if_pos hl2]
          exact hr
        · rw [if_neg hq] at hr
          simp only [if_neg hq]
          exact hr
/-- An item that is matched already is passed over. -/
theorem l2_skip (l0 l1 : List S40) (s : St) (K : Nat) (hs : InvS s K) (hK : K < 900000) (p : Int) (i : Nat) (hl0 : l0.length < 900000) (hi : i < l0.length) (hl1 : l1.length < 900000) (hM : (i : Int) ∈ s.M) {r : List S38 × List Int × List Int}
    (hc : Ev (fun k => corebankref44_Match.l1 k l0 l1 s.out p ((i + 1 : Nat) : Int)) r) :
    ∀ (d n : Nat), n + d = l1.length → Ev (fun k => corebankref44_Match.l2 k l0 l1 s.out p i (n : Int)) r := by
  intro d
  induction d with
  | zero =>
    intro n hn
    refine Ev.step (fun k => ?_) hc
    simp only [corebankref44_Match.l2]; rw [if_neg (by omega), wn (by omega)]
  | succ d ih =>
    intro n hn
    have hr := ih (n + 1) (by omega)
    have ha := at_ev s.out (i : Int) true (by have := hs.len; omega)
    have hneg : ¬ atL (comp true) (i : Int) s.out 0 < 0 := by
      rw [atL_neg _ _ _ _ (Int.le_refl 0)]
      exact fun h => h ((hs.m _).1 hM)
    obtain ⟨K1, h1⟩ := ha
    obtain ⟨K2, h2⟩ := hr
    dsimp only at h1 h2
    refine ⟨max K1 K2 + 1, fun k hk => ?_⟩
    obtain ⟨m, rfl⟩ : ∃ m, k = m + 1 := ⟨k - 1, by omega⟩
    simp only [corebankref44_Match.l2]
    rw [if_pos (by omega), h1 m (by omega), Option.bind_some, if_neg hneg, wn (by omega)]
    exact h2 m (by omega)
theorem step_lk (l0 l1 : List S40) (s : St) (p : Int) (i : Nat) (hM : (i : Int) ∉ s.M) : lk s.out i p (ffi (fun y => fitB (rd_T40 l0 i) y p) s.S l1 l1.length) = (stepM l1 p i (rd_T40 l0 i) s).out := by
  unfold stepM
  rw [if_neg hM, mat_ffi]
  cases ffi (fun y => fitB (rd_T40 l0 i) y p) s.S l1 l1.length <;> rfl
theorem l1_ev (l0 l1 : List S40) (p : Int) (hp0 : 0 ≤ p) (hp : p < 10) (hl0 : l0.length < 100000) (hl1 : l1.length < 900000) {r : List S38 × List Int × List Int} :
    ∀ (d n : Nat) (s : St) (K : Nat), n + d = l0.length → InvS s K → K + d < 900000 → Ev (fun k => corebankref44_Match.l0 k l0 l1 (passL l1 p (l0.drop n) n s).out (p + 1)) r → Ev (fun k => corebankref44_Match.l1 k l0 l1 s.out p (n : Int)) r := by
  intro d
  induction d with
  | zero =>
    intro n s K hn hs hK hc
    rw [List.drop_of_length_le (by omega)] at hc
    refine Ev.step (fun k => ?_) hc
    simp only [corebankref44_Match.l1]; rw [if_neg (by omega), w1 hp0 (by omega)]; rfl
  | succ d ih =>
    intro n s K hn hs hK hc
    rw [drop40 (by omega)] at hc
    unfold passL at hc
    have hr := ih (n + 1) (stepM l1 p n (rd_T40 l0 n) s) (K + 1) (by omega) (hs.step l1 p n _) (by omega) (by exact hc)
    refine Ev.step (f := fun k => corebankref44_Match.l2 k l0 l1 s.out p n 0) (fun k => ?_) ?_
    · simp only [corebankref44_Match.l1]; rw [if_pos (by omega)]
    · by_cases hM : (n : Int) ∈ s.M
      · have he : stepM l1 p n (rd_T40 l0 n) s = s := by unfold stepM; rw [if_pos hM]
        rw [he] at hr
        exact l2_skip l0 l1 s K hs (by omega) p n (by omega) (by omega) hl1 hM hr l1.length 0 (by omega)
      · rw [← step_lk l0 l1 s p n hM] at hr
        exact l2_ev l0 l1 s K hs (by omega) p n (by omega) (by omega) hl1 hM hr l1.length 0 (by omega)
theorem InvS.pass {l1 : List S40} {p : Int} : ∀ (l : List S40) (i : Int) {s : St} {K : Nat}, InvS s K → InvS (passL l1 p l i s) (K + l.length)
  | [], _, _, _, h => h
  | x :: r, i, s, K, h => by
    have := InvS.pass (l1 := l1) (p := p) r (i + 1) (h.step l1 p i x)
    unfold passL
    rw [List.length_cons, show K + (r.length + 1) = K + 1 + r.length by omega]
    exact this
theorem l0_ev (l0 l1 : List S40) (hl0 : l0.length ≤ 4096) (hl1 : l1.length ≤ 4096) {r : List S38 × List Int × List Int} :
    ∀ (m : Nat) (p : Int) (s : St) (K : Nat), p + m = 4 → 1 ≤ p → InvS s K → K + m * 4096 < 800000 → Ev (fun k => corebankref44_Match.l3 k l0 l1 (fromP l0 l1 m p s).out ([] : List S38) 0) r → Ev (fun k => corebankref44_Match.l0 k l0 l1 s.out p) r
  | 0, p, s, K, hp, hp1, hs, hK, hc => by
    refine Ev.step (f := fun k => corebankref44_Match.j1 k l0 l1 s.out p false) (fun k => ?_) (Ev.step (fun k => ?_) hc)
    · simp only [corebankref44_Match.l0]; rw [if_neg (by omega)]
    · simp only [corebankref44_Match.j1]; rw [if_neg (by simp)]; rfl
  | m + 1, p, s, K, hp, hp1, hs, hK, hc => by
    have hrec := l0_ev l0 l1 hl0 hl1 m (p + 1) (passL l1 p l0 0 s) (K + l0.length) (by omega) (by omega) (hs.pass l0 0) (by omega) (by exact hc)
    have h1 := l1_ev l0 l1 p (by omega) (by omega) (by omega) (by omega) l0.length 0 s K (by omega) hs (by omega) (by simpa using hrec)
    refine Ev.step (f := fun k => corebankref44_Match.j1 k l0 l1 s.out p true) (fun k => ?_) (Ev.step (fun k => ?_) h1)
    · simp only [corebankref44_Match.l0]; rw [if_pos (by omega), if_pos (by omega), decide_eq_true (by omega)]
    · simp only [corebankref44_Match.j1]; rw [if_pos trivial]; rfl
theorem restL_succ (T : List Int) (n : Nat) : restL T (n + 1) = if (n : Int) ∈ T then restL T n else restL T n ++ [(n : Int)] := rfl
theorem ordL_succ (xs : List S38) (n : Nat) : ordL xs (n + 1) = ordL xs n ++ (xs.find? (fun p => decide (p.f0 = (n : Int)))).toList := rfl
theorem free_l0 (N : Nat) (out : List S38) (b : Bool) (T : List Int) (hT : ∀ y, y ∈ T ↔ y ∈ out.map (comp b)) (hN : N < 1000000) (ho : out.length < 1000000) : ∀ (d n : Nat), n + d = N → Ev (fun k => corebankref44_free.l0 k (N : Int) out b (restL T n) (n : Int)) (restL T N) := by
  intro d
  induction d with
  | zero =>
    intro n hn
    obtain rfl : n = N := by omega
    refine Ev.step (fun k => ?_) (Ev.now _)
    simp only [corebankref44_free.l0]; rw [if_neg (by omega)]
  | succ d ih =>
    intro n hn
    have hr := ih (n + 1) (by omega)
    have ha := at_ev out (n : Int) b ho
    have hlen := restL_len T n
    obtain ⟨K1, h1⟩ := ha
    obtain ⟨K2, h2⟩ := hr
    dsimp only at h1 h2
    refine ⟨max K1 K2 + 1, fun k hk => ?_⟩
    obtain ⟨m, rfl⟩ : ∃ m, k = m + 1 := ⟨k - 1, by omega⟩
    simp only [corebankref44_free.l0]
    rw [if_pos (by omega), h1 m (by omega), Option.bind_some]
    have h2' := h2 m (by omega)
    rw [restL_succ] at h2'
    have hneg := atL_neg (comp b) (n : Int) out 0 (Int.le_refl 0)
    rw [← hT] at hneg
    by_cases h : (n : Int) ∈ T
    · rw [if_pos h] at h2'
      rw [if_neg (fun h' => (hneg.1 h') h), wn (by omega)]
      exact h2'
    · rw [if_neg h] at h2'
      rw [if_pos (hneg.2 h), if_pos (by omega), wn (by omega)]
      exact h2'
theorem free_ev (N : Nat) (out : List S38) (b : Bool) (T : List Int) (hT : ∀ y, y ∈ T ↔ y ∈ out.map (comp b)) (hN : N < 1000000) (ho : out.length < 1000000) : Ev (fun k => corebankref44_free.f k (N : Int) out b) (restL T N) := free_l0 N out b T hT hN ho N 0 (by omega)
theorem ordL_len (xs : List S38) (n : Nat) : (ordL xs n).length ≤ n := by
  induction n with
  | zero => simp [ordL]
  | succ n ih =>
    unfold ordL
    rw [List.length_append]
    have : (xs.find? (fun p => decide (p.f0 = (n : Int)))).toList.length ≤ 1 := by cases xs.find? (fun p => decide (p.f0 = (n : Int))) <;> simp
    omega
theorem l3_ev (l0 l1 : List S40) (s : St) (K : Nat) (hs : InvS s K) (hK : K < 900000) (hl0 : l0.length < 900000) (hl1 : l1.length < 900000) :
    ∀ (d n : Nat), n + d = l0.length → Ev (fun k => corebankref44_Match.l3 k l0 l1 s.out (ordL s.out n) (n : Int)) (ordL s.out l0.length, restL s.M l0.length, restL s.S l1.length) := by
  have ho : s.out.length < 1000000 := by have := hs.len; omega
  intro d
  induction d with
  | zero =>
    intro n hn
    obtain rfl : n = l0.length := by omega
    obtain ⟨K1, h1⟩ := free_ev l0.length s.out true s.M hs.m (by omega) ho
    obtain ⟨K2, h2⟩ := free_ev l1.length s.out false s.S hs.t (by omega) ho
    dsimp only at h1 h2
    refine ⟨max K1 K2 + 1, fun k hk => ?_⟩
    obtain ⟨m, rfl⟩ : ∃ m, k = m + 1 := ⟨k - 1, by omega⟩
    simp only [corebankref44_Match.l3]
    rw [if_neg (by omega), h1 m (by omega), Option.bind_some, h2 m (by omega), Option.bind_some]
  | succ d ih =>
    intro n hn
    obtain ⟨K2, h2⟩ := ih (n + 1) (by omega)
    obtain ⟨K1, h1⟩ := at_ev s.out (n : Int) true ho
    dsimp only at h1 h2
    refine ⟨max K1 K2 + 1, fun k hk => ?_⟩
    obtain ⟨m, rfl⟩ : ∃ m, k = m + 1 := ⟨k - 1, by omega⟩
    have h2' := h2 m (by omega)
    rw [ordL_succ] at h2'
    have hlen := ordL_len s.out n
    simp only [corebankref44_Match.l3]
    rw [if_pos (by omega), h1 m (by omega), Option.bind_some]
    by_cases h : 0 ≤ atL (comp true) (n : Int) s.out 0
    · obtain ⟨j, e1, e2, e3⟩ := atL_find (comp true) (n : Int) s.out 0 (Int.le_refl 0) h
      have e3' : s.out.find? (fun p => decide (p.f0 = (n : Int))) = some (rd_T38 s.out j) := e3
      rw [e3'] at h2'
      rw [e2, Int.zero_add, if_pos (by omega), if_pos (by omega), if_pos (by omega), if_pos (by omega), wn (by omega)]
      exact h2'
    · have hn' : (n : Int) ∉ s.out.map (comp true) := (atL_neg (comp true) (n : Int) s.out 0 (Int.le_refl 0)).1 (by omega)
      have e3 : s.out.find? (fun p => decide (p.f0 = (n : Int))) = none := by
        rw [List.find?_eq_none]
        intro q hq
        simp only [decide_eq_true_eq]
        intro e
        exact hn' (List.mem_map.2 ⟨q, hq, e⟩)
      rw [e3] at h2'
      rw [if_neg h, wn (by omega)]
      simpa using h2'
theorem InvS.from {l0 l1 : List S40} : ∀ (m : Nat) (p : Int) {s : St} {K : Nat}, InvS s K → InvS (fromP l0 l1 m p s) (K + m * l0.length)
  | 0, _, _, _, h => by simpa [fromP] using h
  | m + 1, p, s, K, h => by
    have := InvS.from (l0 := l0) (l1 := l1) m (p + 1) (h.pass (l1 := l1) (p := p) l0 0)
    rw [show K + (m + 1) * l0.length = K + l0.length + m * l0.length by rw [Nat.add_mul]; omega]
    exact this
theorem InvS.run (l0 l1 : List S40) : InvS (runM l0 l1) (3 * l0.length) := by
  have := InvS.from (l0 := l0) (l1 := l1) 3 1 (s := ⟨[], [], []⟩) (K := 0) ⟨by simp, by simp, by simp⟩
  rwa [Nat.zero_add] at this
theorem refMatch_ev (l0 l1 : List S40) (h0 : l0.length ≤ 4096) (h1 : l1.length ≤ 4096) : Ev (fun k => corebankref44_Match.f k l0 l1) (ordL (runM l0 l1).out l0.length, restL (runM l0 l1).M l0.length, restL (runM l0 l1).S l1.length) :=
  l0_ev l0 l1 h0 h1 3 1 ⟨[], [], []⟩ 0 (by omega) (by omega) ⟨by simp, by simp, by simp⟩ (by omega) (l3_ev l0 l1 (runM l0 l1) _ (InvS.run l0 l1) (by omega) (by omega) (by omega) l0.length 0 (by omega))
theorem okI_of {x : S40} (h : okItem x) : okI x = true := by
  unfold okI
  rw [h.2.2, Bool.and_true, decide_eq_true_eq]
  exact h.1
theorem match_some (l0 l1 : List S40) (h0 : l0.length ≤ 4096) (h1 : l1.length ≤ 4096) (q0 : ∀ x ∈ l0, okItem x) (q1 : ∀ x ∈ l1, okItem x) : reconcile_Match.f l0 l1 = some (ordL (runM l0 l1).out l0.length, restL (runM l0 l1).M l0.length, restL (runM l0 l1).S l1.length) := by
  unfold reconcile_Match.f
  rw [if_pos]
  simp only [Bool.and_eq_true, decide_eq_true_eq, List.all_eq_true]
  exact ⟨⟨⟨h0, h1⟩, fun x hx => okI_of (q0 x hx)⟩, fun x hx => okI_of (q1 x hx)⟩
end Go.Proofs.Ytdieblejeeojhaa.Pl
