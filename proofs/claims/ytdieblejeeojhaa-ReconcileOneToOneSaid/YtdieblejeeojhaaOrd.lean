/- Plain: what Match computes; a list of pairs in the order of their first numbers. -/
import Derived.Test.YtdieblejeeojhaaMatchM
namespace Go.Proofs.Ytdieblejeeojhaa.PA
open Go.RowKit
set_option linter.unusedVariables false
set_option linter.unusedSimpArgs false

structure St where
  M : List Int
  S : List Int
  out : List S38
/-- One item of ours in a pass. -/
def stepM (l1 : List S40) (p : Int) (i : Int) (x : S40) (s : St) : St :=
  if i ∈ s.M then s else match matL l1 s.S x p with
    | none => s
    | some k => ⟨i :: s.M, k :: s.S, s.out ++ [⟨i, k, p⟩]⟩
def passL (l1 : List S40) (p : Int) : List S40 → Int → St → St
  | [], _, s => s
  | x :: r, i, s => passL l1 p r (i + 1) (stepM l1 p i x s)
def fromP (l0 l1 : List S40) : Nat → Int → St → St
  | 0, _, s => s
  | m + 1, p, s => fromP l0 l1 m (p + 1) (passL l1 p l0 0 s)
def runM (l0 l1 : List S40) : St := fromP l0 l1 3 1 ⟨[], [], []⟩
def ordL (xs : List S38) : Nat → List S38
  | 0 => []
  | n + 1 => ordL xs n ++ (xs.find? (fun p => decide (p.f0 = (n : Int)))).toList

/-- The state is sound: the pairs' first numbers are the ones met, each once. -/
def Snd (n : Int) (s : St) : Prop := (s.out.map (·.f0)).Nodup ∧ (∀ i, i ∈ s.M ↔ i ∈ s.out.map (·.f0)) ∧ ∀ p ∈ s.out, 0 ≤ p.f0 ∧ p.f0 < n
theorem Snd.step {n : Int} {s : St} (h : Snd n s) (l1 : List S40) (p i : Int) (x : S40) (h0 : 0 ≤ i) (h1 : i < n) : Snd n (stepM l1 p i x s) := by
  unfold stepM
  split
  · exact h
  · rename_i hi
    split
    · exact h
    · rename_i k hk
      obtain ⟨a, b, c⟩ := h
      refine ⟨?_, fun j => ?_, fun q hq => ?_⟩
      · rw [List.map_append, List.nodup_append]
        refine ⟨a, by simp, ?_⟩
        intro u hu v hv e
        simp at hv
        subst hv
        subst e
        exact hi ((b u).2 hu)
      · simp only [List.map_append, List.mem_append, List.mem_cons, List.map_cons, List.map_nil, List.not_mem_nil, or_false, b j]
        exact Or.comm
      · rcases List.mem_append.1 hq with hq | hq
        · exact c q hq
        · simp at hq
          subst hq
          exact ⟨h0, h1⟩
theorem Snd.pass {n : Int} (l1 : List S40) (p : Int) : ∀ (l : List S40) (i : Int) {s : St}, Snd n s → 0 ≤ i → i + l.length ≤ n → Snd n (passL l1 p l i s)
  | [], _, _, h, _, _ => h
  | x :: r, i, s, h, h0, h1 => by
    simp at h1
    exact Snd.pass l1 p r (i + 1) (h.step l1 p i x h0 (by omega)) (by omega) (by omega)
theorem Snd.from (l0 l1 : List S40) : ∀ (m : Nat) (p : Int) {s : St}, Snd l0.length s → Snd l0.length (fromP l0 l1 m p s)
  | 0, _, _, h => h
  | m + 1, p, _, h => Snd.from l0 l1 m (p + 1) (h.pass l1 p l0 0 (Int.le_refl 0) (by omega))
theorem Snd.run (l0 l1 : List S40) : Snd l0.length (runM l0 l1) := Snd.from l0 l1 3 1 ⟨by simp, by simp, by simp⟩
theorem find_filter : ∀ (xs : List S38) (v : Int), (xs.map (·.f0)).Nodup → (xs.find? (fun p => decide (p.f0 = v))).toList = xs.filter (fun p => decide (p.f0 = v))
  | [], _, _ => rfl
  | x :: r, v, h => by
    simp only [List.map_cons, List.nodup_cons] at h
    have ih := find_filter r v h.2
    by_cases e : x.f0 = v
    · have hn : r.filter (fun p => decide (p.f0 = v)) = [] := by
        rw [List.filter_eq_nil_iff]
        intro p hp
        simp only [decide_eq_true_eq]
        intro e2
        exact h.1 (by rw [e, ← e2]; exact List.mem_map_of_mem hp)
      simp [List.find?_cons, List.filter_cons, e, hn]
    · simp [List.find?_cons, List.filter_cons, e, ih]
theorem ordL_mem {xs : List S38} : ∀ {n : Nat} {p : S38}, p ∈ ordL xs n → p ∈ xs ∧ p.f0 < (n : Int)
  | 0, _, h => by simp [ordL] at h
  | n + 1, p, h => by
    unfold ordL at h
    rcases List.mem_append.1 h with h | h
    · have := ordL_mem h
      exact ⟨this.1, by omega⟩
    · simp only [Option.mem_toList, Option.mem_def] at h
      have h1 := List.find?_some h
      have h2 := List.mem_of_find?_eq_some h
      simp at h1
      exact ⟨h2, by omega⟩
theorem ordL_sorted (xs : List S38) (hd : (xs.map (·.f0)).Nodup) (n : Nat) : (ordL xs n).Pairwise (fun a b => a.f0 < b.f0) := by
  induction n with
  | zero => simp [ordL]
  | succ n ih =>
    unfold ordL
    rw [List.pairwise_append]
    refine ⟨ih, ?_, ?_⟩
    · cases xs.find? (fun p => decide (p.f0 = (n : Int))) <;> simp
    · intro a ha b hb
      have h1 := (ordL_mem ha).2
      simp only [Option.mem_toList, Option.mem_def] at hb
      have h2 := List.find?_some hb
      simp at h2
      omega
theorem ordL_perm (xs : List S38) (hd : (xs.map (·.f0)).Nodup) (h0 : ∀ p ∈ xs, 0 ≤ p.f0) (n : Nat) : (ordL xs n).Perm (xs.filter (fun p => decide (p.f0 < (n : Int)))) := by
  induction n with
  | zero =>
    have : xs.filter (fun p => decide (p.f0 < ((0 : Nat) : Int))) = [] := by
      rw [List.filter_eq_nil_iff]
      intro p hp
      have := h0 p hp
      simp
      omega
    rw [this]
    exact List.Perm.refl _
  | succ n ih =>
    unfold ordL
    rw [find_filter xs _ hd]
    refine (ih.append_right _).trans ?_
    clear ih
    induction xs with
    | nil => simp
    | cons x r ih =>
      simp only [List.map_cons, List.nodup_cons] at hd
      have ih := ih hd.2 (fun p hp => h0 p (List.mem_cons_of_mem _ hp))
      by_cases h1 : x.f0 < (n : Int)
      · have h2 : x.f0 ≠ (n : Int) := by omega
        have h3 : x.f0 < ((n + 1 : Nat) : Int) := by omega
        simp only [List.filter_cons, h1, h2, h3, decide_true, decide_false, if_true, List.cons_append]
        exact List.Perm.cons x (by simpa using ih)
      · by_cases h2 : x.f0 = (n : Int)
        · have h3 : x.f0 < ((n + 1 : Nat) : Int) := by omega
          simp only [List.filter_cons, h1, h3, decide_true, decide_false, if_true, decide_eq_true h2]
          exact (List.perm_middle).trans (List.Perm.cons x (by simpa using ih))
        · have h3 : ¬ x.f0 < ((n + 1 : Nat) : Int) := by omega
          simp only [List.filter_cons, h1, h2, h3, decide_false]
          simpa using ih
/-- A sorted list of the same pairs is this one. -/
theorem ordL_eq {xs ys : List S38} {n : Nat} (hp : ys.Perm xs) (hs : ys.Pairwise (fun a b => ¬ b.f0 < a.f0)) (hd : (xs.map (·.f0)).Nodup) (hb : ∀ p ∈ xs, 0 ≤ p.f0 ∧ p.f0 < (n : Int)) : ys = ordL xs n := by
  have h1 : (ordL xs n).Perm xs := by
    have := ordL_perm xs hd (fun p hp => (hb p hp).1) n
    rwa [List.filter_eq_self.2 (fun p hp => by simp; exact (hb p hp).2)] at this
  refine List.Perm.eq_of_pairwise (le := fun a b => ¬ b.f0 < a.f0) ?_ hs ((ordL_sorted xs hd n).imp (fun h => by omega)) (hp.trans h1.symm)
  intro a b ha hb' h2 h3
  have ma := hp.mem_iff.1 ha
  have mb := (h1.mem_iff.1 hb')
  have e : a.f0 = b.f0 := by omega
  clear hs h1 hp ha hb'
  induction xs with
  | nil => cases ma
  | cons x r ih =>
    simp only [List.map_cons, List.nodup_cons] at hd
    rcases List.mem_cons.1 ma with ha | ha <;> rcases List.mem_cons.1 mb with hb' | hb'
    · rw [ha, hb']
    · exact absurd (by rw [← ha, e]; exact List.mem_map_of_mem hb') hd.1
    · exact absurd (by rw [← hb', ← e]; exact List.mem_map_of_mem ha) hd.1
    · exact ih hd.2 (fun p hp => hb p (List.mem_cons_of_mem _ hp)) ha hb'
end Go.Proofs.Ytdieblejeeojhaa.PA
