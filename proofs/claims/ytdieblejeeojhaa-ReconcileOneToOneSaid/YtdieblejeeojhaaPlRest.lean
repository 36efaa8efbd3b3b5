/- Plain: what a match is; the sums of what is left. -/
import Derived.Test.YtdieblejeeojhaaPlMatch
namespace Go.Proofs.Ytdieblejeeojhaa.Pl
open Go Go.RowKit Go.Proofs.Ytdieblejeeojhaa.PA Go.Proofs.YtdieblejeeojhaaW.PrintWords
set_option linter.unusedVariables false
set_option linter.unusedSimpArgs false

theorem ffi_some {q : S40 → Bool} {S : List Int} {l : List S40} : ∀ {n : Nat} {k : Int}, ffi q S l n = some k → ∃ m : Nat, m < n ∧ k = (m : Int) ∧ (m : Int) ∉ S ∧ q (rd_T40 l m) = true
  | 0, _, h => by simp [ffi] at h
  | n + 1, k, h => by
    unfold ffi at h
    cases hf : ffi q S l n with
    | some j =>
      rw [hf] at h
      obtain ⟨m, h1, h2, h3, h4⟩ := ffi_some hf
      simp only [Option.some_or, Option.some.injEq] at h
      exact ⟨m, by omega, by omega, h3, h4⟩
    | none =>
      rw [hf, Option.none_or] at h
      split at h
      · cases h
      · rename_i hS
        split at h
        · rename_i hq
          simp only [Option.some.injEq] at h
          exact ⟨n, by omega, h.symm, hS, hq⟩
        · cases h
theorem ffi_none {q : S40 → Bool} {S : List Int} {l : List S40} : ∀ {n : Nat}, ffi q S l n = none → ∀ m : Nat, m < n → (m : Int) ∉ S → q (rd_T40 l m) = false
  | 0, _, m, h, _ => absurd h (Nat.not_lt_zero m)
  | n + 1, h, m, hm, hS => by
    unfold ffi at h
    rw [Option.or_eq_none_iff] at h
    by_cases e : m = n
    · subst e
      have h2 := h.2
      rw [if_neg hS] at h2
      split at h2
      · cases h2
      · rename_i hq
        simpa using hq
    · exact ffi_none h.1 m (by omega) hS
theorem fitB_amt {x y : S40} {p : Int} (h : fitB x y p = true) : x.f2 = y.f2 := by
  unfold fitB at h
  split at h
  · assumption
  · cases h
def sm (f : Int → Int) : List Int → Int
  | [] => 0
  | i :: r => f i + sm f r
theorem sm_app (f : Int → Int) (b : List Int) : ∀ a : List Int, sm f (a ++ b) = sm f a + sm f b
  | [] => by simp [sm]
  | i :: r => by
    rw [List.cons_append]
    show f i + sm f (r ++ b) = f i + sm f r + sm f b
    rw [sm_app f b r]; omega
theorem rest_far (T : List Int) (i : Int) : ∀ n : Nat, (n : Int) ≤ i → restL (i :: T) n = restL T n
  | 0, _ => rfl
  | n + 1, h => by
    rw [restL_succ, restL_succ, rest_far T i n (by omega)]
    have : (n : Int) ≠ i := by omega
    simp only [List.mem_cons, this, false_or]
theorem rest_cons (f : Int → Int) (T : List Int) (i : Int) (h0 : 0 ≤ i) (hi : i ∉ T) : ∀ n : Nat, i < (n : Int) → sm f (restL (i :: T) n) + f i = sm f (restL T n)
  | 0, h => by omega
  | n + 1, h => by
    rw [restL_succ, restL_succ]
    by_cases e : (n : Int) = i
    · rw [if_pos (by rw [e]; exact List.mem_cons_self), if_neg (by rw [e]; exact hi), rest_far T i n (by omega), sm_app]
      simp only [sm]
      rw [e]
      omega
    · have ih := rest_cons f T i h0 hi n (by omega)
      by_cases g : (n : Int) ∈ T
      · rw [if_pos (List.mem_cons_of_mem _ g), if_pos g]; exact ih
      · have : (n : Int) ∉ i :: T := by simp only [List.mem_cons, not_or]; exact ⟨e, g⟩
        rw [if_neg this, if_neg g, sm_app, sm_app]
        omega
/-- The difference of the sums of what is left stays. -/
def Bal (l0 l1 : List S40) (c : Int) (s : St) : Prop := sm (fun i => (rd_T40 l0 i).f2) (restL s.M l0.length) - sm (fun i => (rd_T40 l1 i).f2) (restL s.S l1.length) = c
theorem Bal.step {l0 l1 : List S40} {c : Int} {s : St} (h : Bal l0 l1 c s) (p i : Int) (h0 : 0 ≤ i) (hi : i < (l0.length : Int)) : Bal l0 l1 c (stepM l1 p i (rd_T40 l0 i) s) := by
  unfold stepM
  split
  · exact h
  · rename_i hM
    split
    · exact h
    · rename_i k hk
      rw [mat_ffi] at hk
      obtain ⟨m, h1, h2, h3, h4⟩ := ffi_some hk
      subst h2
      have e := fitB_amt h4
      have r0 := rest_cons (fun i => (rd_T40 l0 i).f2) s.M i h0 hM l0.length hi
      have r1 := rest_cons (fun i => (rd_T40 l1 i).f2) s.S m (by omega) h3 l1.length (by omega)
      unfold Bal at h ⊢
      dsimp only at *
      omega
theorem Bal.pass {l0 l1 : List S40} {c : Int} (p : Int) : ∀ (d n : Nat) {s : St}, n + d = l0.length → Bal l0 l1 c s → Bal l0 l1 c (passL l1 p (l0.drop n) n s)
  | 0, n, s, hn, h => by rw [List.drop_of_length_le (by omega)]; exact h
  | d + 1, n, s, hn, h => by
    rw [drop40 (by omega)]
    exact Bal.pass p d (n + 1) (by omega) (h.step p n (by omega) (by omega))
theorem Bal.from {l0 l1 : List S40} {c : Int} : ∀ (m : Nat) (p : Int) {s : St}, Bal l0 l1 c s → Bal l0 l1 c (fromP l0 l1 m p s)
  | 0, _, _, h => h
  | m + 1, p, s, h => Bal.from m (p + 1) (by have := Bal.pass p l0.length 0 (by omega) h; simpa using this)
end Go.Proofs.Ytdieblejeeojhaa.Pl
