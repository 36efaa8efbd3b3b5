/- Plain: the place of a pair with a number. -/
import Derived.Test.YtdieblejeeojhaaPAx5
import Derived.Test.YtdieblejeeojhaaPl
namespace Go.Proofs.Ytdieblejeeojhaa.Pl
open Go Go.RowKit Go.Proofs.Ytdieblejeeojhaa.PA Go.Proofs.YtdieblejeeojhaaW.PrintWords
set_option linter.unusedVariables false
set_option linter.unusedSimpArgs false

def comp (b : Bool) (p : S38) : Int := if b = true then p.f0 else p.f1
/-- The place of the first pair whose number is x, from i on; -1 where there is none. -/
def atL (c : S38 → Int) (x : Int) : List S38 → Int → Int
  | [], _ => -1
  | p :: r, i => if c p = x then i else atL c x r (i + 1)
theorem drop38 {l : List S38} {n : Nat} (h : n < l.length) : l.drop n = rd_T38 l (n : Int) :: l.drop (n + 1) := by
  rw [List.drop_eq_getElem_cons h, rd38_at h]
theorem drop40 {l : List S40} {n : Nat} (h : n < l.length) : l.drop n = rd_T40 l (n : Int) :: l.drop (n + 1) := by
  rw [List.drop_eq_getElem_cons h, rd40_at h]
theorem at_l0 (l : List S38) (x : Int) (b : Bool) (hl : l.length < 1000000) : ∀ (d n : Nat), n + d = l.length → Ev (fun k => corebankref44_at.l0 k l x b (n : Int)) (atL (comp b) x (l.drop n) n) := by
  intro d
  induction d with
  | zero =>
    intro n hn
    rw [List.drop_of_length_le (by omega)]
    refine Ev.step (fun k => ?_) (Ev.now _)
    simp only [corebankref44_at.l0]; rw [if_neg (by omega)]; rfl
  | succ d ih =>
    intro n hn
    rw [drop38 (by omega)]
    unfold atL
    by_cases h : comp b (rd_T38 l n) = x
    · rw [if_pos h]
      refine Ev.step (fun k => ?_) (Ev.now _)
      simp only [corebankref44_at.l0]
      unfold comp at h
      cases b with
      | true => rw [if_pos rfl] at h; rw [if_pos (by omega), if_pos rfl, if_pos (by omega), if_pos h]
      | false => rw [if_neg (by simp)] at h; rw [if_pos (by omega), if_neg (by simp), if_pos (by omega), if_pos h]
    · rw [if_neg h]
      have := ih (n + 1) (by omega)
      refine Ev.step (fun k => ?_) this
      simp only [corebankref44_at.l0]
      unfold comp at h
      cases b with
      | true => rw [if_pos rfl] at h; rw [if_pos (by omega), if_pos rfl, if_pos (by omega), if_neg h, wn (by omega)]
      | false => rw [if_neg (by simp)] at h; rw [if_pos (by omega), if_neg (by simp), if_pos (by omega), if_neg h, wn (by omega)]
theorem at_ev (l : List S38) (x : Int) (b : Bool) (hl : l.length < 1000000) : Ev (fun k => corebankref44_at.f k l x b) (atL (comp b) x l 0) := at_l0 l x b hl l.length 0 (by omega)
theorem atL_neg (c : S38 → Int) (x : Int) : ∀ (l : List S38) (i : Int), 0 ≤ i → (atL c x l i < 0 ↔ x ∉ l.map c)
  | [], i, h => by simp [atL]
  | p :: r, i, h => by
    unfold atL
    by_cases e : c p = x
    · rw [if_pos e]; simp [e]; omega
    · rw [if_neg e, atL_neg c x r (i + 1) (by omega)]
      simp only [List.map_cons, List.mem_cons, not_or]
      exact ⟨fun h => ⟨fun e' => e e'.symm, h⟩, fun h => h.2⟩
theorem atL_not (c : S38 → Int) (x : Int) (r : List S38) : ∀ (a : List S38) (i : Int), x ∉ a.map c → atL c x (a ++ r) i = atL c x r (i + a.length)
  | [], i, _ => by simp
  | p :: a, i, h => by
    simp only [List.map_cons, List.mem_cons, not_or] at h
    rw [List.cons_append]
    conv => lhs; unfold atL
    rw [if_neg (fun e => h.1 e.symm), atL_not c x r a (i + 1) h.2]
    congr 1
    simp only [List.length_cons]
    omega
theorem atL_lt (c : S38 → Int) (x : Int) (r : List S38) : ∀ (a : List S38) (i : Int), x ∈ a.map c → atL c x (a ++ r) i < i + a.length
  | [], i, h => by simp at h
  | p :: a, i, h => by
    rw [List.cons_append]
    unfold atL
    by_cases e : c p = x
    · rw [if_pos e]; simp; omega
    · rw [if_neg e]
      have := atL_lt c x r a (i + 1) (by simp only [List.map_cons, List.mem_cons] at h; exact h.resolve_left (fun e' => e e'.symm))
      simp only [List.length_cons]
      omega
/-- The pair at that place is the first one. -/
theorem atL_find (c : S38 → Int) (x : Int) : ∀ (l : List S38) (i : Int), 0 ≤ i → 0 ≤ atL c x l i → ∃ n : Nat, n < l.length ∧ atL c x l i = i + n ∧ l.find? (fun p => decide (c p = x)) = some (rd_T38 l n)
  | [], i, _, h => by simp [atL] at h
  | p :: r, i, hi, h => by
    unfold atL at h ⊢
    by_cases e : c p = x
    · rw [if_pos e]
      exact ⟨0, by simp, by simp, by simp [List.find?_cons, e, rd_T38]⟩
    · rw [if_neg e] at h ⊢
      obtain ⟨n, h1, h2, h3⟩ := atL_find c x r (i + 1) (by omega) h
      refine ⟨n + 1, by simp; omega, by rw [h2]; omega, ?_⟩
      rw [List.find?_cons, decide_eq_false e]
      rw [h3]
      unfold rd_T38
      simp
end Go.Proofs.Ytdieblejeeojhaa.Pl
