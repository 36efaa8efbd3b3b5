/- Plain: the balances as sums of whole numbers, wrapped once. -/
import Derived.Test.YtnilmhhidmdlnaaPAx10
import Derived.Test.YtnilmhhidmdlnaaPl
namespace Go.Proofs.Ytnilmhhidmdlnaa.Pl
open Go Go.RowKit Go.Proofs.Ytnilmhhidmdlnaa.PA Go.Proofs.YtnilmhhidmdlnaaW.PrintWords
set_option linter.unusedVariables false
set_option linter.unusedSimpArgs false

theorem ww_add (x y : Int) : wrap64 (wrap64 x + y) = wrap64 (x + y) := by unfold wrap64; omega
theorem ww_sub (x y : Int) : wrap64 (wrap64 x - y) = wrap64 (x - y) := by unfold wrap64; omega
theorem ww2 (x y : Int) : wrap64 (wrap64 x + wrap64 y) = wrap64 (x + y) := by unfold wrap64; omega
theorem ww (x : Int) : wrap64 (wrap64 x) = wrap64 x := by unfold wrap64; omega
theorem ww0 : wrap64 0 = 0 := by unfold wrap64; omega
/-- The legs of an account of which f takes something. -/
def lsum (f : Int → Int) (a : Int) : List S39 → Int
  | [] => 0
  | y :: r => (if y.f0 = a then f y.f1 else 0) + lsum f a r
def all (x : Int) : Int := x
def pos (x : Int) : Int := if x > 0 then x else 0
def neg (x : Int) : Int := if x > 0 then 0 else x
/-- .. over the entries that p takes. -/
def esum (p : S36 → Bool) (f : Int → Int) (a : Int) : List S36 → Int
  | [] => 0
  | e :: r => (if p e = true then lsum f a e.f8 else 0) + esum p f a r
theorem lsum_app (f : Int → Int) (a : Int) (l m : List S39) : lsum f a (l ++ m) = lsum f a l + lsum f a m := by
  induction l with
  | nil => simp [lsum]
  | cons y r ih => simp only [List.cons_append, lsum, ih]; omega
theorem esum_app (p : S36 → Bool) (f : Int → Int) (a : Int) (l m : List S36) : esum p f a (l ++ m) = esum p f a l + esum p f a m := by
  induction l with
  | nil => simp [esum]
  | cons y r ih => simp only [List.cons_append, esum, ih]; omega
def any36 (_ : S36) : Bool := true
def at36 (b v : Int) (e : S36) : Bool := decide (e.f1 ≤ b) && decide (e.f2 ≤ v)
def in36 (b v : Int) (e : S36) : Bool := !(decide (e.f1 < b) || decide (e.f1 > v))
/-- The movements of an entry. -/
def em (e : S36) (a : Int) : List (S36 × Int) := e.f8.flatMap fun y => if y.f0 = a then [(e, y.f1)] else []
theorem moves_cons (e : S36) (l : List S36) (a : Int) : moves (e :: l) a = em e a ++ moves l a := rfl
theorem em_fold {σ : Type} (g : σ → S36 × Int → σ) (e : S36) (a : Int) (s : σ) : (em e a).foldl g s = e.f8.foldl (fun s y => if y.f0 = a then g s (e, y.f1) else s) s := by
  unfold em
  generalize e.f8 = ys
  induction ys generalizing s with
  | nil => rfl
  | cons y r ih =>
    rw [List.flatMap_cons, List.foldl_append, ih, List.foldl_cons]
    congr 1
    split <;> rfl
theorem of_em (e : S36) (a n : Int) : (em e a).foldl sub1 (wrap64 n) = wrap64 (n - lsum all a e.f8) := by
  rw [em_fold]
  generalize e.f8 = ys
  induction ys generalizing n with
  | nil => simp [lsum]
  | cons y r ih =>
    rw [List.foldl_cons, lsum]
    split
    · rw [show sub1 (wrap64 n) (e, y.f1) = wrap64 (n - y.f1) from ww_sub _ _, ih, show n - y.f1 - lsum all a r = n - (all y.f1 + lsum all a r) by unfold all; omega]
    · rw [ih]; congr 1; omega
theorem of_sum (l : List S36) (a n : Int) : (moves l a).foldl sub1 (wrap64 n) = wrap64 (n - esum any36 all a l) := by
  induction l generalizing n with
  | nil => simp [moves, esum]
  | cons e r ih => rw [moves_cons, List.foldl_append, of_em, ih, esum]; congr 1; simp [any36]; omega
theorem at_em (b v : Int) (e : S36) (a n : Int) : (em e a).foldl (at1 b v) (wrap64 n) = wrap64 (n - if at36 b v e = true then lsum all a e.f8 else 0) := by
  by_cases c : e.f1 ≤ b ∧ e.f2 ≤ v
  · rw [if_pos (by simp [at36, c]), ← of_em, em_fold, em_fold]
    congr 1
    funext s y
    split
    · simp [at1, sub1, c]
    · rfl
  · rw [if_neg (by simpa [at36] using c), Int.sub_zero, em_fold]
    have : (fun (s : Int) (y : S39) => if y.f0 = a then at1 b v s (e, y.f1) else s) = fun s _ => s := by
      funext s y
      split
      · simp [at1, c]
      · rfl
    rw [this]
    generalize e.f8 = ys
    induction ys with
    | nil => rfl
    | cons y r ih => exact ih
theorem at_sum (b v : Int) (l : List S36) (a n : Int) : (moves l a).foldl (at1 b v) (wrap64 n) = wrap64 (n - esum (at36 b v) all a l) := by
  induction l generalizing n with
  | nil => simp [moves, esum]
  | cons e r ih => rw [moves_cons, List.foldl_append, at_em, ih, esum]; congr 1; omega
theorem tu_em (b v : Int) (e : S36) (a n m : Int) : (em e a).foldl (tu1 b v) (wrap64 n, wrap64 m) = (wrap64 (n + if in36 b v e = true then lsum pos a e.f8 else 0), wrap64 (m - if in36 b v e = true then lsum neg a e.f8 else 0)) := by
  rw [em_fold]
  by_cases c : e.f1 < b ∨ e.f1 > v
  · rw [if_neg (by simp only [in36, Bool.not_eq_true', Bool.or_eq_false_iff, decide_eq_false_iff_not]; omega), Int.add_zero, if_neg (by simp only [in36, Bool.not_eq_true', Bool.or_eq_false_iff, decide_eq_false_iff_not]; omega), Int.sub_zero]
    have : (fun (s : Int × Int) (y : S39) => if y.f0 = a then tu1 b v s (e, y.f1) else s) = fun s _ => s := by
      funext s y
      split
      · simp only [tu1]; rw [if_pos c]
      · rfl
    rw [this]
    generalize e.f8 = ys
    induction ys with
    | nil => rfl
    | cons y r ih => exact ih
  · rw [if_pos (by simp only [in36, Bool.not_eq_true', Bool.or_eq_false_iff, decide_eq_false_iff_not]; omega), if_pos (by simp only [in36, Bool.not_eq_true', Bool.or_eq_false_iff, decide_eq_false_iff_not]; omega)]
    have : (fun (s : Int × Int) (y : S39) => if y.f0 = a then tu1 b v s (e, y.f1) else s) = fun s y => if y.f0 = a then (if y.f1 > 0 then (wrap64 (s.1 + y.f1), s.2) else (s.1, wrap64 (s.2 - y.f1))) else s := by
      funext s y
      split
      · simp only [tu1]; rw [if_neg c]
      · rfl
    rw [this]
    clear this c
    generalize e.f8 = ys
    induction ys generalizing n m with
    | nil => simp [lsum]
    | cons y r ih =>
      rw [List.foldl_cons, lsum, lsum]
      by_cases h1 : y.f0 = a
      · by_cases h2 : y.f1 > 0
        · rw [if_pos h1, if_pos h2, if_pos h1, if_pos h1, pos, neg, if_pos h2, if_pos h2]
          dsimp only
          rw [ww_add, ih, Prod.mk.injEq]
          exact ⟨by congr 1; omega, by congr 1; omega⟩
        · rw [if_pos h1, if_neg h2, if_pos h1, if_pos h1, pos, neg, if_neg h2, if_neg h2]
          dsimp only
          rw [ww_sub, ih, Prod.mk.injEq]
          exact ⟨by congr 1; omega, by congr 1; omega⟩
      · rw [if_neg h1, if_neg h1, if_neg h1, ih, Prod.mk.injEq]
        exact ⟨by congr 1; omega, by congr 1; omega⟩
theorem tu_sum (b v : Int) (l : List S36) (a n m : Int) : (moves l a).foldl (tu1 b v) (wrap64 n, wrap64 m) = (wrap64 (n + esum (in36 b v) pos a l), wrap64 (m - esum (in36 b v) neg a l)) := by
  induction l generalizing n m with
  | nil => simp [moves, esum]
  | cons e r ih =>
    rw [moves_cons, List.foldl_append, tu_em, ih, esum, esum, Prod.mk.injEq]
    exact ⟨by congr 1; omega, by congr 1; omega⟩
theorem Of_f {l : List S36} (h : okJ l = true) (a : Int) : balance_Of.f l a = some (wrap64 (-(esum any36 all a l))) := by
  unfold balance_Of.f
  have := of_sum l a 0
  rw [ww0, Int.zero_sub] at this
  rw [if_pos h, this]
theorem At_f {l : List S36} (h : okJ l = true) (a b v : Int) : balance_At.f l a b v = some (wrap64 (-(esum (at36 b v) all a l))) := by
  unfold balance_At.f
  have := at_sum b v l a 0
  rw [ww0, Int.zero_sub] at this
  rw [if_pos h, this]
theorem Turnover_f {l : List S36} (h : okJ l = true) (a b v : Int) : balance_Turnover.f l a b v = some (wrap64 (esum (in36 b v) pos a l), wrap64 (-(esum (in36 b v) neg a l))) := by
  unfold balance_Turnover.f
  have := tu_sum b v l a 0 0
  rw [ww0, Int.zero_sub, Int.zero_add] at this
  rw [if_pos h, this]
/-! the reference -/
theorem moved_ev (e : S36) (a : Int) (h8 : e.f8.length ≤ 20) : Ev (fun k => corebankref21_moved.f k e.f0 e.f1 e.f2 e.f3 e.f4 e.f5 e.f6 e.f7 e.f8 e.f9 a) (wrap64 (-(lsum all a e.f8))) := by
  have : ∀ (d n : Nat) (x : Int), n + d = e.f8.length → Ev (fun k => corebankref21_moved.l0 k a (wrap64 x) (n : Int) e.f0 e.f1 e.f2 e.f3 e.f4 e.f5 e.f6 e.f7 e.f8 e.f9) (wrap64 (x - lsum all a (e.f8.drop n))) := by
    intro d
    induction d with
    | zero =>
      intro n x hn
      rw [List.drop_of_length_le (by omega)]
      refine Ev.step (fun k => ?_) (Ev.now _)
      simp only [corebankref21_moved.l0]; rw [if_neg (by omega)]; simp [lsum]
    | succ d ih =>
      intro n x hn
      rw [drop39 (show n < e.f8.length by omega), lsum]
      by_cases g : (rd_T39 e.f8 n).f0 = a
      · have h := ih (n + 1) (x - (rd_T39 e.f8 n).f1) (by omega)
        rw [if_pos g, show x - (all (rd_T39 e.f8 n).f1 + lsum all a (e.f8.drop (n + 1))) = x - (rd_T39 e.f8 n).f1 - lsum all a (e.f8.drop (n + 1)) by unfold all; omega]
        refine Ev.step (fun k => ?_) h
        simp only [corebankref21_moved.l0]; rw [if_pos (by omega), if_pos (by omega), if_pos g, wn (by omega), ww_sub]
      · have h := ih (n + 1) x (by omega)
        rw [if_neg g, Int.zero_add]
        refine Ev.step (fun k => ?_) h
        simp only [corebankref21_moved.l0]; rw [if_pos (by omega), if_pos (by omega), if_neg g, wn (by omega)]
  have h := this e.f8.length 0 0 (by omega)
  rw [List.drop_zero, ww0, Int.zero_sub] at h
  exact h
theorem rof_ev (l : List S36) (a : Int) (hf : Few l) : Ev (fun k => corebankref21_Of.f k l a) (wrap64 (-(esum any36 all a l))) := by
  have : ∀ (d n : Nat) (x : Int), n + d = l.length → Ev (fun k => corebankref21_Of.l0 k l a (wrap64 x) (n : Int)) (wrap64 (x - esum any36 all a (l.drop n))) := by
    intro d
    induction d with
    | zero =>
      intro n x hn
      rw [List.drop_of_length_le (by omega)]
      refine Ev.step (fun k => ?_) (Ev.now _)
      simp only [corebankref21_Of.l0]; rw [if_neg (by omega)]; simp [esum]
    | succ d ih =>
      intro n x hn
      have hlt : n < l.length := by omega
      have h20 : (rd_T36 l n).f8.length ≤ 20 := by rw [rd36_at hlt]; exact hf.2 _ (List.getElem_mem hlt)
      obtain ⟨K1, k1⟩ := moved_ev (rd_T36 l n) a h20
      obtain ⟨K2, k2⟩ := ih (n + 1) (x - lsum all a (rd_T36 l n).f8) (by omega)
      dsimp only at k1 k2
      rw [drop36 hlt, esum, if_pos (show any36 (rd_T36 l n) = true from rfl), show x - (lsum all a (rd_T36 l n).f8 + esum any36 all a (l.drop (n + 1))) = x - lsum all a (rd_T36 l n).f8 - esum any36 all a (l.drop (n + 1)) by omega]
      refine ⟨K1 + K2 + 1, fun k hk => ?_⟩
      obtain ⟨m, rfl⟩ : ∃ m, k = m + 1 := ⟨k - 1, by omega⟩
      have := hf.1
      simp only [corebankref21_Of.l0]; rw [if_pos (by omega), if_pos (by omega), k1 m (by omega), Option.bind_some, wn (by omega), ww2]
      exact k2 m (by omega)
  have h := this l.length 0 0 (by omega)
  rw [List.drop_zero, ww0, Int.zero_sub] at h
  exact h
theorem rat_ev (l : List S36) (a b v : Int) (hf : Few l) : Ev (fun k => corebankref21_At.f k l a b v) (wrap64 (-(esum (at36 b v) all a l))) := by
  have : ∀ (d n : Nat) (x : Int), n + d = l.length → Ev (fun k => corebankref21_At.l0 k l a b v (wrap64 x) (n : Int)) (wrap64 (x - esum (at36 b v) all a (l.drop n))) := by
    intro d
    induction d with
    | zero =>
      intro n x hn
      rw [List.drop_of_length_le (by omega)]
      refine Ev.step (fun k => ?_) (Ev.now _)
      simp only [corebankref21_At.l0]; rw [if_neg (by omega)]; simp [esum]
    | succ d ih =>
      intro n x hn
      have hlt : n < l.length := by omega
      have h20 : (rd_T36 l n).f8.length ≤ 20 := by rw [rd36_at hlt]; exact hf.2 _ (List.getElem_mem hlt)
      have h100 := hf.1
      rw [drop36 hlt, esum]
      by_cases g1 : (rd_T36 l n).f1 ≤ b
      · by_cases g2 : (rd_T36 l n).f2 ≤ v
        · obtain ⟨K1, k1⟩ := moved_ev (rd_T36 l n) a h20
          obtain ⟨K2, k2⟩ := ih (n + 1) (x - lsum all a (rd_T36 l n).f8) (by omega)
          dsimp only at k1 k2
          rw [if_pos (by simp [at36, g1, g2]), show x - (lsum all a (rd_T36 l n).f8 + esum (at36 b v) all a (l.drop (n + 1))) = x - lsum all a (rd_T36 l n).f8 - esum (at36 b v) all a (l.drop (n + 1)) by omega]
          refine ⟨K1 + K2 + 1, fun k hk => ?_⟩
          obtain ⟨m, rfl⟩ : ∃ m, k = m + 1 := ⟨k - 1, by omega⟩
          simp only [corebankref21_At.l0]; rw [if_pos (by omega), if_pos (by omega), if_pos g1, if_pos g2, k1 m (by omega), Option.bind_some, wn (by omega), ww2]
          exact k2 m (by omega)
        · rw [if_neg (by simp [at36, g2]), Int.zero_add]
          refine Ev.step (fun k => ?_) (ih (n + 1) x (by omega))
          simp only [corebankref21_At.l0]; rw [if_pos (by omega), if_pos (by omega), if_pos g1, if_neg g2, wn (by omega)]
      · rw [if_neg (by simp [at36, g1]), Int.zero_add]
        refine Ev.step (fun k => ?_) (ih (n + 1) x (by omega))
        simp only [corebankref21_At.l0]; rw [if_pos (by omega), if_pos (by omega), if_neg g1, wn (by omega)]
  have h := this l.length 0 0 (by omega)
  rw [List.drop_zero, ww0, Int.zero_sub] at h
  exact h
end Go.Proofs.Ytnilmhhidmdlnaa.Pl
