/- The plain law of ReconcileValid: the sets of indexes refuse just the pairs that are not the first of their numbers. -/
import Derived.Test.YtdieblejeeojhaaPAx9
import Derived.Test.YtdieblejeeojhaaPlAt
namespace Go.Proofs.Ytdieblejeeojhaa.Pl
open Go Go.RowKit Go.Proofs.Ytdieblejeeojhaa.PA Go.Proofs.YtdieblejeeojhaaW.PrintWords
set_option linter.unusedVariables false
set_option linter.unusedSimpArgs false

theorem first_iff (c : S38 → Int) (l : List S38) (n : Nat) (h : n < l.length) : atL c (c (rd_T38 l (n : Int))) l 0 = (n : Int) ↔ c (rd_T38 l (n : Int)) ∉ (l.take n).map c := by
  have e : l = l.take n ++ rd_T38 l (n : Int) :: l.drop (n + 1) := by rw [← drop38 h, List.take_append_drop]
  have hl : (l.take n).length = n := by rw [List.length_take]; omega
  constructor
  · intro h1 h2
    have := atL_lt c (c (rd_T38 l (n : Int))) (rd_T38 l (n : Int) :: l.drop (n + 1)) (l.take n) 0 h2
    rw [← e, hl] at this
    omega
  · intro h1
    have := atL_not c (c (rd_T38 l (n : Int))) (rd_T38 l (n : Int) :: l.drop (n + 1)) (l.take n) 0 h1
    rw [← e, hl] at this
    rw [this]
    unfold atL
    rw [if_pos rfl]
    omega
theorem take_succ38 (c : S38 → Int) (l : List S38) (n : Nat) (h : n < l.length) (a : List Int) (ha : ∀ y, y ∈ a ↔ y ∈ (l.take n).map c) : ∀ y, y ∈ c (rd_T38 l (n : Int)) :: a ↔ y ∈ (l.take (n + 1)).map c := by
  intro y
  have e : l.take (n + 1) = l.take n ++ [rd_T38 l (n : Int)] := by rw [List.take_succ_eq_append_getElem h, rd38_at h]
  rw [e, List.map_append, List.mem_append, List.mem_cons, ha y]
  simp only [List.map_cons, List.map_nil, List.mem_singleton]
  exact Or.comm
theorem valid_l0 (l0 l1 : List S40) (l2 : List S38) (hl : l2.length < 1000000) : ∀ (d n : Nat) (a b : List Int), n + d = l2.length → (∀ y, y ∈ a ↔ y ∈ (l2.take n).map (comp true)) → (∀ y, y ∈ b ↔ y ∈ (l2.take n).map (comp false)) →
    Ev (fun k => corebankref44_Valid.l0 k l0 l1 l2 (n : Int)) (vgo l0 l1 a b (l2.drop n)) := by
  intro d
  induction d with
  | zero =>
    intro n a b hn ha hb
    rw [List.drop_of_length_le (by omega)]
    refine Ev.step (fun k => ?_) (Ev.now _)
    simp only [corebankref44_Valid.l0]; rw [if_neg (by omega)]; rfl
  | succ d ih =>
    intro n a b hn ha hb
    have hlt : n < l2.length := by omega
    have f0 := first_iff (comp true) l2 n hlt
    have f1 := first_iff (comp false) l2 n hlt
    rw [← ha] at f0
    rw [← hb] at f1
    have hr := ih (n + 1) _ _ (by omega) (take_succ38 (comp true) l2 n hlt a ha) (take_succ38 (comp false) l2 n hlt b hb)
    rw [drop38 hlt]
    unfold vgo
    have at0 := at_ev l2 (rd_T38 l2 n).f0 true hl
    have at1 := at_ev l2 (rd_T38 l2 n).f1 false hl
    change Ev _ (atL (comp true) (comp true (rd_T38 l2 n)) l2 0) at at0
    change Ev _ (atL (comp false) (comp false (rd_T38 l2 n)) l2 0) at at1
    change Ev _ (vgo l0 l1 ((rd_T38 l2 n).f0 :: a) ((rd_T38 l2 n).f1 :: b) (l2.drop (n + 1))) at hr
    have c0 : comp true (rd_T38 l2 n) = (rd_T38 l2 n).f0 := rfl
    have c1 : comp false (rd_T38 l2 n) = (rd_T38 l2 n).f1 := rfl
    rw [c0] at f0 at0
    rw [c1] at f1 at1
    by_cases g : (rd_T38 l2 n).f0 < 0 ∨ (l0.length : Int) ≤ (rd_T38 l2 n).f0 ∨ (rd_T38 l2 n).f1 < 0 ∨ (l1.length : Int) ≤ (rd_T38 l2 n).f1
    · have hb : badp l0 l1 a b (rd_T38 l2 n) = true := by
        unfold badp
        simp only [Bool.or_eq_true, decide_eq_true_eq]
        rcases g with g | g | g | g
        · exact .inl (.inl (.inl (.inl (.inl (.inl g)))))
        · exact .inl (.inl (.inl (.inl (.inl (.inr g)))))
        · exact .inl (.inl (.inl (.inl (.inr g))))
        · exact .inl (.inl (.inl (.inr g)))
      rw [if_pos hb]
      refine Ev.step (f := fun k => corebankref44_Valid.j1 k l0 l1 l2 n true) (fun k => ?_) (Ev.step (fun k => ?_) (Ev.now _))
      · simp only [corebankref44_Valid.l0]
        rw [if_pos (by omega), if_pos (by omega)]
        by_cases h1 : (rd_T38 l2 n).f0 < 0
        · rw [if_pos h1]
        · rw [if_neg h1]
          by_cases h2 : (rd_T38 l2 n).f0 ≥ (l0.length : Int)
          · rw [if_pos h2]
          · rw [if_neg h2]
            by_cases h3 : (rd_T38 l2 n).f1 < 0
            · rw [if_pos h3]
            · rw [if_neg h3, decide_eq_true (by omega)]
      · simp only [corebankref44_Valid.j1]; rw [if_pos trivial]
    · have g0 : 0 ≤ (rd_T38 l2 n).f0 := by omega
      have g1 : (rd_T38 l2 n).f0 < (l0.length : Int) := by omega
      have g2 : 0 ≤ (rd_T38 l2 n).f1 := by omega
      have g3 : (rd_T38 l2 n).f1 < (l1.length : Int) := by omega
      refine Ev.step (f := fun k => corebankref44_Valid.j1 k l0 l1 l2 n false) (fun k => ?_) ?_
      · simp only [corebankref44_Valid.l0]
        rw [if_pos (by omega), if_pos (by omega), if_neg (by omega), if_neg (by omega), if_neg (by omega), decide_eq_false (by omega)]
      by_cases h7 : (rd_T40 l0 (rd_T38 l2 n).f0).f2 = (rd_T40 l1 (rd_T38 l2 n).f1).f2
      · refine Ev.step (f := fun k => (corebankref44_at.f k l2 ((rd_T38 l2 n).f0) true).bind fun t236 => (if t236 = (n : Int) then ((corebankref44_at.f k l2 ((rd_T38 l2 n).f1) false).bind fun t238 => (if t238 = (n : Int) then (corebankref44_Valid.l0 k l0 l1 l2 (wrap64 ((n : Int) + 1))) else (some false))) else (some false))) (fun k => ?_) ?_
        · simp only [corebankref44_Valid.j1]
          rw [if_neg (by simp), if_pos (by omega), if_pos (by omega), if_pos g0, if_pos g1, if_pos g2, if_pos g3, if_pos h7]
        · refine Ev.bind (f := fun k t236 => (if t236 = (n : Int) then ((corebankref44_at.f k l2 ((rd_T38 l2 n).f1) false).bind fun t238 => (if t238 = (n : Int) then (corebankref44_Valid.l0 k l0 l1 l2 (wrap64 ((n : Int) + 1))) else (some false))) else (some false))) at0 ?_
          by_cases h5 : (rd_T38 l2 n).f0 ∈ a
          · have hb : badp l0 l1 a b (rd_T38 l2 n) = true := by unfold badp; simp [h5]
            rw [if_pos hb]
            have : ¬ atL (comp true) (rd_T38 l2 n).f0 l2 0 = (n : Int) := fun h => f0.1 h h5
            simp only [if_neg this]
            exact Ev.now _
          · simp only [if_pos (f0.2 h5)]
            refine Ev.bind (f := fun k t238 => (if t238 = (n : Int) then (corebankref44_Valid.l0 k l0 l1 l2 (wrap64 ((n : Int) + 1))) else (some false))) at1 ?_
            by_cases h6 : (rd_T38 l2 n).f1 ∈ b
            · have hb : badp l0 l1 a b (rd_T38 l2 n) = true := by unfold badp; simp [h6]
              rw [if_pos hb]
              have : ¬ atL (comp false) (rd_T38 l2 n).f1 l2 0 = (n : Int) := fun h => f1.1 h h6
              simp only [if_neg this]
              exact Ev.now _
            · have hb : badp l0 l1 a b (rd_T38 l2 n) = false := by
                unfold badp
                simp only [h5, h6, h7, decide_true, decide_false, Bool.not_true, Bool.or_false, decide_eq_false (show ¬ (rd_T38 l2 n).f0 < 0 by omega), decide_eq_false (show ¬ (l0.length : Int) ≤ (rd_T38 l2 n).f0 by omega), decide_eq_false (show ¬ (rd_T38 l2 n).f1 < 0 by omega), decide_eq_false (show ¬ (l1.length : Int) ≤ (rd_T38 l2 n).f1 by omega)]
              rw [if_neg (by rw [hb]; simp)]
              simp only [if_pos (f1.2 h6), wn (show n < 4611686018427387904 by omega)]
              exact hr
      · have hb : badp l0 l1 a b (rd_T38 l2 n) = true := by unfold badp; simp [h7]
        rw [if_pos hb]
        refine Ev.step (fun k => ?_) (Ev.now _)
        simp only [corebankref44_Valid.j1]
        rw [if_neg (by simp), if_pos (by omega), if_pos (by omega), if_pos g0, if_pos g1, if_pos g2, if_pos g3, if_neg h7]
theorem valids (l0 l1 : List S40) (l2 : List S38) : ∃ k, corebanklaw44_ReconcileValid.f k l0 l1 l2 = some true := by
  obtain ⟨b0, g0, c0⟩ := great_ev l0
  obtain ⟨b1, g1, c1⟩ := great_ev l1
  refine Ev.rounds ?_
  have hl : Ev (fun k => (corebanklaw44_live.f k).bind fun t240 => (some t240)) true := Ev.congr (fun k => by cases corebanklaw44_live.f k <;> rfl) live_ev
  refine Ev.bind (f := fun k t239 => (if t239 = true then ((corebanklaw44_live.f k).bind fun t240 => (some t240)) else ((corebankref44_Great.f k l1).bind fun t241 => (if t241 = true then ((corebanklaw44_live.f k).bind fun t242 => (some t242)) else (if (l2.length : Int) > 100 then ((corebanklaw44_live.f k).bind fun t243 => (some t243)) else ((reconcile_Valid.f l0 l1 l2).bind fun t244 => ((corebankref44_Valid.f k l0 l1 l2).bind fun t245 => (if (t244 == t245) = true then ((corebanklaw44_live.f k).bind fun t246 => (some t246)) else (none))))))))) g0 ?_
  cases b0 with
  | true => simpa using hl
  | false =>
    simp only [Bool.false_eq_true, if_false]
    refine Ev.bind (f := fun k t241 => (if t241 = true then ((corebanklaw44_live.f k).bind fun t242 => (some t242)) else (if (l2.length : Int) > 100 then ((corebanklaw44_live.f k).bind fun t243 => (some t243)) else ((reconcile_Valid.f l0 l1 l2).bind fun t244 => ((corebankref44_Valid.f k l0 l1 l2).bind fun t245 => (if (t244 == t245) = true then ((corebanklaw44_live.f k).bind fun t246 => (some t246)) else (none))))))) g1 ?_
    cases b1 with
    | true => simpa using hl
    | false =>
      have e0 := c0 rfl
      have e1 := c1 rfl
      simp only [Bool.false_eq_true, if_false]
      by_cases h : (l2.length : Int) > 100
      · simp only [if_pos h]; exact hl
      · simp only [if_neg h]
        have hv : reconcile_Valid.f l0 l1 l2 = some (vgo l0 l1 [] [] l2) := by unfold reconcile_Valid.f; rw [if_pos ⟨by omega, by omega, by omega⟩]
        simp only [hv, Option.bind_some]
        have hr := valid_l0 l0 l1 l2 (by omega) l2.length 0 [] [] (by omega) (by simp) (by simp)
        refine Ev.bind (f := fun k t245 => (if (vgo l0 l1 [] [] l2 == t245) = true then ((corebanklaw44_live.f k).bind fun t246 => (some t246)) else (none))) hr ?_
        simp only [List.drop_zero, beq_self_eq_true, if_true]
        exact hl
end Go.Proofs.Ytdieblejeeojhaa.Pl
