/- The plain law of ReconcileGaps: the sums and their difference are the reference's. -/
import Derived.Test.YtdieblejeeojhaaPAx11
import Derived.Test.YtdieblejeeojhaaPl
namespace Go.Proofs.Ytdieblejeeojhaa.Pl
open Go Go.RowKit Go.Proofs.Ytdieblejeeojhaa.PA Go.Proofs.YtdieblejeeojhaaW.PrintWords
set_option linter.unusedVariables false
set_option linter.unusedSimpArgs false

theorem mv (a : Int) : money_Valid.f a = some (decide (-1000000000000 ≤ a ∧ a ≤ 1000000000000)) := by
  unfold money_Valid.f
  by_cases h : a ≥ -1000000000000
  · rw [if_pos h]; congr 1; rw [decide_eq_decide]; constructor <;> (intro; omega)
  · rw [if_neg h]; congr 1; symm; rw [decide_eq_false_iff_not]; omega
theorem rv (a : Int) : corebankref03_Valid.f a = some (decide (-1000000000000 ≤ a ∧ a ≤ 1000000000000)) := by
  unfold corebankref03_Valid.f
  by_cases h : a ≥ -1000000000000
  · rw [if_pos h]; congr 1; rw [decide_eq_decide]; constructor <;> (intro; omega)
  · rw [if_neg h]; congr 1; symm; rw [decide_eq_false_iff_not]; omega
/-- The sum of the amounts from place n on, added to x; no sum if one is out of bounds. -/
def sumF (l : List S40) : Nat → Nat → Int → Int × Bool
  | 0, _, x => (x, true)
  | d + 1, n, x => if -1000000000000 ≤ (rd_T40 l n).f2 ∧ (rd_T40 l n).f2 ≤ 1000000000000 then sumF l d (n + 1) (wrap64 (x + (rd_T40 l n).f2)) else (0, false)
theorem sum_ev (l : List S40) (hl : l.length < 1000000) : ∀ (d n : Nat) (x : Int), n + d = l.length → Ev (fun k => reconcile_sum.l0 k x l (l.length : Int) (n : Int)) (sumF l d n x) := by
  intro d
  induction d with
  | zero =>
    intro n x hn
    refine Ev.step (fun k => ?_) (Ev.now _)
    simp only [reconcile_sum.l0]; rw [if_neg (by omega)]; rfl
  | succ d ih =>
    intro n x hn
    unfold sumF
    by_cases h : -1000000000000 ≤ (rd_T40 l n).f2 ∧ (rd_T40 l n).f2 ≤ 1000000000000
    · rw [if_pos h]
      refine Ev.step (fun k => ?_) (ih (n + 1) _ (by omega))
      simp only [reconcile_sum.l0]; rw [if_pos (by omega), if_pos (by omega), if_pos (by omega), mv, decide_eq_true h, wn (by omega)]; rfl
    · rw [if_neg h]
      refine Ev.step (fun k => ?_) (Ev.now _)
      simp only [reconcile_sum.l0]; rw [if_pos (by omega), if_pos (by omega), if_pos (by omega), mv, decide_eq_false h]; rfl
theorem total_ev (l : List S40) (hl : l.length < 1000000) : ∀ (d n : Nat) (x : Int), n + d = l.length → Ev (fun k => corebankref44_total.l0 k l x (n : Int)) (sumF l d n x) := by
  intro d
  induction d with
  | zero =>
    intro n x hn
    refine Ev.step (fun k => ?_) (Ev.now _)
    simp only [corebankref44_total.l0]; rw [if_neg (by omega)]; rfl
  | succ d ih =>
    intro n x hn
    unfold sumF
    by_cases h : -1000000000000 ≤ (rd_T40 l n).f2 ∧ (rd_T40 l n).f2 ≤ 1000000000000
    · rw [if_pos h]
      refine Ev.step (fun k => ?_) (ih (n + 1) _ (by omega))
      simp only [corebankref44_total.l0]; rw [if_pos (by omega), if_pos (by omega), rv, decide_eq_true h, wn (by omega)]; rfl
    · rw [if_neg h]
      refine Ev.step (fun k => ?_) (Ev.now _)
      simp only [corebankref44_total.l0]; rw [if_pos (by omega), if_pos (by omega), rv, decide_eq_false h]; rfl
def gapF (l0 l1 : List S40) : Int × Int :=
  let a := sumF l0 l0.length 0 0
  let b := sumF l1 l1.length 0 0
  if a.2 = true ∧ b.2 = true then (if -1000000000000 ≤ wrap64 (a.1 - b.1) ∧ wrap64 (a.1 - b.1) ≤ 1000000000000 then (wrap64 (a.1 - b.1), 0) else (0, 6)) else (0, 1)
theorem gap_ev (l0 l1 : List S40) (h0 : l0.length ≤ 4096) (h1 : l1.length ≤ 4096) : Ev (fun k => reconcile_Gap.f k l0 l1) (gapF l0 l1) := by
  have s0 := sum_ev l0 (by omega) l0.length 0 0 (by omega)
  have s1 := sum_ev l1 (by omega) l1.length 0 0 (by omega)
  refine Ev.congr (f := fun k => reconcile_Gap.j0 k l0 l1 false) (fun k => ?_) ?_
  · unfold reconcile_Gap.f; rw [if_neg (by omega), decide_eq_false (by omega)]
  refine Ev.step (f := fun k => (reconcile_sum.f k l0).bind fun bt111 => ((reconcile_sum.f k l1).bind fun bt113 => (if bt111.2 = true then (reconcile_Gap.j1 k bt111.1 bt113.1 (!bt113.2)) else (reconcile_Gap.j1 k bt111.1 bt113.1 true)))) (fun k => ?_) ?_
  · simp only [reconcile_Gap.j0]; rfl
  refine Ev.bind (f := fun k bt111 => ((reconcile_sum.f k l1).bind fun bt113 => (if bt111.2 = true then (reconcile_Gap.j1 k bt111.1 bt113.1 (!bt113.2)) else (reconcile_Gap.j1 k bt111.1 bt113.1 true)))) s0 ?_
  refine Ev.bind (f := fun k bt113 => (if (sumF l0 l0.length 0 0).2 = true then (reconcile_Gap.j1 k (sumF l0 l0.length 0 0).1 bt113.1 (!bt113.2)) else (reconcile_Gap.j1 k (sumF l0 l0.length 0 0).1 bt113.1 true))) s1 ?_
  unfold gapF
  generalize sumF l0 l0.length 0 0 = a
  generalize sumF l1 l1.length 0 0 = b
  obtain ⟨a1, a2⟩ := a
  obtain ⟨b1, b2⟩ := b
  cases a2 <;> cases b2 <;> simp only [Bool.not_true, Bool.not_false, if_true, Bool.false_eq_true, if_false, and_true, and_false, false_and, true_and]
  · exact Ev.step (fun k => rfl) (Ev.now _)
  · exact Ev.step (fun k => rfl) (Ev.now _)
  · exact Ev.step (fun k => rfl) (Ev.now _)
  · refine Ev.step (fun k => ?_) (Ev.now _)
    simp only [reconcile_Gap.j1, mv, Option.bind_some, Bool.false_eq_true, if_false]
    by_cases h : -1000000000000 ≤ wrap64 (a1 - b1) ∧ wrap64 (a1 - b1) ≤ 1000000000000
    · rw [decide_eq_true h, if_pos h]; rfl
    · rw [decide_eq_false h, if_neg h]; rfl
theorem rgap_ev (l0 l1 : List S40) (h0 : l0.length ≤ 4096) (h1 : l1.length ≤ 4096) : Ev (fun k => corebankref44_Gap.f k l0 l1) (gapF l0 l1) := by
  have s0 := total_ev l0 (by omega) l0.length 0 0 (by omega)
  have s1 := total_ev l1 (by omega) l1.length 0 0 (by omega)
  refine Ev.congr (f := fun k => corebankref44_Gap.j0 k l0 l1 false) (fun k => ?_) ?_
  · unfold corebankref44_Gap.f; rw [if_neg (by omega), decide_eq_false (by omega)]
  refine Ev.step (f := fun k => (corebankref44_total.f k l0).bind fun bt111 => ((corebankref44_total.f k l1).bind fun bt113 => (if bt111.2 = true then (corebankref44_Gap.j1 k bt111.1 bt113.1 (!bt113.2)) else (corebankref44_Gap.j1 k bt111.1 bt113.1 true)))) (fun k => ?_) ?_
  · simp only [corebankref44_Gap.j0]; rfl
  refine Ev.bind (f := fun k bt111 => ((corebankref44_total.f k l1).bind fun bt113 => (if bt111.2 = true then (corebankref44_Gap.j1 k bt111.1 bt113.1 (!bt113.2)) else (corebankref44_Gap.j1 k bt111.1 bt113.1 true)))) s0 ?_
  refine Ev.bind (f := fun k bt113 => (if (sumF l0 l0.length 0 0).2 = true then (corebankref44_Gap.j1 k (sumF l0 l0.length 0 0).1 bt113.1 (!bt113.2)) else (corebankref44_Gap.j1 k (sumF l0 l0.length 0 0).1 bt113.1 true))) s1 ?_
  unfold gapF
  generalize sumF l0 l0.length 0 0 = a
  generalize sumF l1 l1.length 0 0 = b
  obtain ⟨a1, a2⟩ := a
  obtain ⟨b1, b2⟩ := b
  cases a2 <;> cases b2 <;> simp only [Bool.not_true, Bool.not_false, if_true, Bool.false_eq_true, if_false, and_true, and_false, false_and, true_and]
  · exact Ev.step (fun k => rfl) (Ev.now _)
  · exact Ev.step (fun k => rfl) (Ev.now _)
  · exact Ev.step (fun k => rfl) (Ev.now _)
  · refine Ev.step (fun k => ?_) (Ev.now _)
    simp only [corebankref44_Gap.j1, rv, Option.bind_some, Bool.false_eq_true, if_false]
    by_cases h : -1000000000000 ≤ wrap64 (a1 - b1) ∧ wrap64 (a1 - b1) ≤ 1000000000000
    · rw [decide_eq_true h, if_pos h]; rfl
    · rw [decide_eq_false h, if_neg h]; rfl
theorem gaps (l0 l1 : List S40) : ∃ k, corebanklaw44_ReconcileGaps.f k l0 l1 = some true := by
  obtain ⟨b0, g0, c0⟩ := great_ev l0
  obtain ⟨b1, g1, c1⟩ := great_ev l1
  refine Ev.rounds ?_
  have hl : Ev (fun k => corebanklaw44_ReconcileGaps.j0 k l0 l1 true) true := by
    refine Ev.step (fun k => ?_) live_ev
    simp only [corebanklaw44_ReconcileGaps.j0, if_true]
    cases corebanklaw44_live.f k <;> rfl
  refine Ev.bind (f := fun k t => (if t = true then (corebanklaw44_ReconcileGaps.j0 k l0 l1 true) else ((corebankref44_Great.f k l1).bind fun t256 => (corebanklaw44_ReconcileGaps.j0 k l0 l1 t256)))) g0 ?_
  cases b0 with
  | true => simpa using hl
  | false =>
    simp only [Bool.false_eq_true, if_false]
    refine Ev.bind (f := fun k t => corebanklaw44_ReconcileGaps.j0 k l0 l1 t) g1 ?_
    cases b1 with
    | true => exact hl
    | false =>
      have e0 := c0 rfl
      have e1 := c1 rfl
      refine Ev.step (f := fun k => (reconcile_Gap.f k l0 l1).bind fun bt258 => ((corebankref44_Gap.f k l0 l1).bind fun bt260 => (if bt258.1 = bt260.1 then (if bt258.2 = bt260.2 then ((corebanklaw44_live.f k).bind fun t262 => (some t262)) else (none)) else (none)))) (fun k => ?_) ?_
      · simp only [corebanklaw44_ReconcileGaps.j0]; rfl
      refine Ev.bind (f := fun k bt258 => ((corebankref44_Gap.f k l0 l1).bind fun bt260 => (if bt258.1 = bt260.1 then (if bt258.2 = bt260.2 then ((corebanklaw44_live.f k).bind fun t262 => (some t262)) else (none)) else (none)))) (gap_ev l0 l1 (by omega) (by omega)) ?_
      refine Ev.bind (f := fun k (bt260 : Int × Int) => (if (gapF l0 l1).1 = bt260.1 then (if (gapF l0 l1).2 = bt260.2 then ((corebanklaw44_live.f k).bind fun t262 => (some t262)) else (none)) else (none))) (rgap_ev l0 l1 (by omega) (by omega)) ?_
      simp only [if_true]
      refine Ev.congr (fun k => ?_) live_ev
      cases corebanklaw44_live.f k <;> rfl
end Go.Proofs.Ytdieblejeeojhaa.Pl
