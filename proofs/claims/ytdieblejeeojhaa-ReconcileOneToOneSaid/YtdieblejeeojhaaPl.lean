/- Plain: what all the laws need: great lists, the chapter's examples, equal lists. -/
import Derived.Test.YtdieblejeeojhaaPAx4
namespace Go.Proofs.Ytdieblejeeojhaa.Pl
open Go Go.RowKit Go.Proofs.Ytdieblejeeojhaa.PA Go.Proofs.YtdieblejeeojhaaW.PrintWords
set_option linter.unusedVariables false
set_option linter.unusedSimpArgs false

/-- An item as the reader lets it in. -/
def okItem (x : S40) : Prop := x.f0.size ≤ maxLen ∧ (Lit.int .i64 x.f1).wf = true ∧ (Lit.int .i64 x.f2).wf = true
theorem w1 {i : Int} (h0 : 0 ≤ i) (h1 : i < 4611686018427387904) : wrap64 (i + 1) = i + 1 := by unfold wrap64; omega
theorem wn {n : Nat} (h1 : n < 4611686018427387904) : wrap64 ((n : Int) + 1) = ((n + 1 : Nat) : Int) := by rw [w1 (by omega) (by omega)]; rfl
theorem live_ev : Ev (fun k => corebanklaw44_live.f k) true := Ev.of corebanklaw44_live.mono (k := 40) (by decide +kernel)
theorem rd40_at {l : List S40} {n : Nat} (h : n < l.length) : rd_T40 l (n : Int) = l[n] := by unfold rd_T40; simp [List.getD_eq_getElem?_getD, h]
theorem rd38_at {l : List S38} {n : Nat} (h : n < l.length) : rd_T38 l (n : Int) = l[n] := by unfold rd_T38; simp [List.getD_eq_getElem?_getD, h]
theorem rd_at {l : List Int} {n : Nat} (h : n < l.length) : rd l (n : Int) = l[n] := by unfold rd; simp [List.getD_eq_getElem?_getD, h]

theorem great_l0 (l : List S40) : ∀ (d n : Nat), n + d = 61 → ∃ b, Ev (fun k => corebankref44_Great.l0 k l (n : Int)) b ∧ (b = false → l.length ≤ 60) := by
  intro d
  induction d with
  | zero =>
    intro n hn
    refine ⟨decide ((l.length : Int) > 60), ?_, by simp; omega⟩
    by_cases h : (n : Int) < (l.length : Int)
    · refine Ev.step (f := fun k => corebankref44_Great.j1 k l n false) (fun k => ?_) (Ev.step (fun k => ?_) (Ev.now _))
      · simp only [corebankref44_Great.l0]; rw [if_pos h, decide_eq_false (by omega)]
      · rfl
    · refine Ev.step (f := fun k => corebankref44_Great.j1 k l n false) (fun k => ?_) (Ev.step (fun k => ?_) (Ev.now _))
      · simp only [corebankref44_Great.l0]; rw [if_neg h]
      · rfl
  | succ d ih =>
    intro n hn
    by_cases h : (n : Int) < (l.length : Int)
    · by_cases g : ((rd_T40 l n).f0.size : Int) > 200
      · refine ⟨true, ?_, by simp⟩
        refine Ev.step (f := fun k => corebankref44_Great.j1 k l n true) (fun k => ?_) (Ev.step (fun k => ?_) (Ev.now _))
        · simp only [corebankref44_Great.l0]; rw [if_pos h, decide_eq_true (by omega)]
        · simp only [corebankref44_Great.j1]; rw [if_pos trivial, if_pos (by omega), if_pos h, if_pos g]
      · obtain ⟨b, h1, h2⟩ := ih (n + 1) (by omega)
        refine ⟨b, ?_, h2⟩
        refine Ev.step (f := fun k => corebankref44_Great.j1 k l n true) (fun k => ?_) (Ev.step (fun k => ?_) h1)
        · simp only [corebankref44_Great.l0]; rw [if_pos h, decide_eq_true (by omega)]
        · simp only [corebankref44_Great.j1]; rw [if_pos trivial, if_pos (by omega), if_pos h, if_neg g, wn (by omega)]
    · refine ⟨decide ((l.length : Int) > 60), ?_, by simp; omega⟩
      refine Ev.step (f := fun k => corebankref44_Great.j1 k l n false) (fun k => ?_) (Ev.step (fun k => ?_) (Ev.now _))
      · simp only [corebankref44_Great.l0]; rw [if_neg h]
      · rfl
theorem great_ev (l : List S40) : ∃ b, Ev (fun k => corebankref44_Great.f k l) b ∧ (b = false → l.length ≤ 60) := great_l0 l 61 0 rfl

theorem ints_self (l : List Int) (hl : l.length < 1000000) : Ev (fun k => corebankref05_Ints.f k l l) true := by
  have : ∀ (d n : Nat), n + d = l.length → Ev (fun k => corebankref05_Ints.l0 k l l (n : Int)) true := by
    intro d
    induction d with
    | zero =>
      intro n hn
      refine Ev.step (fun k => ?_) (Ev.now _)
      simp only [corebankref05_Ints.l0]; rw [if_neg (by omega)]
    | succ d ih =>
      intro n hn
      refine Ev.step (fun k => ?_) (ih (n + 1) (by omega))
      simp only [corebankref05_Ints.l0]; rw [if_pos (by omega), if_pos (by omega), if_pos (by omega), if_pos trivial, wn (by omega)]
  refine Ev.congr (fun k => ?_) (this l.length 0 (by omega))
  simp only [corebankref05_Ints.f]; rw [if_pos trivial]; rfl
theorem pairs_self (l : List S38) (hl : l.length < 1000000) : Ev (fun k => corebankref44_SamePairs.f k l l) true := by
  have : ∀ (d n : Nat), n + d = l.length → Ev (fun k => corebankref44_SamePairs.l0 k l l (n : Int)) true := by
    intro d
    induction d with
    | zero =>
      intro n hn
      refine Ev.step (fun k => ?_) (Ev.now _)
      simp only [corebankref44_SamePairs.l0]; rw [if_neg (by omega)]
    | succ d ih =>
      intro n hn
      refine Ev.step (fun k => ?_) (ih (n + 1) (by omega))
      simp only [corebankref44_SamePairs.l0]; rw [if_pos (by omega), if_pos (by omega), if_pos (by omega), if_neg (by simp), wn (by omega)]
  refine Ev.congr (fun k => ?_) (this l.length 0 (by omega))
  simp only [corebankref44_SamePairs.f]; rw [if_pos trivial]; rfl
end Go.Proofs.Ytdieblejeeojhaa.Pl
