/- Plain: what all the laws need: short journals, the chapter's example, equal lists. -/
import Derived.Test.YtnilmhhidmdlnaaPAx8
namespace Go.Proofs.Ytnilmhhidmdlnaa.Pl
open Go Go.RowKit Go.Proofs.Ytnilmhhidmdlnaa.PA Go.Proofs.YtnilmhhidmdlnaaW.PrintWords
set_option linter.unusedVariables false
set_option linter.unusedSimpArgs false

theorem w1 {i : Int} (h0 : 0 ≤ i) (h1 : i < 4611686018427387904) : wrap64 (i + 1) = i + 1 := by unfold wrap64; omega
theorem wn {n : Nat} (h1 : n < 4611686018427387904) : wrap64 ((n : Int) + 1) = ((n + 1 : Nat) : Int) := by rw [w1 (by omega) (by omega)]; rfl
theorem rd36_at {l : List S36} {n : Nat} (h : n < l.length) : rd_T36 l (n : Int) = l[n] := by unfold rd_T36; simp [List.getD_eq_getElem?_getD, h]
theorem rd39_at {l : List S39} {n : Nat} (h : n < l.length) : rd_T39 l (n : Int) = l[n] := by unfold rd_T39; simp [List.getD_eq_getElem?_getD, h]
theorem rd_at {l : List Int} {n : Nat} (h : n < l.length) : rd l (n : Int) = l[n] := by unfold rd; simp [List.getD_eq_getElem?_getD, h]
theorem drop36 {l : List S36} {n : Nat} (h : n < l.length) : l.drop n = rd_T36 l (n : Int) :: l.drop (n + 1) := by rw [List.drop_eq_getElem_cons h, rd36_at h]
theorem drop39 {l : List S39} {n : Nat} (h : n < l.length) : l.drop n = rd_T39 l (n : Int) :: l.drop (n + 1) := by rw [List.drop_eq_getElem_cons h, rd39_at h]

/-- A journal that the laws let in. -/
def Few (l : List S36) : Prop := l.length ≤ 100 ∧ ∀ e ∈ l, e.f8.length ≤ 20
theorem few_ev (l : List S36) : ∃ b, Ev (fun k => corebanklaw21_few.f k l) b ∧ (b = true → Few l) := by
  by_cases h : (l.length : Int) > 100
  · refine ⟨false, Ev.congr (fun k => ?_) (Ev.now _), by simp⟩
    unfold corebanklaw21_few.f; rw [if_pos h]
  · have hl : ∀ (d n : Nat), n + d = l.length → ∃ b, Ev (fun k => corebanklaw21_few.l0 k l (n : Int)) b ∧ (b = true → ∀ e ∈ l.drop n, e.f8.length ≤ 20) := by
      intro d
      induction d with
      | zero =>
        intro n hn
        refine ⟨true, Ev.step (fun k => ?_) (Ev.now _), fun _ e he => ?_⟩
        · simp only [corebanklaw21_few.l0]; rw [if_neg (by omega)]
        · rw [List.drop_of_length_le (by omega)] at he; cases he
      | succ d ih =>
        intro n hn
        by_cases g : ((rd_T36 l n).f8.length : Int) > 20
        · refine ⟨false, Ev.step (fun k => ?_) (Ev.now _), by simp⟩
          simp only [corebanklaw21_few.l0]; rw [if_pos (by omega), if_pos (by omega), if_pos g]
        · obtain ⟨b, hb, hc⟩ := ih (n + 1) (by omega)
          refine ⟨b, Ev.step (fun k => ?_) hb, fun hf e he => ?_⟩
          · simp only [corebanklaw21_few.l0]; rw [if_pos (by omega), if_pos (by omega), if_neg g, wn (by omega)]
          · rw [drop36 (by omega)] at he
            rcases List.mem_cons.1 he with rfl | he
            · omega
            · exact hc hf e he
    obtain ⟨b, hb, hc⟩ := hl l.length 0 (by omega)
    refine ⟨b, Ev.congr (fun k => ?_) hb, fun hf => ⟨by omega, fun e he => hc hf e (by simpa using he)⟩⟩
    unfold corebanklaw21_few.f; rw [if_neg h]; rfl
theorem ints_self (l : List Int) (hl : l.length < 1000000) : Ev (fun k => corebankref21_SameInts.f k l l) true := by
  have : ∀ (d n : Nat), n + d = l.length → Ev (fun k => corebankref21_SameInts.l0 k l l (n : Int)) true := by
    intro d
    induction d with
    | zero =>
      intro n hn
      refine Ev.step (fun k => ?_) (Ev.now _)
      simp only [corebankref21_SameInts.l0]; rw [if_neg (by omega)]
    | succ d ih =>
      intro n hn
      refine Ev.step (fun k => ?_) (ih (n + 1) (by omega))
      simp only [corebankref21_SameInts.l0]; rw [if_pos (by omega), if_pos (by omega), if_pos (by omega), if_pos trivial, wn (by omega)]
  refine Ev.congr (fun k => ?_) (this l.length 0 (by omega))
  simp only [corebankref21_SameInts.f]; rw [if_pos trivial]; rfl
theorem legs_self (l : List S39) (hl : l.length < 1000000) : Ev (fun k => corebankref21_SameLegs.f k l l) true := by
  have : ∀ (d n : Nat), n + d = l.length → Ev (fun k => corebankref21_SameLegs.l0 k l l (n : Int)) true := by
    intro d
    induction d with
    | zero =>
      intro n hn
      refine Ev.step (fun k => ?_) (Ev.now _)
      simp only [corebankref21_SameLegs.l0]; rw [if_neg (by omega)]
    | succ d ih =>
      intro n hn
      refine Ev.step (fun k => ?_) (ih (n + 1) (by omega))
      simp only [corebankref21_SameLegs.l0]; rw [if_pos (by omega), if_pos (by omega), if_pos (by omega), if_neg (by simp), wn (by omega)]
  refine Ev.congr (fun k => ?_) (this l.length 0 (by omega))
  simp only [corebankref21_SameLegs.f]; rw [if_pos trivial]; rfl
theorem okJ_few {l : List S36} (h : Few l) : okJ l = true := by
  unfold okJ
  rw [Bool.and_eq_true, decide_eq_true_iff, List.all_eq_true]
  exact ⟨by have := h.1; omega, fun x hx => decide_eq_true (by have := h.2 x hx; omega)⟩
theorem legs_few {l : List S36} (h : ∀ e ∈ l, e.f8.length ≤ 20) : (legs l).length ≤ l.length * 20 := by
  induction l with
  | nil => simp [legs]
  | cons a r ih =>
    have h1 := ih (fun e he => h e (List.mem_cons_of_mem _ he))
    have h2 := h a (by simp)
    have h3 : legs (a :: r) = a.f8 ++ legs r := rfl
    rw [h3, List.length_append, List.length_cons]
    omega
/-- An entry as the reader lets it in. -/
def okE (e : S36) : Prop := ∀ x ∈ e.f8, (Lit.int .i64 x.f0).wf = true ∧ (Lit.int .i64 x.f1).wf = true ∧ x.f2.size ≤ maxLen
theorem okT_few {l : List S36} (h : Few l) (hq : ∀ e ∈ l, okE e) : okT l = true := by
  unfold okT
  simp only [Bool.and_eq_true, decide_eq_true_eq, List.all_eq_true]
  have h1 := legs_few h.2
  have h2 := h.1
  refine ⟨⟨fun x hx => ?_, by omega⟩, by omega⟩
  unfold legs at hx
  obtain ⟨e, he, hx⟩ := List.mem_flatMap.1 hx
  obtain ⟨a, b, c⟩ := hq e he x hx
  simp [okS, a, b, c]
theorem sortI_asc {l : List Int} (h : l.Pairwise (· ≤ ·)) : sortI l = l := by
  unfold sortI
  exact List.mergeSort_of_pairwise (h.imp (fun h => by simpa using h))
theorem live_t1 : balance_Turnover.f sampleL 1000 5 6 = some (20, 70) := by decide +kernel
theorem live_t2 : balance_Of.f sampleL 1000 = some 50 := by decide +kernel
theorem live_t3 : balance_At.f sampleL 1000 5 9 = some 70 := by decide +kernel
theorem live_t4 : balance_Daily.f sampleL 1000 2 7 = some [0, 70, 70, 70, 70, 50] := by decide +kernel
theorem live_t5 : balance_Moves.f sampleL 1000 = some [3, 7] := by
  have h1 : (moves sampleL 1000).map (fun p => p.1.f2) = [3, 7] := by decide +kernel
  have h2 : (okJ sampleL && decide ((moves sampleL 1000).length ≤ 4096)) = true := by decide +kernel
  unfold balance_Moves.f
  rw [if_pos h2, h1, sortI_asc (by simp)]
  decide +kernel
theorem live_t6 : balance_Trial.f sampleL = some (trialL sampleL) := if_pos (by decide +kernel)
theorem live_ev : Ev (fun k => corebanklaw21_lives.f k) true := Ev.of corebanklaw21_lives.mono (k := 40) (by
  have h1 : corebankref21_SameInts.f 40 [0, 70, 70, 70, 70, 50] [0, 70, 70, 70, 70, 50] = some true := by decide +kernel
  have h2 : corebankref21_SameInts.f 40 [3, 7] [3, 7] = some true := by decide +kernel
  have h3 : corebankref21_SameLegs.f 40 (trialL sampleL) [⟨101, 50, ⟨#[69, 85, 82]⟩⟩, ⟨1000, -50, ⟨#[69, 85, 82]⟩⟩] = some true := by decide +kernel
  unfold corebanklaw21_lives.f corebanklaw21_sample.f
  simp only [Option.bind_some, live_t1, live_t2, live_t3, live_t4, live_t5, live_t6, h1, h2, h3, if_true])
end Go.Proofs.Ytnilmhhidmdlnaa.Pl
