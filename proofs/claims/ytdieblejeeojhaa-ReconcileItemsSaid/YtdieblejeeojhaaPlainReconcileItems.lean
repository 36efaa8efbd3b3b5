/- The plain law of ReconcileItems: the items of an account, in the entries' order. -/
import Derived.Test.YtdieblejeeojhaaPAx17
import Derived.Test.YtdieblejeeojhaaPl
namespace Go.Proofs.Ytdieblejeeojhaa.Pl
open Go Go.RowKit Go.Proofs.Ytdieblejeeojhaa.PA Go.Proofs.YtdieblejeeojhaaW.PrintWords
set_option linter.unusedVariables false
set_option linter.unusedSimpArgs false

theorem rd71_at {l : List S71} {n : Nat} (h : n < l.length) : rd_T71 l (n : Int) = l[n] := by unfold rd_T71; simp [List.getD_eq_getElem?_getD, h]
theorem rd73_at {l : List S73} {n : Nat} (h : n < l.length) : rd_T73 l (n : Int) = l[n] := by unfold rd_T73; simp [List.getD_eq_getElem?_getD, h]
theorem drop71 {l : List S71} {n : Nat} (h : n < l.length) : l.drop n = rd_T71 l (n : Int) :: l.drop (n + 1) := by rw [List.drop_eq_getElem_cons h, rd71_at h]
theorem drop73 {l : List S73} {n : Nat} (h : n < l.length) : l.drop n = rd_T73 l (n : Int) :: l.drop (n + 1) := by rw [List.drop_eq_getElem_cons h, rd73_at h]

theorem great19_ev (e : S71) : ∃ b, Ev (fun k => corebankref19_Great.f k e.f0 e.f1 e.f2 e.f3 e.f4 e.f5 e.f6 e.f7 e.f8 e.f9) b ∧ (b = false → e.f8.length ≤ 30) := by
  by_cases h : (e.f8.length : Int) > 30
  · refine ⟨true, Ev.congr (fun k => ?_) (Ev.step (fun k => ?_) (Ev.now true) : Ev (fun k => corebankref19_Great.j0 k true e.f0 e.f1 e.f2 e.f3 e.f4 e.f5 e.f6 e.f7 e.f8 e.f9) true), by simp⟩
    · unfold corebankref19_Great.f; rw [if_pos h]
    · simp only [corebankref19_Great.j0]; rw [if_pos trivial]
  · have hl : ∀ (d n : Nat), n + d = e.f8.length → ∃ b, Ev (fun k => corebankref19_Great.l0 k (n : Int) e.f0 e.f1 e.f2 e.f3 e.f4 e.f5 e.f6 e.f7 e.f8 e.f9) b := by
      intro d
      induction d with
      | zero =>
        intro n hn
        refine ⟨false, Ev.step (fun k => ?_) (Ev.now _)⟩
        simp only [corebankref19_Great.l0]; rw [if_neg (by omega)]
      | succ d ih =>
        intro n hn
        by_cases g : ((rd_T73 e.f8 n).f2.size : Int) > 100
        · refine ⟨true, Ev.step (fun k => ?_) (Ev.now _)⟩
          simp only [corebankref19_Great.l0]; rw [if_pos (by omega), if_pos (by omega), if_pos g]
        · obtain ⟨b, hb⟩ := ih (n + 1) (by omega)
          refine ⟨b, Ev.step (fun k => ?_) hb⟩
          simp only [corebankref19_Great.l0]; rw [if_pos (by omega), if_pos (by omega), if_neg g, wn (by omega)]
    have hj : ∀ c : Bool, ∃ b, Ev (fun k => corebankref19_Great.j0 k c e.f0 e.f1 e.f2 e.f3 e.f4 e.f5 e.f6 e.f7 e.f8 e.f9) b := by
      intro c
      cases c with
      | true =>
        refine ⟨true, Ev.step (fun k => ?_) (Ev.now _)⟩
        simp only [corebankref19_Great.j0]; rw [if_pos trivial]
      | false =>
        obtain ⟨b, hb⟩ := hl e.f8.length 0 (by omega)
        refine ⟨b, Ev.step (fun k => ?_) hb⟩
        simp only [corebankref19_Great.j0]; rw [if_neg (by simp)]; rfl
    have h' : e.f8.length ≤ 30 := by omega
    by_cases g : (e.f6.size : Int) > 1000
    · obtain ⟨b, hb⟩ := hj true
      refine ⟨b, Ev.congr (fun k => ?_) hb, fun _ => h'⟩
      unfold corebankref19_Great.f; rw [if_neg h, if_pos g]
    · obtain ⟨b, hb⟩ := hj (decide ((e.f7.size : Int) > 1000))
      refine ⟨b, Ev.congr (fun k => ?_) hb, fun _ => h'⟩
      unfold corebankref19_Great.f; rw [if_neg h, if_neg g]
theorem great20_l0 (l : List S71) : ∀ (d n : Nat), n + d = 41 → ∃ b, Ev (fun k => corebankref20_Great.l0 k l 40 (n : Int)) b ∧ (b = false → l.length ≤ 40 ∧ ∀ e ∈ l.drop n, e.f8.length ≤ 30) := by
  intro d
  induction d with
  | zero =>
    intro n hn
    refine ⟨decide ((l.length : Int) > 40), ?_, ?_⟩
    · refine Ev.step (f := fun k => corebankref20_Great.j1 k l 40 n false) (fun k => ?_) (Ev.step (fun k => ?_) (Ev.now _))
      · simp only [corebankref20_Great.l0]
        by_cases h : (n : Int) < (l.length : Int)
        · rw [if_pos h, decide_eq_false (by omega)]
        · rw [if_neg h]
      · simp only [corebankref20_Great.j1]; rw [if_neg (by simp)]
    · intro h
      simp at h
      refine ⟨by omega, fun e he => ?_⟩
      rw [List.drop_of_length_le (by omega)] at he
      cases he
  | succ d ih =>
    intro n hn
    by_cases h : (n : Int) < (l.length : Int)
    · obtain ⟨b19, h19, c19⟩ := great19_ev (rd_T71 l n)
      obtain ⟨b, hb, cb⟩ := ih (n + 1) (by omega)
      obtain ⟨K1, k1⟩ := h19
      obtain ⟨K2, k2⟩ := hb
      dsimp only at k1 k2
      cases b19 with
      | true =>
        refine ⟨true, ⟨K1 + K2 + 2, fun k hk => ?_⟩, by simp⟩
        obtain ⟨m, rfl⟩ : ∃ m, k = m + 1 + 1 := ⟨k - 2, by omega⟩
        simp only [corebankref20_Great.l0]
        rw [if_pos h, decide_eq_true (by omega)]
        simp only [corebankref20_Great.j1]
        rw [if_pos trivial, if_pos (by omega), if_pos h, k1 m (by omega), Option.bind_some, if_pos rfl]
      | false =>
        refine ⟨b, ⟨K1 + K2 + 2, fun k hk => ?_⟩, fun hf => ?_⟩
        · obtain ⟨m, rfl⟩ : ∃ m, k = m + 1 + 1 := ⟨k - 2, by omega⟩
          simp only [corebankref20_Great.l0]
          rw [if_pos h, decide_eq_true (by omega)]
          simp only [corebankref20_Great.j1]
          rw [if_pos trivial, if_pos (by omega), if_pos h, k1 m (by omega), Option.bind_some, if_neg (by simp), wn (by omega)]
          exact k2 m (by omega)
        · refine ⟨(cb hf).1, fun e he => ?_⟩
          rw [drop71 (by omega)] at he
          rcases List.mem_cons.1 he with rfl | he
          · exact c19 rfl
          · exact (cb hf).2 e he
    · refine ⟨decide ((l.length : Int) > 40), ?_, ?_⟩
      · refine Ev.step (f := fun k => corebankref20_Great.j1 k l 40 n false) (fun k => ?_) (Ev.step (fun k => ?_) (Ev.now _))
        · simp only [corebankref20_Great.l0]; rw [if_neg h]
        · simp only [corebankref20_Great.j1]; rw [if_neg (by simp)]
      · intro hf
        refine ⟨by omega, fun e he => ?_⟩
        rw [List.drop_of_length_le (by omega)] at he
        cases he
theorem great20_ev (l : List S71) : ∃ b, Ev (fun k => corebankref20_Great.f k l 40) b ∧ (b = false → l.length ≤ 40 ∧ ∀ e ∈ l, e.f8.length ≤ 30) := great20_l0 l 41 0 rfl

/-- The items of an entry's legs. -/
def legsL (e : S71) (a : Int) : List S73 → List S40
  | [] => []
  | x :: r => (if x.f0 = a then [⟨e.f6, e.f2, wrap64 (-x.f1)⟩] else []) ++ legsL e a r
def itemsL (a b c : Int) : List S71 → List S40
  | [] => []
  | e :: r => (if e.f1 < b ∨ e.f1 > c then [] else legsL e a e.f8) ++ itemsL a b c r
theorem legsL_len (e : S71) (a : Int) : ∀ l, (legsL e a l).length ≤ l.length
  | [] => by simp [legsL]
  | x :: r => by
    have := legsL_len e a r
    unfold legsL
    split <;> simp <;> omega
theorem items_ev (l : List S71) (a b c : Int) (hl : l.length ≤ 40) (h8 : ∀ e ∈ l, e.f8.length ≤ 30) {r : List S40} : ∀ (d n : Nat) (acc : List S40), n + d = l.length → acc.length ≤ n * 30 →
    Ev (fun k => reconcile_Items.l0 k a b c acc l (l.length : Int) (n : Int)) (acc ++ itemsL a b c (l.drop n)) := by
  intro d
  induction d with
  | zero =>
    intro n acc hn ha
    rw [List.drop_of_length_le (by omega)]
    refine Ev.step (fun k => ?_) (Ev.now _)
    simp only [reconcile_Items.l0]; rw [if_neg (by omega)]; simp [itemsL]
  | succ d ih =>
    intro n acc hn ha
    have hlt : n < l.length := by omega
    have hmem : rd_T71 l n ∈ l := by rw [rd71_at hlt]; exact List.getElem_mem hlt
    have h30 := h8 _ hmem
    rw [drop71 hlt]
    unfold itemsL
    by_cases g : (rd_T71 l n).f1 < b ∨ (rd_T71 l n).f1 > c
    · rw [if_pos g, List.nil_append]
      refine Ev.step (f := fun k => reconcile_Items.j1 k a b c acc l (l.length : Int) n true ((rd_T71 l n).f0) ((rd_T71 l n).f1) ((rd_T71 l n).f2) ((rd_T71 l n).f3) ((rd_T71 l n).f4) ((rd_T71 l n).f5) ((rd_T71 l n).f6) ((rd_T71 l n).f7) ((rd_T71 l n).f8) ((rd_T71 l n).f9)) (fun k => ?_) (Ev.step (fun k => ?_) (ih (n + 1) acc (by omega) (by omega)))
      · simp only [reconcile_Items.l0]
        rw [if_pos (by omega), if_pos (by omega), if_pos (by omega)]
        by_cases g1 : (rd_T71 l n).f1 < b
        · rw [if_pos g1]
        · rw [if_neg g1, decide_eq_true (g.resolve_left g1)]
      · simp only [reconcile_Items.j1]; rw [if_pos trivial, wn (by omega)]
    · rw [if_neg g]
      have hin : ∀ (d' j : Nat) (acc' : List S40), j + d' = (rd_T71 l n).f8.length → acc'.length ≤ n * 30 + j → Ev (fun k => reconcile_Items.l1 k a b c acc' l (l.length : Int) n (rd_T71 l n).f8 ((rd_T71 l n).f8.length : Int) (j : Int) ((rd_T71 l n).f0) ((rd_T71 l n).f1) ((rd_T71 l n).f2) ((rd_T71 l n).f3) ((rd_T71 l n).f4) ((rd_T71 l n).f5) ((rd_T71 l n).f6) ((rd_T71 l n).f7) ((rd_T71 l n).f8) ((rd_T71 l n).f9)) (acc' ++ legsL (rd_T71 l n) a ((rd_T71 l n).f8.drop j) ++ itemsL a b c (l.drop (n + 1))) := by
        intro d'
        induction d' with
        | zero =>
          intro j acc' hj ha'
          rw [List.drop_of_length_le (by omega)]
          have := ih (n + 1) acc' (by omega) (by omega)
          refine Ev.step (fun k => ?_) (by simpa [legsL] using this)
          simp only [reconcile_Items.l1]; rw [if_neg (by omega), wn (by omega)]; rfl
        | succ d' ih' =>
          intro j acc' hj ha'
          have hjl : j < (rd_T71 l n).f8.length := by omega
          rw [drop73 hjl]
          unfold legsL
          by_cases gx : (rd_T73 (rd_T71 l n).f8 j).f0 = a
          · rw [if_pos gx]
            have := ih' (j + 1) (acc' ++ [⟨(rd_T71 l n).f6, (rd_T71 l n).f2, wrap64 (-(rd_T73 (rd_T71 l n).f8 j).f1)⟩]) (by omega) (by simp; omega)
            refine Ev.step (fun k => ?_) (by simpa using this)
            simp only [reconcile_Items.l1]; rw [if_pos (by omega), if_pos (by omega), if_pos (by omega), if_pos gx, if_pos (by omega), wn (by omega)]; rfl
          · rw [if_neg gx]
            have := ih' (j + 1) acc' (by omega) (by omega)
            refine Ev.step (fun k => ?_) (by simpa using this)
            simp only [reconcile_Items.l1]; rw [if_pos (by omega), if_pos (by omega), if_pos (by omega), if_neg gx, wn (by omega)]; rfl
      have := hin (rd_T71 l n).f8.length 0 acc (by omega) (by omega)
      rw [List.drop_zero, List.append_assoc] at this
      refine Ev.step (f := fun k => reconcile_Items.j1 k a b c acc l (l.length : Int) n false ((rd_T71 l n).f0) ((rd_T71 l n).f1) ((rd_T71 l n).f2) ((rd_T71 l n).f3) ((rd_T71 l n).f4) ((rd_T71 l n).f5) ((rd_T71 l n).f6) ((rd_T71 l n).f7) ((rd_T71 l n).f8) ((rd_T71 l n).f9)) (fun k => ?_) (Ev.step (fun k => ?_) this)
      · simp only [reconcile_Items.l0]
        rw [if_pos (by omega), if_pos (by omega), if_pos (by omega), if_neg (by omega), decide_eq_false (by omega)]
      · simp only [reconcile_Items.j1]; rw [if_neg (by simp)]; rfl
theorem ritems_ev (l : List S71) (a b c : Int) (hl : l.length ≤ 40) (h8 : ∀ e ∈ l, e.f8.length ≤ 30) {r : List S40} : ∀ (d n : Nat) (acc : List S40), n + d = l.length → acc.length ≤ n * 30 →
    Ev (fun k => corebankref44_Items.l0 k l a b c acc (n : Int)) (acc ++ itemsL a b c (l.drop n)) := by
  intro d
  induction d with
  | zero =>
    intro n acc hn ha
    rw [List.drop_of_length_le (by omega)]
    refine Ev.step (fun k => ?_) (Ev.now _)
    simp only [corebankref44_Items.l0]; rw [if_neg (by omega)]; simp [itemsL]
  | succ d ih =>
    intro n acc hn ha
    have hlt : n < l.length := by omega
    have hmem : rd_T71 l n ∈ l := by rw [rd71_at hlt]; exact List.getElem_mem hlt
    have h30 := h8 _ hmem
    rw [drop71 hlt]
    unfold itemsL
    have hend : ∀ (j : Nat) (acc' : List S40), acc'.length ≤ (n + 1) * 30 → (¬ j < (rd_T71 l n).f8.length ∨ (rd_T71 l n).f1 < b ∨ (rd_T71 l n).f1 > c) → Ev (fun k => corebankref44_Items.l1 k l a b c acc' n (j : Int)) (acc' ++ itemsL a b c (l.drop (n + 1))) := by
      intro j acc' ha' hj
      refine Ev.step (f := fun k => corebankref44_Items.j2 k l a b c acc' n j false) (fun k => ?_) (Ev.step (fun k => ?_) (ih (n + 1) acc' (by omega) ha'))
      · simp only [corebankref44_Items.l1]
        rw [if_pos (by omega), if_pos (by omega)]
        by_cases g1 : (j : Int) < ((rd_T71 l n).f8.length : Int)
        · rw [if_pos g1]
          by_cases g2 : (rd_T71 l n).f1 ≥ b
          · rw [if_pos g2, decide_eq_false (by omega)]
          · rw [if_neg g2]
        · rw [if_neg g1]
      · simp only [corebankref44_Items.j2]; rw [if_neg (by simp), wn (by omega)]
    by_cases g : (rd_T71 l n).f1 < b ∨ (rd_T71 l n).f1 > c
    · rw [if_pos g, List.nil_append]
      refine Ev.step (fun k => ?_) (hend 0 acc (by omega) (.inr g))
      simp only [corebankref44_Items.l0]; rw [if_pos (by omega)]; rfl
    · rw [if_neg g]
      have hin : ∀ (d' j : Nat) (acc' : List S40), j + d' = (rd_T71 l n).f8.length → acc'.length ≤ n * 30 + j → Ev (fun k => corebankref44_Items.l1 k l a b c acc' n (j : Int)) (acc' ++ legsL (rd_T71 l n) a ((rd_T71 l n).f8.drop j) ++ itemsL a b c (l.drop (n + 1))) := by
        intro d'
        induction d' with
        | zero =>
          intro j acc' hj ha'
          rw [List.drop_of_length_le (by omega)]
          have := hend j acc' (by omega) (.inl (by omega))
          simpa [legsL] using this
        | succ d' ih' =>
          intro j acc' hj ha'
          have hjl : j < (rd_T71 l n).f8.length := by omega
          rw [drop73 hjl]
          unfold legsL
          have h1 : ∀ k, corebankref44_Items.l1 (k + 1) l a b c acc' n (j : Int) = corebankref44_Items.j2 k l a b c acc' n j true := by
            intro k
            simp only [corebankref44_Items.l1]
            rw [if_pos (by omega), if_pos (by omega), if_pos (by omega), if_pos (by omega), decide_eq_true (by omega)]
          by_cases gx : (rd_T73 (rd_T71 l n).f8 j).f0 = a
          · rw [if_pos gx]
            have := ih' (j + 1) (acc' ++ [⟨(rd_T71 l n).f6, (rd_T71 l n).f2, wrap64 (-(rd_T73 (rd_T71 l n).f8 j).f1)⟩]) (by omega) (by simp; omega)
            refine Ev.step h1 (Ev.step (fun k => ?_) (by simpa using this))
            simp only [corebankref44_Items.j2]; rw [if_pos trivial, if_pos (by omega), if_pos (by omega), if_pos (by omega), if_pos (by omega), if_pos gx, if_pos (by omega), wn (by omega)]; rfl
          · rw [if_neg gx]
            have := ih' (j + 1) acc' (by omega) (by omega)
            refine Ev.step h1 (Ev.step (fun k => ?_) (by simpa using this))
            simp only [corebankref44_Items.j2]; rw [if_pos trivial, if_pos (by omega), if_pos (by omega), if_pos (by omega), if_pos (by omega), if_neg gx, wn (by omega)]; rfl
      have := hin (rd_T71 l n).f8.length 0 acc (by omega) (by omega)
      rw [List.drop_zero, List.append_assoc] at this
      refine Ev.step (fun k => ?_) this
      simp only [corebankref44_Items.l0]; rw [if_pos (by omega)]; rfl
theorem itemsL_len (a b c : Int) : ∀ (l : List S71), (∀ e ∈ l, e.f8.length ≤ 30) → (itemsL a b c l).length ≤ l.length * 30
  | [], _ => by simp [itemsL]
  | e :: r, h => by
    have h1 := itemsL_len a b c r (fun x hx => h x (List.mem_cons_of_mem _ hx))
    have h2 := h e List.mem_cons_self
    have h3 := legsL_len e a e.f8
    unfold itemsL
    split <;> simp <;> omega
theorem sameItems_self (l : List S40) (hl : l.length < 1000000) : Ev (fun k => corebankref44_SameItems.f k l l) true := by
  have : ∀ (d n : Nat), n + d = l.length → Ev (fun k => corebankref44_SameItems.l0 k l l (n : Int)) true := by
    intro d
    induction d with
    | zero =>
      intro n hn
      refine Ev.step (fun k => ?_) (Ev.now _)
      simp only [corebankref44_SameItems.l0]; rw [if_neg (by omega)]
    | succ d ih =>
      intro n hn
      refine Ev.step (fun k => ?_) (ih (n + 1) (by omega))
      simp only [corebankref44_SameItems.l0]; rw [if_pos (by omega), if_pos (by omega), if_pos (by omega), if_neg (by simp), wn (by omega)]
  refine Ev.congr (fun k => ?_) (this l.length 0 (by omega))
  simp only [corebankref44_SameItems.f]; rw [if_pos trivial]; rfl
theorem items_ (l : List S71) (a b c : Int) : ∃ k, corebanklaw44_ReconcileItems.f k l a b c = some true := by
  obtain ⟨b0, g0, c0⟩ := great20_ev l
  refine Ev.rounds ?_
  have hl : Ev (fun k => (corebanklaw44_live.f k).bind fun t240 => (some t240)) true := Ev.congr (fun k => by cases corebanklaw44_live.f k <;> rfl) live_ev
  obtain ⟨K5, k5⟩ := hl
  obtain ⟨K0, k0⟩ := g0
  dsimp only at k0 k5
  cases b0 with
  | true =>
    refine ⟨K0 + K5, fun k hk => ?_⟩
    simp only [corebanklaw44_ReconcileItems.f]
    rw [k0 k (by omega), Option.bind_some, if_pos rfl]
    exact k5 k (by omega)
  | false =>
    obtain ⟨e1, e2⟩ := c0 rfl
    obtain ⟨K1, k1⟩ := items_ev l a b c e1 e2 (r := []) l.length 0 [] (by omega) (by simp)
    obtain ⟨K2, k2⟩ := ritems_ev l a b c e1 e2 (r := []) l.length 0 [] (by omega) (by simp)
    obtain ⟨K3, k3⟩ := sameItems_self (itemsL a b c l) (by have := itemsL_len a b c l e2; omega)
    simp only [List.drop_zero, List.nil_append] at k1 k2
    dsimp only at k3
    refine ⟨K0 + K1 + K2 + K3 + K5, fun k hk => ?_⟩
    simp only [corebanklaw44_ReconcileItems.f]
    rw [k0 k (by omega), Option.bind_some, if_neg (by simp)]
    unfold reconcile_Items.f corebankref44_Items.f
    have h1 : reconcile_Items.l0 k a b c [] l (l.length : Int) 0 = some (itemsL a b c l) := k1 k (by omega)
    have h2 : corebankref44_Items.l0 k l a b c [] 0 = some (itemsL a b c l) := k2 k (by omega)
    rw [h1, Option.bind_some, h2, Option.bind_some, k3 k (by omega), Option.bind_some, if_pos rfl]
    exact k5 k (by omega)
end Go.Proofs.Ytdieblejeeojhaa.Pl
