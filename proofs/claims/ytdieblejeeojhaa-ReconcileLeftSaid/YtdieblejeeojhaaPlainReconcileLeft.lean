/- The plain law of ReconcileLeft: matched items have equal amounts, so the gap of what is left is the gap of all. -/
import Derived.Test.YtdieblejeeojhaaPAx13
import Derived.Test.YtdieblejeeojhaaPlainReconcileGaps
import Derived.Test.YtdieblejeeojhaaPlRest
namespace Go.Proofs.Ytdieblejeeojhaa.Pl
open Go Go.RowKit Go.Proofs.Ytdieblejeeojhaa.PA Go.Proofs.YtdieblejeeojhaaW.PrintWords
set_option linter.unusedVariables false
set_option linter.unusedSimpArgs false

def amt (l : List S40) (i : Int) : Int := (rd_T40 l i).f2
/-- The sum of the first n amounts. -/
def tot (l : List S40) : Nat → Int
  | 0 => 0
  | n + 1 => tot l n + amt l n
def good (x : S40) : Prop := -1000000000000 ≤ x.f2 ∧ x.f2 ≤ 1000000000000
theorem tot_le (l : List S40) (hg : ∀ x ∈ l, good x) : ∀ n : Nat, n ≤ l.length → -1000000000000 * (n : Int) ≤ tot l n ∧ tot l n ≤ 1000000000000 * (n : Int)
  | 0, _ => by simp [tot]
  | n + 1, h => by
    have ih := tot_le l hg n (by omega)
    have := hg _ (by rw [rd40_at (show n < l.length by omega)]; exact List.getElem_mem _ : rd_T40 l n ∈ l)
    unfold good at this
    unfold tot amt
    omega
theorem sumF_tot (l : List S40) (hl : l.length ≤ 100) (hg : ∀ x ∈ l, good x) : ∀ d n : Nat, n + d = l.length → sumF l d n (tot l n) = (tot l l.length, true)
  | 0, n, h => by obtain rfl : n = l.length := by omega
                  rfl
  | d + 1, n, h => by
    have hm := hg _ (by rw [rd40_at (show n < l.length by omega)]; exact List.getElem_mem _ : rd_T40 l n ∈ l)
    have h1 := tot_le l hg n (by omega)
    have hg' := hm
    unfold good at hg'
    unfold sumF
    rw [if_pos hg']
    have e : wrap64 (tot l n + (rd_T40 l n).f2) = tot l (n + 1) := by
      show _ = tot l n + (rd_T40 l n).f2
      unfold wrap64
      omega
    rw [e]
    exact sumF_tot l hl hg d (n + 1) (by omega)
theorem sumF_good (l : List S40) : ∀ (d n : Nat) (x : Int), n + d = l.length → (sumF l d n x).2 = true → ∀ y ∈ l.drop n, good y
  | 0, n, x, h, _ => by rw [List.drop_of_length_le (by omega)]; simp
  | d + 1, n, x, h, hs => by
    unfold sumF at hs
    split at hs
    · rename_i hg
      have := sumF_good l d (n + 1) _ (by omega) hs
      rw [drop40 (by omega)]
      intro y hy
      rcases List.mem_cons.1 hy with rfl | hy
      · exact hg
      · exact this y hy
    · cases hs
theorem tot_rest (l : List S40) : ∀ n : Nat, sm (fun i => (rd_T40 l i).f2) (restL [] n) = tot l n
  | 0 => rfl
  | n + 1 => by
    rw [restL_succ, if_neg (by simp), sm_app, tot_rest l n]
    simp only [sm, tot, amt]
    omega
theorem restL_mem (T : List Int) : ∀ (n : Nat) (i : Int), i ∈ restL T n → 0 ≤ i ∧ i < (n : Int) ∧ i ∉ T
  | 0, i, h => by simp [restL] at h
  | n + 1, i, h => by
    rw [restL_succ] at h
    split at h
    · have := restL_mem T n i h
      exact ⟨this.1, by omega, this.2.2⟩
    · rename_i hT
      rcases List.mem_append.1 h with h | h
      · have := restL_mem T n i h
        exact ⟨this.1, by omega, this.2.2⟩
      · simp at h
        subst h
        exact ⟨by omega, by omega, hT⟩
/-- The items at these places. -/
def pickL (l : List S40) (a : List Int) : List S40 := a.map (rd_T40 l)
theorem chosen_ev (l : List S40) (a : List Int) (ha : a.length ≤ 1000) (hr : ∀ i ∈ a, 0 ≤ i ∧ i < (l.length : Int)) : Ev (fun k => corebanklaw44_chosen.f k l a) (pickL l a) := by
  have : ∀ d n : Nat, n + d = a.length → Ev (fun k => corebanklaw44_chosen.l0 k l a (pickL l (a.take n)) (n : Int)) (pickL l a) := by
    intro d
    induction d with
    | zero =>
      intro n hn
      rw [List.take_of_length_le (by omega)]
      refine Ev.step (fun k => ?_) (Ev.now _)
      simp only [corebanklaw44_chosen.l0]; rw [if_neg (by omega)]
    | succ d ih =>
      intro n hn
      have hlt : n < a.length := by omega
      have hm := hr (rd a n) (by rw [rd_at hlt]; exact List.getElem_mem _)
      have e : pickL l (a.take (n + 1)) = pickL l (a.take n) ++ [rd_T40 l (rd a n)] := by
        unfold pickL
        rw [List.take_succ_eq_append_getElem hlt, List.map_append, rd_at hlt]
        rfl
      have := ih (n + 1) (by omega)
      rw [e] at this
      have hln : (pickL l (a.take n)).length ≤ 1000 := by unfold pickL; rw [List.length_map, List.length_take]; omega
      refine Ev.step (fun k => ?_) this
      simp only [corebanklaw44_chosen.l0]
      rw [if_pos (by omega), if_pos (by omega), if_pos hm.1, if_pos hm.2, if_pos hm.1, if_pos (by omega), wn (by omega)]
  exact this a.length 0 (by omega)
theorem tot_pick (l : List S40) (a : List Int) : ∀ n : Nat, n ≤ a.length → tot (pickL l a) n = sm (fun i => (rd_T40 l i).f2) (a.take n)
  | 0, _ => by simp [tot, sm]
  | n + 1, h => by
    rw [List.take_succ_eq_append_getElem (by omega), sm_app, ← tot_pick l a n (by omega)]
    show tot (pickL l a) n + (rd_T40 (pickL l a) n).f2 = _
    have : rd_T40 (pickL l a) (n : Int) = rd_T40 l a[n] := by
      rw [rd40_at (by unfold pickL; rw [List.length_map]; omega)]
      simp [pickL]
    rw [this]
    simp only [sm]
    omega
theorem gapF_good (l0 l1 : List S40) (h0 : l0.length ≤ 100) (h1 : l1.length ≤ 100) (g0 : ∀ x ∈ l0, good x) (g1 : ∀ x ∈ l1, good x) : gapF l0 l1 = if -1000000000000 ≤ tot l0 l0.length - tot l1 l1.length ∧ tot l0 l0.length - tot l1 l1.length ≤ 1000000000000 then (tot l0 l0.length - tot l1 l1.length, 0) else (0, 6) := by
  have s0 := sumF_tot l0 h0 g0 l0.length 0 (by omega)
  have s1 := sumF_tot l1 h1 g1 l1.length 0 (by omega)
  have t0 := tot_le l0 g0 l0.length (Nat.le_refl _)
  have t1 := tot_le l1 g1 l1.length (Nat.le_refl _)
  have s0' : sumF l0 l0.length 0 0 = (tot l0 l0.length, true) := s0
  have s1' : sumF l1 l1.length 0 0 = (tot l1 l1.length, true) := s1
  unfold gapF
  rw [s0', s1']
  have e : wrap64 (tot l0 l0.length - tot l1 l1.length) = tot l0 l0.length - tot l1 l1.length := by unfold wrap64; omega
  simp only [and_self, if_true, e]
theorem gapF_ok (l0 l1 : List S40) (h : (gapF l0 l1).2 = 0) : (∀ x ∈ l0, good x) ∧ ∀ x ∈ l1, good x := by
  unfold gapF at h
  dsimp only at h
  split at h
  · rename_i hs
    exact ⟨by have := sumF_good l0 l0.length 0 0 (by omega) hs.1; simpa using this, by have := sumF_good l1 l1.length 0 0 (by omega) hs.2; simpa using this⟩
  · simp at h
theorem gapF_bad (l0 l1 : List S40) (h : ¬ (gapF l0 l1).2 = 0) : (gapF l0 l1).1 = 0 := by
  unfold gapF at h ⊢
  dsimp only at h ⊢
  split
  · rename_i hs
    rw [if_pos hs] at h
    split
    · rename_i hw
      rw [if_pos hw] at h
      exact absurd rfl h
    · rfl
  · rfl
/-- What is left has the gap of all. -/
theorem gap_left (l0 l1 : List S40) (h0 : l0.length ≤ 100) (h1 : l1.length ≤ 100) (h : (gapF l0 l1).2 = 0) : gapF (pickL l0 (restL (runM l0 l1).M l0.length)) (pickL l1 (restL (runM l0 l1).S l1.length)) = gapF l0 l1 := by
  obtain ⟨g0, g1⟩ := gapF_ok l0 l1 h
  have hb : Bal l0 l1 (tot l0 l0.length - tot l1 l1.length) (runM l0 l1) := Bal.from 3 1 (by unfold Bal; rw [tot_rest, tot_rest])
  have m0 : ∀ x ∈ pickL l0 (restL (runM l0 l1).M l0.length), good x := by
    intro x hx
    obtain ⟨i, hi, rfl⟩ := List.mem_map.1 hx
    have := restL_mem _ _ _ hi
    obtain ⟨n, rfl⟩ : ∃ n : Nat, i = (n : Int) := ⟨i.toNat, by omega⟩
    exact g0 _ (by rw [rd40_at (by omega)]; exact List.getElem_mem _)
  have m1 : ∀ x ∈ pickL l1 (restL (runM l0 l1).S l1.length), good x := by
    intro x hx
    obtain ⟨i, hi, rfl⟩ := List.mem_map.1 hx
    have := restL_mem _ _ _ hi
    obtain ⟨n, rfl⟩ : ∃ n : Nat, i = (n : Int) := ⟨i.toNat, by omega⟩
    exact g1 _ (by rw [rd40_at (by omega)]; exact List.getElem_mem _)
  have e0 := restL_len (runM l0 l1).M l0.length
  have e1 := restL_len (runM l0 l1).S l1.length
  have p0 : (pickL l0 (restL (runM l0 l1).M l0.length)).length = (restL (runM l0 l1).M l0.length).length := by unfold pickL; rw [List.length_map]
  have p1 : (pickL l1 (restL (runM l0 l1).S l1.length)).length = (restL (runM l0 l1).S l1.length).length := by unfold pickL; rw [List.length_map]
  rw [gapF_good _ _ (by omega) (by omega) m0 m1, gapF_good l0 l1 h0 h1 g0 g1, p0, p1, tot_pick _ _ _ (Nat.le_refl _), tot_pick _ _ _ (Nat.le_refl _), List.take_of_length_le (Nat.le_refl _), List.take_of_length_le (Nat.le_refl _)]
  unfold Bal at hb
  rw [hb]
theorem left_ (l0 l1 : List S40) (q0 : ∀ x ∈ l0, okItem x) (q1 : ∀ x ∈ l1, okItem x) : ∃ k, corebanklaw44_ReconcileLeft.f k l0 l1 = some true := by
  obtain ⟨b0, g0, c0⟩ := great_ev l0
  obtain ⟨b1, g1, c1⟩ := great_ev l1
  refine Ev.rounds ?_
  have hlv : Ev (fun k => (corebanklaw44_live.f k).bind fun t240 => (some t240)) true := Ev.congr (fun k => by cases corebanklaw44_live.f k <;> rfl) live_ev
  have hl : Ev (fun k => corebanklaw44_ReconcileLeft.j0 k l0 l1 true) true := by
    refine Ev.step (fun k => ?_) hlv
    simp only [corebanklaw44_ReconcileLeft.j0, if_true]
  refine Ev.bind (f := fun k t => (if t = true then (corebanklaw44_ReconcileLeft.j0 k l0 l1 true) else ((corebankref44_Great.f k l1).bind fun t256 => (corebanklaw44_ReconcileLeft.j0 k l0 l1 t256)))) g0 ?_
  cases b0 with
  | true => simpa using hl
  | false =>
    simp only [Bool.false_eq_true, if_false]
    refine Ev.bind (f := fun k t => corebanklaw44_ReconcileLeft.j0 k l0 l1 t) g1 ?_
    cases b1 with
    | true => exact hl
    | false =>
      have e0 := c0 rfl
      have e1 := c1 rfl
      have hm := match_some l0 l1 (by omega) (by omega) q0 q1
      obtain ⟨K1, k1⟩ := rgap_ev l0 l1 (by omega) (by omega)
      obtain ⟨K2, k2⟩ := gap_ev l0 l1 (by omega) (by omega)
      obtain ⟨K5, k5⟩ := hlv
      have n2 := restL_len (runM l0 l1).M l0.length
      have n3 := restL_len (runM l0 l1).S l1.length
      obtain ⟨K3, k3⟩ := chosen_ev l0 (restL (runM l0 l1).M l0.length) (by omega) (fun i hi => ⟨(restL_mem _ _ _ hi).1, (restL_mem _ _ _ hi).2.1⟩)
      obtain ⟨K4, k4⟩ := chosen_ev l1 (restL (runM l0 l1).S l1.length) (by omega) (fun i hi => ⟨(restL_mem _ _ _ hi).1, (restL_mem _ _ _ hi).2.1⟩)
      have p0 : (pickL l0 (restL (runM l0 l1).M l0.length)).length = (restL (runM l0 l1).M l0.length).length := by unfold pickL; rw [List.length_map]
      have p1 : (pickL l1 (restL (runM l0 l1).S l1.length)).length = (restL (runM l0 l1).S l1.length).length := by unfold pickL; rw [List.length_map]
      obtain ⟨K6, k6⟩ := gap_ev (pickL l0 (restL (runM l0 l1).M l0.length)) (pickL l1 (restL (runM l0 l1).S l1.length)) (by omega) (by omega)
      dsimp only at k1 k2 k3 k4 k5 k6
      refine ⟨K1 + K2 + K3 + K4 + K5 + K6 + 1, fun k hk => ?_⟩
      obtain ⟨m, rfl⟩ : ∃ m, k = m + 1 := ⟨k - 1, by omega⟩
      simp only [corebanklaw44_ReconcileLeft.j0]
      rw [if_neg (by simp), k1 m (by omega), Option.bind_some, k2 m (by omega), Option.bind_some]
      by_cases h : (gapF l0 l1).2 = 0
      · rw [if_pos h, hm, Option.bind_some, k3 m (by omega), Option.bind_some, k4 m (by omega), Option.bind_some, k6 m (by omega), Option.bind_some, gap_left l0 l1 (by omega) (by omega) h, if_pos h, if_pos h, if_pos rfl]
        exact k5 m (by omega)
      · rw [if_neg h, if_pos (gapF_bad l0 l1 h), if_pos rfl]
        exact k5 m (by omega)
end Go.Proofs.Ytdieblejeeojhaa.Pl
