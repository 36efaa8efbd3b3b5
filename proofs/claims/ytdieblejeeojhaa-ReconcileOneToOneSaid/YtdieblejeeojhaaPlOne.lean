/- Plain: the properties of a match: one to one, complete, of equal amounts. -/
import Derived.Test.YtdieblejeeojhaaPAx12
import Derived.Test.YtdieblejeeojhaaPlRest
namespace Go.Proofs.Ytdieblejeeojhaa.Pl
open Go Go.RowKit Go.Proofs.Ytdieblejeeojhaa.PA Go.Proofs.YtdieblejeeojhaaW.PrintWords
set_option linter.unusedVariables false
set_option linter.unusedSimpArgs false

/-- What holds of every state. -/
structure Full (l0 l1 : List S40) (s : St) : Prop where
  mn : s.M.Nodup
  mr : ∀ i ∈ s.M, 0 ≤ i ∧ i < (l0.length : Int)
  tn : s.S.Nodup
  tr : ∀ i ∈ s.S, 0 ≤ i ∧ i < (l1.length : Int)
  ml : s.M.length = s.out.length
  tl : s.S.length = s.out.length
  o0 : s.out.map (·.f0) = s.M.reverse
  o1 : s.out.map (·.f1) = s.S.reverse
  fit : ∀ p ∈ s.out, fitB (rd_T40 l0 p.f0) (rd_T40 l1 p.f1) p.f2 = true ∧ 1 ≤ p.f2 ∧ p.f2 ≤ 3
theorem Full.step {l0 l1 : List S40} {s : St} (h : Full l0 l1 s) (p i : Int) (h0 : 0 ≤ i) (hi : i < (l0.length : Int)) (hp : 1 ≤ p) (hp' : p ≤ 3) : Full l0 l1 (stepM l1 p i (rd_T40 l0 i) s) := by
  unfold stepM
  split
  · exact h
  · rename_i hM
    split
    · exact h
    · rename_i k hk
      rw [mat_ffi] at hk
      obtain ⟨m, h1, h2, h3, h4⟩ := ffi_some hk
      subst h2
      refine ⟨List.nodup_cons.2 ⟨hM, h.mn⟩, fun j hj => ?_, List.nodup_cons.2 ⟨h3, h.tn⟩, fun j hj => ?_, by simp [h.ml], by simp [h.tl], by simp [h.o0], by simp [h.o1], fun q hq => ?_⟩
      · rcases List.mem_cons.1 hj with rfl | hj
        · exact ⟨h0, hi⟩
        · exact h.mr j hj
      · rcases List.mem_cons.1 hj with rfl | hj
        · omega
        · exact h.tr j hj
      · rcases List.mem_append.1 hq with hq | hq
        · exact h.fit q hq
        · simp at hq
          subst hq
          exact ⟨h4, hp, hp'⟩
theorem Full.pass {l0 l1 : List S40} (p : Int) (hp : 1 ≤ p) (hp' : p ≤ 3) : ∀ (d n : Nat) {s : St}, n + d = l0.length → Full l0 l1 s → Full l0 l1 (passL l1 p (l0.drop n) n s)
  | 0, n, s, hn, h => by rw [List.drop_of_length_le (by omega)]; exact h
  | d + 1, n, s, hn, h => by
    rw [drop40 (by omega)]
    exact Full.pass p hp hp' d (n + 1) (by omega) (h.step p n (by omega) (by omega) hp hp')
theorem Full.from {l0 l1 : List S40} : ∀ (m : Nat) (p : Int) {s : St}, p + m = 4 → 1 ≤ p → Full l0 l1 s → Full l0 l1 (fromP l0 l1 m p s)
  | 0, _, _, _, _, h => h
  | m + 1, p, s, e, hp, h => Full.from m (p + 1) (by omega) (by omega) (by have := Full.pass p hp (by omega) l0.length 0 (by omega) h; simpa using this)
theorem Full.run (l0 l1 : List S40) : Full l0 l1 (runM l0 l1) := Full.from 3 1 (by omega) (by omega) ⟨by simp, by simp, by simp, by simp, rfl, rfl, rfl, rfl, by simp⟩
/-- The sets grow. -/
theorem grows_step (l1 : List S40) (p i : Int) (x : S40) (s : St) : (∀ j ∈ s.M, j ∈ (stepM l1 p i x s).M) ∧ ∀ j ∈ s.S, j ∈ (stepM l1 p i x s).S := by
  unfold stepM
  split
  · exact ⟨fun _ h => h, fun _ h => h⟩
  · split
    · exact ⟨fun _ h => h, fun _ h => h⟩
    · exact ⟨fun _ h => List.mem_cons_of_mem _ h, fun _ h => List.mem_cons_of_mem _ h⟩
theorem grows_pass (l1 : List S40) (p : Int) : ∀ (l : List S40) (i : Int) (s : St), (∀ j ∈ s.M, j ∈ (passL l1 p l i s).M) ∧ ∀ j ∈ s.S, j ∈ (passL l1 p l i s).S
  | [], _, _ => ⟨fun _ h => h, fun _ h => h⟩
  | x :: r, i, s => by
    have h1 := grows_step l1 p i x s
    have h2 := grows_pass l1 p r (i + 1) (stepM l1 p i x s)
    exact ⟨fun j h => h2.1 j (h1.1 j h), fun j h => h2.2 j (h1.2 j h)⟩
theorem grows_from (l0 l1 : List S40) : ∀ (m : Nat) (p : Int) (s : St), (∀ j ∈ s.M, j ∈ (fromP l0 l1 m p s).M) ∧ ∀ j ∈ s.S, j ∈ (fromP l0 l1 m p s).S
  | 0, _, _ => ⟨fun _ h => h, fun _ h => h⟩
  | m + 1, p, s => by
    have h1 := grows_pass l1 p l0 0 s
    have h2 := grows_from l0 l1 m (p + 1) (passL l1 p l0 0 s)
    exact ⟨fun j h => h2.1 j (h1.1 j h), fun j h => h2.2 j (h1.2 j h)⟩
/-- Behind a pass no two that are left fit in it. -/
theorem pass_none {l0 l1 : List S40} (p : Int) : ∀ (d n : Nat) (s : St), n + d = l0.length → ∀ i : Nat, n ≤ i → i < l0.length → (i : Int) ∉ (passL l1 p (l0.drop n) n s).M → ∀ k : Nat, k < l1.length → (k : Int) ∉ (passL l1 p (l0.drop n) n s).S → fitB (rd_T40 l0 i) (rd_T40 l1 k) p = false
  | 0, n, s, hn, i, hi, hi', _, _, _, _ => by omega
  | d + 1, n, s, hn, i, hi, hi', hM, k, hk, hS => by
    rw [drop40 (by omega)] at hM hS
    by_cases e : i = n
    · subst e
      have hg := grows_pass l1 p (l0.drop (i + 1)) ((i : Int) + 1) (stepM l1 p i (rd_T40 l0 i) s)
      have hM1 : (i : Int) ∉ (stepM l1 p i (rd_T40 l0 i) s).M := fun h => hM (hg.1 _ h)
      have hS1 : (k : Int) ∉ (stepM l1 p i (rd_T40 l0 i) s).S := fun h => hS (hg.2 _ h)
      unfold stepM at hM1 hS1
      by_cases hm : (i : Int) ∈ s.M
      · rw [if_pos hm] at hM1
        exact absurd hm hM1
      · rw [if_neg hm, mat_ffi] at hM1 hS1
        cases hf : ffi (fun y => fitB (rd_T40 l0 i) y p) s.S l1 l1.length with
        | some j =>
          rw [hf] at hM1
          exact absurd List.mem_cons_self hM1
        | none =>
          rw [hf] at hS1
          exact ffi_none hf k hk hS1
    · exact pass_none p d (n + 1) (stepM l1 p n (rd_T40 l0 n) s) (by omega) i (by omega) hi' hM k hk hS
theorem run_none (l0 l1 : List S40) (i k : Nat) (hi : i < l0.length) (hk : k < l1.length) (hM : (i : Int) ∉ (runM l0 l1).M) (hS : (k : Int) ∉ (runM l0 l1).S) : fitB (rd_T40 l0 i) (rd_T40 l1 k) 1 = false ∧ fitB (rd_T40 l0 i) (rd_T40 l1 k) 3 = false := by
  constructor
  · have hg := grows_from l0 l1 2 2 (passL l1 1 l0 0 ⟨[], [], []⟩)
    have := pass_none (l0 := l0) (l1 := l1) 1 l0.length 0 ⟨[], [], []⟩ (by omega) i (Nat.zero_le _) hi
    rw [List.drop_zero] at this
    exact this (fun h => hM (hg.1 _ h)) k hk (fun h => hS (hg.2 _ h))
  · have := pass_none (l0 := l0) (l1 := l1) 3 l0.length 0 (passL l1 2 l0 0 (passL l1 1 l0 0 ⟨[], [], []⟩)) (by omega) i (Nat.zero_le _) hi
    rw [List.drop_zero] at this
    exact this hM k hk hS
theorem rest_len1 (T : List Int) (i : Int) (h0 : 0 ≤ i) (hi : i ∉ T) : ∀ n : Nat, i < (n : Int) → (restL (i :: T) n).length + 1 = (restL T n).length
  | 0, h => by omega
  | n + 1, h => by
    rw [restL_succ, restL_succ]
    by_cases e : (n : Int) = i
    · rw [if_pos (by rw [e]; exact List.mem_cons_self), if_neg (by rw [e]; exact hi), rest_far T i n (by omega)]
      simp
    · have ih := rest_len1 T i h0 hi n (by omega)
      by_cases g : (n : Int) ∈ T
      · rw [if_pos (List.mem_cons_of_mem _ g), if_pos g]; exact ih
      · have : (n : Int) ∉ i :: T := by simp only [List.mem_cons, not_or]; exact ⟨e, g⟩
        rw [if_neg this, if_neg g, List.length_append, List.length_append]
        simp only [List.length_singleton]
        omega
theorem rest_nil : ∀ n : Nat, (restL [] n).length = n
  | 0 => rfl
  | n + 1 => by rw [restL_succ, if_neg (by simp), List.length_append, rest_nil n]; rfl
theorem rest_count (n : Nat) : ∀ T : List Int, T.Nodup → (∀ i ∈ T, 0 ≤ i ∧ i < (n : Int)) → (restL T n).length + T.length = n
  | [], _, _ => by rw [rest_nil]; rfl
  | i :: T, hn, hr => by
    obtain ⟨h1, h2⟩ := List.nodup_cons.1 hn
    have := rest_len1 T i (hr i List.mem_cons_self).1 h1 n (hr i List.mem_cons_self).2
    have ih := rest_count n T h2 (fun j hj => hr j (List.mem_cons_of_mem _ hj))
    rw [List.length_cons]
    omega
theorem restL_in (T : List Int) : ∀ (n : Nat) (i : Int), i ∈ restL T n → 0 ≤ i ∧ i < (n : Int) ∧ i ∉ T
  | 0, i, h => by simp [restL] at h
  | n + 1, i, h => by
    rw [restL_succ] at h
    split at h
    · have := restL_in T n i h
      exact ⟨this.1, by omega, this.2.2⟩
    · rename_i hT
      rcases List.mem_append.1 h with h | h
      · have := restL_in T n i h
        exact ⟨this.1, by omega, this.2.2⟩
      · simp at h
        subst h
        exact ⟨by omega, by omega, hT⟩
theorem rest_sorted (T : List Int) : ∀ n : Nat, (restL T n).Pairwise (· < ·)
  | 0 => by simp [restL]
  | n + 1 => by
    rw [restL_succ]
    split
    · exact rest_sorted T n
    · rw [List.pairwise_append]
      refine ⟨rest_sorted T n, by simp, fun a ha b hb => ?_⟩
      have := (restL_in T n a ha).2.1
      simp at hb
      omega
theorem rises_ev (a : List Int) (N : Nat) (hl : a.length < 1000000) (hr : ∀ i ∈ a, 0 ≤ i ∧ i < (N : Int)) (hs : a.Pairwise (· < ·)) : Ev (fun k => corebanklaw44_rises.f k a (N : Int)) true := by
  have : ∀ d n : Nat, n + d = a.length → Ev (fun k => corebanklaw44_rises.l0 k a (N : Int) (n : Int)) true := by
    intro d
    induction d with
    | zero =>
      intro n hn
      refine Ev.step (fun k => ?_) (Ev.now _)
      simp only [corebanklaw44_rises.l0]; rw [if_neg (by omega)]
    | succ d ih =>
      intro n hn
      have hlt : n < a.length := by omega
      have hm := hr (rd a n) (by rw [rd_at hlt]; exact List.getElem_mem _)
      refine Ev.step (fun k => ?_) (ih (n + 1) (by omega))
      simp only [corebanklaw44_rises.l0]
      rw [if_pos (by omega), if_pos (by omega), if_neg (by omega), if_neg (by omega)]
      by_cases h0 : (n : Int) > 0
      · obtain ⟨m, rfl⟩ : ∃ m, n = m + 1 := ⟨n - 1, by omega⟩
        have e : wrap64 (((m + 1 : Nat) : Int) - 1) = (m : Int) := by unfold wrap64; omega
        have hlt2 : rd a m < rd a ((m + 1 : Nat) : Int) := by
          rw [rd_at hlt, rd_at (show m < a.length by omega)]
          exact List.pairwise_iff_getElem.1 hs m (m + 1) (by omega) hlt (by omega)
        rw [if_pos h0, e, if_pos (by omega), if_pos (by omega), if_neg (by omega), wn (by omega)]
      · rw [if_neg h0, wn (by omega)]
  exact this a.length 0 (by omega)
theorem has_ev (a : List Int) (x : Int) (hl : a.length < 1000000) (hx : x ∉ a) : Ev (fun k => corebankref05_Has.f k a x) false := by
  have : ∀ d n : Nat, n + d = a.length → Ev (fun k => corebankref05_Has.l0 k a x (n : Int)) false := by
    intro d
    induction d with
    | zero =>
      intro n hn
      refine Ev.step (fun k => ?_) (Ev.now _)
      simp only [corebankref05_Has.l0]; rw [if_neg (by omega)]
    | succ d ih =>
      intro n hn
      have hlt : n < a.length := by omega
      have hm : rd a n ∈ a := by rw [rd_at hlt]; exact List.getElem_mem _
      refine Ev.step (fun k => ?_) (ih (n + 1) (by omega))
      simp only [corebankref05_Has.l0]
      rw [if_pos (by omega), if_pos (by omega), if_neg (show ¬ rd a n = x from fun e => hx (e ▸ hm)), wn (by omega)]
  exact this a.length 0 (by omega)
theorem vgo_true (l0 l1 : List S40) : ∀ (l : List S38) (a b : List Int), (∀ p ∈ l, 0 ≤ p.f0 ∧ p.f0 < (l0.length : Int) ∧ 0 ≤ p.f1 ∧ p.f1 < (l1.length : Int) ∧ (rd_T40 l0 p.f0).f2 = (rd_T40 l1 p.f1).f2) → (l.map (·.f0)).Nodup → (l.map (·.f1)).Nodup → (∀ p ∈ l, p.f0 ∉ a) → (∀ p ∈ l, p.f1 ∉ b) → vgo l0 l1 a b l = true
  | [], _, _, _, _, _, _, _ => rfl
  | p :: r, a, b, h, h0, h1, ha, hb => by
    simp only [List.map_cons, List.nodup_cons] at h0 h1
    have hp := h p List.mem_cons_self
    have hbad : badp l0 l1 a b p = false := by
      unfold badp
      simp only [decide_eq_false (show ¬ p.f0 < 0 by omega), decide_eq_false (show ¬ (l0.length : Int) ≤ p.f0 by omega), decide_eq_false (show ¬ p.f1 < 0 by omega), decide_eq_false (show ¬ (l1.length : Int) ≤ p.f1 by omega), decide_eq_false (ha p List.mem_cons_self), decide_eq_false (hb p List.mem_cons_self), decide_eq_true hp.2.2.2.2, Bool.not_true, Bool.or_false]
    unfold vgo
    rw [if_neg (by rw [hbad]; simp)]
    refine vgo_true l0 l1 r _ _ (fun q hq => h q (List.mem_cons_of_mem _ hq)) h0.2 h1.2 (fun q hq e => ?_) (fun q hq e => ?_)
    · rcases List.mem_cons.1 e with e | e
      · exact h0.1 (by rw [← e]; exact List.mem_map_of_mem hq)
      · exact ha q (List.mem_cons_of_mem _ hq) e
    · rcases List.mem_cons.1 e with e | e
      · exact h1.1 (by rw [← e]; exact List.mem_map_of_mem hq)
      · exact hb q (List.mem_cons_of_mem _ hq) e
/-- What the law asks of a match. -/
structure One (l0 l1 : List S40) (L : List S38) (A B : List Int) : Prop where
  ra : ∃ k, corebanklaw44_rises.f k A (l0.length : Int) = some true
  rb : ∃ k, corebanklaw44_rises.f k B (l1.length : Int) = some true
  la : L.length + A.length = l0.length
  lb : L.length + B.length = l1.length
  ok : reconcile_Valid.f l0 l1 L = some true
  at_ : ∀ i : Nat, i < L.length → 0 ≤ (rd_T38 L i).f0 ∧ (rd_T38 L i).f0 < (l0.length : Int) ∧ 0 ≤ (rd_T38 L i).f1 ∧ (rd_T38 L i).f1 < (l1.length : Int) ∧ (∃ k, corebankref05_Has.f k A (rd_T38 L i).f0 = some false) ∧ (∃ k, corebankref05_Has.f k B (rd_T38 L i).f1 = some false) ∧
    (rd_T40 l0 (rd_T38 L i).f0).f2 = (rd_T40 l1 (rd_T38 L i).f1).f2 ∧ 1 ≤ (rd_T38 L i).f2 ∧ (rd_T38 L i).f2 ≤ 3 ∧ fitB (rd_T40 l0 (rd_T38 L i).f0) (rd_T40 l1 (rd_T38 L i).f1) (rd_T38 L i).f2 = true
  up : ∀ i : Nat, i + 1 < L.length → (rd_T38 L i).f0 < (rd_T38 L ((i + 1 : Nat) : Int)).f0
  rest : ∀ i k : Nat, i < A.length → k < B.length → 0 ≤ rd A i ∧ rd A i < (l0.length : Int) ∧ 0 ≤ rd B k ∧ rd B k < (l1.length : Int) ∧ fitB (rd_T40 l0 (rd A i)) (rd_T40 l1 (rd B k)) 1 = false ∧ fitB (rd_T40 l0 (rd A i)) (rd_T40 l1 (rd B k)) 3 = false
theorem one (l0 l1 : List S40) (h0 : l0.length ≤ 4096) (h1 : l1.length ≤ 4096) : One l0 l1 (ordL (runM l0 l1).out l0.length) (restL (runM l0 l1).M l0.length) (restL (runM l0 l1).S l1.length) := by
  have F := Full.run l0 l1
  obtain ⟨s, hs⟩ : ∃ s, runM l0 l1 = s := ⟨_, rfl⟩
  rw [hs] at F ⊢
  have n0 : (s.out.map (·.f0)).Nodup := by rw [F.o0]; exact (List.reverse_perm s.M).nodup_iff.2 F.mn
  have n1 : (s.out.map (·.f1)).Nodup := by rw [F.o1]; exact (List.reverse_perm s.S).nodup_iff.2 F.tn
  have m0 : ∀ p ∈ s.out, p.f0 ∈ s.M := fun p hp => by
    have : p.f0 ∈ s.out.map (·.f0) := List.mem_map_of_mem hp
    rw [F.o0] at this
    exact List.mem_reverse.1 this
  have m1 : ∀ p ∈ s.out, p.f1 ∈ s.S := fun p hp => by
    have : p.f1 ∈ s.out.map (·.f1) := List.mem_map_of_mem hp
    rw [F.o1] at this
    exact List.mem_reverse.1 this
  have hperm : (ordL s.out l0.length).Perm s.out := by
    have := ordL_perm s.out n0 (fun p hp => (F.mr _ (m0 p hp)).1) l0.length
    rwa [List.filter_eq_self.2 (fun p hp => by simp; exact (F.mr _ (m0 p hp)).2)] at this
  have hsort := ordL_sorted s.out n0 l0.length
  have ca := rest_count l0.length s.M F.mn F.mr
  have cb := rest_count l1.length s.S F.tn F.tr
  have hlen := hperm.length_eq
  have hat : ∀ p ∈ ordL s.out l0.length, p.f0 ∈ s.M ∧ p.f1 ∈ s.S ∧ fitB (rd_T40 l0 p.f0) (rd_T40 l1 p.f1) p.f2 = true ∧ 1 ≤ p.f2 ∧ p.f2 ≤ 3 := fun p hp => by
    have hq := hperm.mem_iff.1 hp
    exact ⟨m0 p hq, m1 p hq, (F.fit p hq).1, (F.fit p hq).2.1, (F.fit p hq).2.2⟩
  refine ⟨Ev.rounds (rises_ev _ _ (by omega) (fun i hi => ?_) (rest_sorted _ _)), Ev.rounds (rises_ev _ _ (by omega) (fun i hi => ?_) (rest_sorted _ _)), ?_, ?_, ?_, fun i hi => ?_, fun i hi => ?_, fun i k hi hk => ?_⟩
  · have := restL_in s.M l0.length i hi; exact ⟨this.1, this.2.1⟩
  · have := restL_in s.S l1.length i hi; exact ⟨this.1, this.2.1⟩
  · rw [hlen, ← F.ml]; omega
  · rw [hlen, ← F.tl]; omega
  · unfold reconcile_Valid.f
    rw [if_pos ⟨by omega, by omega, by rw [hlen, ← F.ml]; omega⟩]
    congr 1
    refine vgo_true l0 l1 _ [] [] (fun p hp => ?_) ((hperm.map _).nodup_iff.2 n0) ((hperm.map _).nodup_iff.2 n1) (by simp) (by simp)
    obtain ⟨a, b, c, _⟩ := hat p hp
    exact ⟨(F.mr _ a).1, (F.mr _ a).2, (F.tr _ b).1, (F.tr _ b).2, fitB_amt c⟩
  · have hm : rd_T38 (ordL s.out l0.length) i ∈ ordL s.out l0.length := by rw [rd38_at hi]; exact List.getElem_mem _
    obtain ⟨a, b, c, d, e⟩ := hat _ hm
    refine ⟨(F.mr _ a).1, (F.mr _ a).2, (F.tr _ b).1, (F.tr _ b).2, Ev.rounds (has_ev _ _ (by omega) (fun h => (restL_in _ _ _ h).2.2 a)), Ev.rounds (has_ev _ _ (by omega) (fun h => (restL_in _ _ _ h).2.2 b)), fitB_amt c, d, e, c⟩
  · rw [rd38_at (show i < _ by omega), rd38_at hi]
    exact List.pairwise_iff_getElem.1 hsort i (i + 1) (by omega) hi (by omega)
  · have ha := restL_in s.M l0.length (rd (restL s.M l0.length) i) (by rw [rd_at hi]; exact List.getElem_mem _)
    have hb := restL_in s.S l1.length (rd (restL s.S l1.length) k) (by rw [rd_at hk]; exact List.getElem_mem _)
    obtain ⟨x, hx⟩ : ∃ x : Nat, rd (restL s.M l0.length) i = (x : Int) := ⟨(rd (restL s.M l0.length) i).toNat, by omega⟩
    obtain ⟨y, hy⟩ : ∃ y : Nat, rd (restL s.S l1.length) k = (y : Int) := ⟨(rd (restL s.S l1.length) k).toNat, by omega⟩
    rw [hx] at ha ⊢
    rw [hy] at hb ⊢
    have := run_none l0 l1 x y (by omega) (by omega) (by rw [hs]; exact ha.2.2) (by rw [hs]; exact hb.2.2)
    exact ⟨ha.1, ha.2.1, hb.1, hb.2.1, this.1, this.2⟩
end Go.Proofs.Ytdieblejeeojhaa.Pl
