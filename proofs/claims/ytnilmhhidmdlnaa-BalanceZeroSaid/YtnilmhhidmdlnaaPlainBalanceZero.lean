/- The plain law of BalanceZero: a journal and its opposite have an empty trial balance; the legs of Trial ascend and have the balances. -/
import Derived.Test.YtnilmhhidmdlnaaPZero
import Derived.Test.YtnilmhhidmdlnaaNum
import Derived.Test.YtnilmhhidmdlnaaOpensB
namespace Go.Proofs.Ytnilmhhidmdlnaa.Pl
open Go Go.RowKit Go.Proofs.Ytnilmhhidmdlnaa.PA Go.Proofs.YtnilmhhidmdlnaaW.PrintWords
set_option linter.unusedVariables false
set_option linter.unusedSimpArgs false

def negL (x : S39) : S39 := ⟨x.f0, wrap64 (-x.f1), x.f2⟩
def negE (e : S36) : S36 := ⟨0, 0, 0, 0, 0, 0, ⟨#[]⟩, ⟨#[]⟩, e.f8.map negL, 0⟩
/-- The sum of the legs of a place, not wrapped. -/
def ksum (a : Int) (s : ByteArray) : List S39 → Int
  | [] => 0
  | x :: r => (if isK a s x = true then x.f1 else 0) + ksum a s r
theorem ksum_app (a : Int) (s : ByteArray) (l m : List S39) : ksum a s (l ++ m) = ksum a s l + ksum a s m := by
  induction l with
  | nil => simp [ksum]
  | cons y r ih => simp only [List.cons_append, ksum, ih]; omega
theorem sumK_eq (a : Int) (s : ByteArray) (xs : List S39) : sumK a s xs = wrap64 (ksum a s xs) := by
  have : ∀ (xs : List S39) (n : Int), xs.foldl (fun n x => if isK a s x = true then wrap64 (n + x.f1) else n) (wrap64 n) = wrap64 (n + ksum a s xs) := by
    intro xs
    induction xs with
    | nil => intro n; simp [ksum]
    | cons x r ih =>
      intro n
      rw [List.foldl_cons, ksum]
      by_cases c : isK a s x = true
      · rw [if_pos c, if_pos c, ww_add, ih]; congr 1; omega
      · rw [if_neg c, if_neg c, ih]; congr 1; omega
  have h := this xs 0
  rw [ww0, Int.zero_add] at h
  exact h
theorem ksum_neg (a : Int) (s : ByteArray) (xs : List S39) : wrap64 (ksum a s (xs.map negL)) = wrap64 (-(ksum a s xs)) := by
  induction xs with
  | nil => rfl
  | cons x r ih =>
    have e : isK a s (negL x) = isK a s x := isK_same ⟨rfl, rfl⟩
    rw [List.map_cons, ksum, ksum, e]
    by_cases c : isK a s x = true
    · rw [if_pos c, if_pos c, negL]
      unfold wrap64 at ih ⊢
      dsimp only
      omega
    · rw [if_neg c, if_neg c, Int.zero_add, Int.zero_add]; exact ih
theorem legs_app (l m : List S36) : legs (l ++ m) = legs l ++ legs m := by simp [legs]
theorem legs_neg (l : List S36) : legs (l.map negE) = (legs l).map negL := by
  induction l with
  | nil => rfl
  | cons e r ih =>
    rw [List.map_cons, show legs (negE e :: r.map negE) = e.f8.map negL ++ legs (r.map negE) from rfl, ih, show legs (e :: r) = e.f8 ++ legs r from rfl, List.map_append]
theorem wrap_wf (n : Int) : (Lit.int .i64 (wrap64 n)).wf = true := wrap64_wf n
theorem wf_wrap {x : Int} (h : (Lit.int .i64 x).wf = true) : wrap64 x = x := by
  simp only [Lit.wf, Bool.and_eq_true, decide_eq_true_eq] at h
  have h1 : IntKind.i64.min = -9223372036854775808 := rfl
  have h2 : IntKind.i64.max = 9223372036854775807 := rfl
  rw [h1, h2] at h
  unfold wrap64
  omega
theorem both_empty (l : List S36) (hq : ∀ e ∈ l, okE e) : trialL (l ++ l.map negE) = [] := by
  have hlegs : ∀ x ∈ legs l, (Lit.int .i64 x.f1).wf = true := fun x hx => by
    unfold legs at hx
    obtain ⟨e, he, hx⟩ := List.mem_flatMap.1 hx
    exact (hq e he x hx).2.1
  have hw : ∀ x ∈ legs (l ++ l.map negE), wrap64 x.f1 = x.f1 := fun x hx => by
    rw [legs_app, legs_neg] at hx
    rcases List.mem_append.1 hx with h | h
    · exact wf_wrap (hlegs x h)
    · obtain ⟨y, hy, rfl⟩ := List.mem_map.1 h
      exact ww _
  refine List.eq_nil_iff_forall_not_mem.2 fun y hy => ?_
  obtain ⟨h1, _, h3⟩ := (mem_trial _ hw y).1 hy
  rw [sumK_eq, legs_app, legs_neg, ksum_app] at h3
  have h4 := ksum_neg y.f0 y.f2 (legs l)
  apply h1
  rw [← h3]
  unfold wrap64 at h4 ⊢
  omega
theorem okT_both {l : List S36} (hf : Few l) (hl : l.length ≤ 50) (hq : ∀ e ∈ l, okE e) : okT (l ++ l.map negE) = true := by
  have h1 := legs_few hf.2
  have hx : ∀ x ∈ legs l, okS x = true := fun x hx => by
    unfold legs at hx
    obtain ⟨e, he, hx⟩ := List.mem_flatMap.1 hx
    obtain ⟨a, b, c⟩ := hq e he x hx
    simp [okS, a, b, c]
  unfold okT
  simp only [Bool.and_eq_true, decide_eq_true_eq, List.all_eq_true]
  refine ⟨⟨fun x h => ?_, ?_⟩, by simp; omega⟩
  · rw [legs_app, legs_neg] at h
    rcases List.mem_append.1 h with h | h
    · exact hx x h
    · obtain ⟨y, hy, rfl⟩ := List.mem_map.1 h
      have := hx y hy
      simp only [okS, Bool.and_eq_true, decide_eq_true_eq] at this ⊢
      exact ⟨⟨this.1.1, wrap_wf _⟩, this.2⟩
  · rw [legs_app, legs_neg, List.length_append, List.length_map]
    omega
/-! the balances of the legs of Trial -/
theorem lsum_addL (a : Int) (l : List S39) (x : S39) : wrap64 (lsum all a (addL l x)) = wrap64 (lsum all a l + if x.f0 = a then x.f1 else 0) := by
  induction l with
  | nil => simp [addL, lsum, all]
  | cons y r ih =>
    unfold addL
    by_cases c1 : lessB y x = true
    · rw [if_pos c1, lsum, lsum]
      unfold wrap64 at ih ⊢
      omega
    · rw [if_neg c1]
      by_cases c2 : lessB x y = true
      · rw [if_pos c2, lsum]
        simp only [all]
        congr 1
        omega
      · rw [if_neg c2, lsum, lsum]
        have e := less_tot x y (eq_false_of_ne_true c2) (eq_false_of_ne_true c1)
        simp only [all]
        rw [e.1]
        by_cases c : y.f0 = a
        · rw [if_pos c, if_pos c, if_pos c]
          unfold wrap64
          omega
        · rw [if_neg c, if_neg c, if_neg c, Int.add_zero]
theorem lsum_put (a : Int) (xs : List S39) : wrap64 (lsum all a (putAll xs)) = wrap64 (lsum all a xs) := by
  obtain ⟨ys, rfl⟩ : ∃ ys, xs = ys.reverse := ⟨xs.reverse, by simp⟩
  induction ys with
  | nil => rfl
  | cons y r ih =>
    rw [List.reverse_cons, putAll_snoc, lsum_addL, lsum_app, ← ww_add, ih, ww_add]
    simp [lsum, all]
theorem lsum_keep (a : Int) (xs : List S39) : lsum all a (xs.filter fun x => decide (¬ x.f1 = 0)) = lsum all a xs := by
  induction xs with
  | nil => rfl
  | cons x r ih =>
    by_cases c : x.f1 = 0
    · rw [List.filter_cons_of_neg (by simp [c]), ih, lsum, all, c]; simp
    · rw [List.filter_cons_of_pos (by simp [c]), lsum, lsum, ih]
theorem lsum_legs (a : Int) (l : List S36) : lsum all a (legs l) = esum any36 all a l := by
  induction l with
  | nil => rfl
  | cons e r ih => rw [show legs (e :: r) = e.f8 ++ legs r from rfl, lsum_app, ih, esum, if_pos (show any36 e = true from rfl)]
theorem trial_sum (a : Int) (l : List S36) : wrap64 (-(lsum all a (trialL l))) = wrap64 (-(esum any36 all a l)) := by
  have h := lsum_put a (legs l)
  rw [lsum_legs] at h
  unfold trialL
  rw [lsum_keep]
  unfold wrap64 at h ⊢
  omega
theorem sum_ev (l : List S36) (t : List S39) (ht : t.length ≤ 1000000) (i : Nat) (hi : i < t.length) {r : Bool} (hz : ¬ (rd_T39 t i).f1 = 0) {n : Int} (hof : balance_Of.f l (rd_T39 t i).f0 = some n) (hs : wrap64 (-(lsum all (rd_T39 t i).f0 t)) = n)
    (hn : Ev (fun k => corebanklaw21_BalanceZero.j5 k l t (i : Int) false) r) : Ev (fun k => corebanklaw21_BalanceZero.l3 k l t (i : Int) 0 0) r := by
  have : ∀ (d m : Nat) (x : Int), m + d = t.length → wrap64 (x - lsum all (rd_T39 t i).f0 (t.drop m)) = n → Ev (fun k => corebanklaw21_BalanceZero.l3 k l t (i : Int) (wrap64 x) (m : Int)) r := by
    intro d
    induction d with
    | zero =>
      intro m x hm hx
      rw [List.drop_of_length_le (by omega), lsum, Int.sub_zero] at hx
      refine Ev.step (fun k => ?_) hn
      simp only [corebanklaw21_BalanceZero.l3]
      rw [if_neg (by omega), if_pos (by omega), if_pos (by omega), if_neg hz, hof, Option.bind_some, hx]
      simp
    | succ d ih =>
      intro m x hm hx
      rw [drop39 (show m < t.length by omega), lsum] at hx
      by_cases g : (rd_T39 t m).f0 = (rd_T39 t i).f0
      · rw [if_pos g] at hx
        have h := ih (m + 1) (x - (rd_T39 t m).f1) (by omega) (by rw [← hx]; congr 1; unfold all; omega)
        refine Ev.step (fun k => ?_) h
        simp only [corebanklaw21_BalanceZero.l3]
        rw [if_pos (by omega), if_pos (by omega), if_pos (by omega), if_pos (by omega), if_pos g, wn (by omega), ww_sub]
      · rw [if_neg g, Int.zero_add] at hx
        refine Ev.step (fun k => ?_) (ih (m + 1) x (by omega) hx)
        simp only [corebanklaw21_BalanceZero.l3]
        rw [if_pos (by omega), if_pos (by omega), if_pos (by omega), if_pos (by omega), if_neg g, wn (by omega)]
  have h := this t.length 0 0 (by omega) (by rw [List.drop_zero, Int.zero_sub]; exact hs)
  rw [ww0] at h
  exact h
theorem trial_len' (l : List S36) : (trialL l).length ≤ (legs l).length := by
  have h1 : ∀ (l : List S39) (x : S39), (addL l x).length ≤ l.length + 1 := by
    intro l x
    induction l with
    | nil => simp [addL]
    | cons y r ih =>
      unfold addL
      split
      · simp; omega
      · split <;> simp
  have h2 : ∀ (xs l : List S39), (xs.foldl addL l).length ≤ l.length + xs.length := by
    intro xs
    induction xs with
    | nil => intro l; simp
    | cons x r ih =>
      intro l
      have h1 := ih (addL l x)
      have h2 := h1
      have h3 := ‹∀ (l : List S39) (x : S39), (addL l x).length ≤ l.length + 1› l x
      simp only [List.foldl_cons, List.length_cons]
      omega
  have h3 := h2 (legs l) []
  have h4 := List.length_filter_le (fun x : S39 => decide (¬ x.f1 = 0)) (putAll (legs l))
  unfold trialL
  unfold putAll at h4 ⊢
  simp only [List.length_nil, Nat.zero_add] at h3
  omega
theorem balances_ev (l : List S36) (hf : Few l) (hq : ∀ e ∈ l, okE e) : Ev (fun k => corebanklaw21_BalanceZero.l2 k l (trialL l) 0) true := by
  have h1 := legs_few hf.2
  have h2 := hf.1
  have h3 := trial_len' l
  have hasc := asc_trial l
  have hnz : ∀ y ∈ trialL l, ¬ y.f1 = 0 := fun y hy => by
    have := (List.mem_filter.1 hy).2
    simpa using this
  have hsum := fun a => trial_sum a l
  generalize trialL l = t at *
  have : ∀ (d n : Nat), n + d = t.length → Ev (fun k => corebanklaw21_BalanceZero.l2 k l t (n : Int)) true := by
    intro d
    induction d with
    | zero =>
      intro n hn
      obtain ⟨K, h⟩ := live_ev
      dsimp only at h
      refine ⟨K + 1, fun k hk => ?_⟩
      obtain ⟨m, rfl⟩ : ∃ m, k = m + 1 := ⟨k - 1, by omega⟩
      simp only [corebanklaw21_BalanceZero.l2]
      rw [if_neg (by omega), h m (by omega), Option.bind_some]
    | succ d ih =>
      intro n hn
      have hlt : n < t.length := by omega
      have h := ih (n + 1) (by omega)
      have hj : Ev (fun k => corebanklaw21_BalanceZero.j5 k l t (n : Int) false) true := by
        refine Ev.step (fun k => ?_) h
        simp only [corebanklaw21_BalanceZero.j5]
        rw [if_neg (by simp)]
        by_cases c : (n : Int) > 0
        · have hw : wrap64 ((n : Int) - 1) = ((n - 1 : Nat) : Int) := by unfold wrap64; omega
          have hord : lessB (rd_T39 t ((n - 1 : Nat) : Int)) (rd_T39 t (n : Int)) = true := by
            rw [rd39_at (by omega), rd39_at hlt]
            exact List.pairwise_iff_getElem.1 hasc (n - 1) n (by omega) hlt (by omega)
          rw [if_pos c, if_pos (by omega), if_pos (by omega), hw, if_pos (by omega), if_pos (by omega), wn (by omega)]
          unfold lessB at hord
          simp only [Bool.or_eq_true, Bool.and_eq_true, decide_eq_true_eq] at hord
          rcases hord with g | ⟨g1, g2⟩
          · rw [if_neg (by omega), if_neg (by omega)]
          · rw [if_neg (by omega), if_pos g1.symm, if_pos g2]
        · rw [if_neg c, wn (by omega)]
      have hmem : rd_T39 t n ∈ t := by rw [rd39_at hlt]; exact List.getElem_mem hlt
      have hs := sum_ev l t (by omega) n hlt (hnz _ hmem) (Of_f (okJ_few hf) _) (hsum _) hj
      refine Ev.step (fun k => ?_) hs
      simp only [corebanklaw21_BalanceZero.l2]
      rw [if_pos (by omega)]
  exact this t.length 0 (by omega)
theorem opposite_ev (l : List S36) (hf : Few l) (hl : l.length ≤ 50) (hq : ∀ e ∈ l, okE e) : Ev (fun k => corebanklaw21_BalanceZero.l0 k l l 0) true := by
  have : ∀ (d n : Nat), n + d = l.length → Ev (fun k => corebanklaw21_BalanceZero.l0 k l (l ++ (l.take n).map negE) (n : Int)) true := by
    intro d
    induction d with
    | zero =>
      intro n hn
      obtain ⟨K, h⟩ := balances_ev l hf hq
      dsimp only at h
      rw [List.take_of_length_le (by omega)]
      refine ⟨K + 1, fun k hk => ?_⟩
      obtain ⟨m, rfl⟩ : ∃ m, k = m + 1 := ⟨k - 1, by omega⟩
      simp only [corebanklaw21_BalanceZero.l0]
      rw [if_neg (by omega), show balance_Trial.f (l ++ l.map negE) = some (trialL (l ++ l.map negE)) from if_pos (okT_both hf hl hq), Option.bind_some, both_empty l hq, if_pos (by simp), show balance_Trial.f l = some (trialL l) from if_pos (okT_few hf hq), Option.bind_some, h m (by omega)]
    | succ d ih =>
      intro n hn
      have hlt : n < l.length := by omega
      have h20 : (rd_T36 l n).f8.length ≤ 20 := by rw [rd36_at hlt]; exact hf.2 _ (List.getElem_mem hlt)
      have htake : l.take (n + 1) = l.take n ++ [rd_T36 l n] := by rw [List.take_add_one, List.getElem?_eq_getElem hlt, rd36_at hlt]; rfl
      have h := ih (n + 1) (by omega)
      rw [htake, List.map_append, ← List.append_assoc] at h
      have hlen : (l ++ (l.take n).map negE).length ≤ 200 := by simp; omega
      generalize l ++ (l.take n).map negE = acc at *
      have hin : ∀ (d' j : Nat), j + d' = (rd_T36 l n).f8.length → Ev (fun k => corebanklaw21_BalanceZero.l1 k l acc (n : Int) (((rd_T36 l n).f8.take j).map negL) (j : Int)) true := by
        intro d'
        induction d' with
        | zero =>
          intro j hj
          rw [List.take_of_length_le (show (rd_T36 l n).f8.length ≤ j by omega)]
          refine Ev.step (fun k => ?_) h
          simp only [corebanklaw21_BalanceZero.l1]
          rw [if_pos (by omega), if_pos (by omega), if_neg (by omega), if_pos (by omega), wn (by omega)]
          rfl
        | succ d' ih' =>
          intro j hj
          have hjl : j < (rd_T36 l n).f8.length := by omega
          have ht : (rd_T36 l n).f8.take (j + 1) = (rd_T36 l n).f8.take j ++ [rd_T39 (rd_T36 l n).f8 j] := by rw [List.take_add_one, List.getElem?_eq_getElem hjl, rd39_at hjl]; rfl
          have h' := ih' (j + 1) (by omega)
          rw [ht, List.map_append] at h'
          refine Ev.step (fun k => ?_) h'
          simp only [corebanklaw21_BalanceZero.l1]
          rw [if_pos (by omega), if_pos (by omega), if_pos (by omega), if_pos (by omega), if_pos (by simp; omega), wn (by omega)]
          rfl
      have h0 := hin (rd_T36 l n).f8.length 0 (by omega)
      refine Ev.step (fun k => ?_) h0
      simp only [corebanklaw21_BalanceZero.l0]
      rw [if_pos (by omega)]
      rfl
  have h := this l.length 0 (by omega)
  rw [List.take_zero, List.map_nil, List.append_nil] at h
  exact h
theorem zero_r (l : List S36) (q0 : ∀ e ∈ l, RD.okB e) : ∃ k, corebanklaw21_BalanceZero.f k l = some true := by
  have hq : ∀ e ∈ l, okE e := fun e he => (q0 e he).1
  obtain ⟨c, ⟨K0, k0⟩, hf⟩ := few_ev l
  refine Ev.rounds ?_
  dsimp only at k0
  have hlive : Ev (fun k => corebanklaw21_BalanceZero.j0 k l true) true := by
    obtain ⟨K, h⟩ := live_ev
    dsimp only at h
    refine ⟨K + 1, fun k hk => ?_⟩
    obtain ⟨q, rfl⟩ : ∃ q, k = q + 1 := ⟨k - 1, by omega⟩
    simp only [corebanklaw21_BalanceZero.j0]
    rw [if_pos trivial, h q (by omega), Option.bind_some]
  obtain ⟨K5, k5⟩ := hlive
  dsimp only at k5
  by_cases h50 : (l.length : Int) > 50
  · refine ⟨K5, fun k hk => ?_⟩
    simp only [corebanklaw21_BalanceZero.f]
    rw [if_pos h50, k5 k (by omega)]
  · cases c with
    | false =>
      refine ⟨K0 + K5, fun k hk => ?_⟩
      simp only [corebanklaw21_BalanceZero.f]
      rw [if_neg h50, k0 k (by omega), Option.bind_some]
      exact k5 k (by omega)
    | true =>
      have hF := hf rfl
      obtain ⟨K1, k1⟩ := opposite_ev l hF (by omega) hq
      dsimp only at k1
      refine ⟨K0 + K1 + 1, fun k hk => ?_⟩
      obtain ⟨q, rfl⟩ : ∃ q, k = q + 1 := ⟨k - 1, by omega⟩
      simp only [corebanklaw21_BalanceZero.f]
      rw [if_neg h50, k0 _ (by omega), Option.bind_some]
      simp only [corebanklaw21_BalanceZero.j0, Bool.not_true, Option.bind_some, List.nil_append, List.length_nil]
      rw [if_neg (by simp), if_pos (by omega)]
      exact k1 q (by omega)
end Go.Proofs.Ytnilmhhidmdlnaa.Pl
namespace Go.Proofs.Ytnilmhhidmdlnaa.PA
open Go Go.RowKit Go.Proofs.YtnilmhhidmdlnaaW.PrintWords
theorem corebanklaw21_BalanceZeroC.calls (k : Nat) (A0 : Option Addr) (c0 : Nat) (l0 : List (S36)) (r : Bool) (w : World) (hr0 : Kd.C k36 w A0 l0.length l0) (hc0 : l0.length ≤ c0) (h : corebanklaw21_BalanceZero.f k l0 = some r) :
    Calls Try.prog 4 #[.slice A0 l0.length c0] w fun e w' => e = .returned (.bool r) ∧ Below w.heap.size w w' :=
  corebanklaw21_BalanceZero.calls k _ A0 c0 l0 r w (RD.shared hr0 hc0) h
end Go.Proofs.Ytnilmhhidmdlnaa.PA
