/- The plain law of BalanceAdds: the balances of two journals are the sums of theirs; the days change by the entries of their value. -/
import Derived.Test.YtnilmhhidmdlnaaPAdds
import Derived.Test.YtnilmhhidmdlnaaPlDaily
import Derived.Test.YtnilmhhidmdlnaaOpensB
namespace Go.Proofs.Ytnilmhhidmdlnaa.Pl
open Go Go.RowKit Go.Proofs.Ytnilmhhidmdlnaa.PA Go.Proofs.YtnilmhhidmdlnaaW.PrintWords
set_option linter.unusedVariables false
set_option linter.unusedSimpArgs false

theorem okJ_app {l m : List S36} (hl : Few l) (hm : Few m) : okJ (l ++ m) = true := by
  unfold okJ
  rw [Bool.and_eq_true, decide_eq_true_iff, List.all_eq_true]
  refine ⟨by have := hl.1; have := hm.1; simp; omega, fun x hx => decide_eq_true ?_⟩
  rcases List.mem_append.1 hx with h | h
  · have := hl.2 x h; omega
  · have := hm.2 x h; omega
theorem okJ_one {e : S36} (h : e.f8.length ≤ 20) : okJ [e] = true := by
  unfold okJ
  simp
  omega
theorem pos_neg (a : Int) (ys : List S39) : lsum pos a ys + lsum neg a ys = lsum all a ys := by
  induction ys with
  | nil => rfl
  | cons y r ih =>
    simp only [lsum, pos, neg, all] at ih ⊢
    split
    · split <;> omega
    · omega
theorem in_all {l : List S36} (hq : ∀ e ∈ l, (Lit.int .i64 e.f1).wf = true) (f : Int → Int) (a : Int) : esum (in36 (-9223372036854775808) 9223372036854775807) f a l = esum any36 f a l := by
  induction l with
  | nil => rfl
  | cons e r ih =>
    have h := hq e (by simp)
    simp only [Lit.wf, Bool.and_eq_true, decide_eq_true_eq] at h
    have h1 : IntKind.i64.min = -9223372036854775808 := rfl
    have h2 : IntKind.i64.max = 9223372036854775807 := rfl
    rw [h1, h2] at h
    rw [esum, esum, ih (fun x hx => hq x (by simp [hx])), if_pos (show any36 e = true from rfl), if_pos (by simp only [in36, Bool.not_eq_true', Bool.or_eq_false_iff, decide_eq_false_iff_not]; omega)]
theorem esum_pn (l : List S36) (a : Int) : esum any36 pos a l + esum any36 neg a l = esum any36 all a l := by
  induction l with
  | nil => rfl
  | cons e r ih =>
    have := pos_neg a e.f8
    simp only [esum, any36, if_true] at ih ⊢
    omega
/-- The entries of a value. -/
def on36 (v : Int) (e : S36) : Bool := decide (e.f2 = v)
theorem esum_day (l : List S36) (a v : Int) : esum (by36 (v + 1)) all a l = esum (by36 v) all a l + esum (on36 (v + 1)) all a l := by
  induction l with
  | nil => rfl
  | cons e r ih =>
    simp only [esum, by36, on36, decide_eq_true_eq] at ih ⊢
    by_cases h1 : e.f2 ≤ v
    · rw [if_pos (by omega), if_pos h1, if_neg (by omega)]; omega
    · by_cases h2 : e.f2 = v + 1
      · rw [if_pos (by omega), if_neg h1, if_pos h2]; omega
      · rw [if_neg (by omega), if_neg h1, if_neg h2]; omega
theorem esum_one (e : S36) (a : Int) : esum any36 all a [e] = lsum all a e.f8 := by simp [esum, any36]
theorem cut_one {l : List S36} {n : Nat} (h : n < l.length) : (l.take (n + 1)).drop n = [rd_T36 l n] := by
  rw [List.take_add_one, List.drop_append, List.drop_of_length_le (by simp; omega), List.getElem?_eq_getElem h, rd36_at h]
  simp [show n - min n l.length = 0 by omega]
theorem change_ev (l : List S36) (a a2 a3 : Int) (hf : Few l) (xs : List Int) (i : Int) (h0 : 0 ≤ i) (h1 : i < xs.length) (hw : wrap64 (a2 + i) = a2 + i) (hi1 : wrap64 (i - 1) = i - 1) (h01 : 0 ≤ i - 1) {r : Bool}
    (hd : wrap64 (rd xs i - rd xs (i - 1)) = wrap64 (-(esum (on36 (a2 + i)) all a l))) (hn : Ev (fun k => corebanklaw21_BalanceAdds.l0 k l xs (wrap64 (i + 1)) a a2 a3) r) : Ev (fun k => corebanklaw21_BalanceAdds.l1 k l xs i 0 0 a a2 a3) r := by
  have h100 := hf.1
  have : ∀ (d n : Nat) (x : Int), n + d = l.length → wrap64 (x - esum (on36 (a2 + i)) all a (l.drop n)) = wrap64 (-(esum (on36 (a2 + i)) all a l)) → Ev (fun k => corebanklaw21_BalanceAdds.l1 k l xs i (wrap64 x) (n : Int) a a2 a3) r := by
    intro d
    induction d with
    | zero =>
      intro n x hnd hx
      rw [List.drop_of_length_le (by omega), esum, Int.sub_zero] at hx
      refine Ev.step (fun k => ?_) hn
      simp only [corebanklaw21_BalanceAdds.l1]
      rw [if_neg (by omega), if_pos h0, if_pos h1, hi1, if_pos h01, if_pos (by omega), if_pos (by rw [hd, hx])]
    | succ d ih =>
      intro n x hnd hx
      have hlt : n < l.length := by omega
      rw [drop36 hlt, esum] at hx
      by_cases g : (rd_T36 l n).f2 = a2 + i
      · rw [if_pos (by simp [on36, g])] at hx
        have h := ih (n + 1) (x - lsum all a (rd_T36 l n).f8) (by omega) (by rw [← hx]; congr 1; omega)
        have h20 : (rd_T36 l n).f8.length ≤ 20 := by rw [rd36_at hlt]; exact hf.2 _ (List.getElem_mem hlt)
        have hof := Of_f (okJ_one h20) a
        rw [esum_one] at hof
        refine Ev.step (fun k => ?_) h
        simp only [corebanklaw21_BalanceAdds.l1]
        rw [if_pos (by omega), if_pos (by omega), hw, if_pos g, wn (by omega), if_pos (by omega), if_pos (by omega), Int.toNat_natCast, Int.toNat_natCast, cut_one hlt, hof, Option.bind_some, ww2]
        rfl
      · rw [if_neg (by simp [on36, g]), Int.zero_add] at hx
        refine Ev.step (fun k => ?_) (ih (n + 1) x (by omega) hx)
        simp only [corebanklaw21_BalanceAdds.l1]
        rw [if_pos (by omega), if_pos (by omega), hw, if_neg g, wn (by omega)]
  have h := this l.length 0 0 (by omega) (by rw [List.drop_zero, Int.zero_sub])
  rw [ww0] at h
  exact h
theorem days_ev (l : List S36) (a a2 a3 : Int) (hf : Few l) : Ev (fun k => corebanklaw21_BalanceAdds.l0 k l (dailyL l a a2 a3) 1 a a2 a3) true := by
  have hlast : ∀ (xs : List Int) (i : Int), ¬ i < xs.length → Ev (fun k => corebanklaw21_BalanceAdds.l0 k l xs i a a2 a3) true := fun xs i hi => by
    obtain ⟨K, h⟩ := live_ev
    dsimp only at h
    refine ⟨K + 1, fun k hk => ?_⟩
    obtain ⟨m, rfl⟩ : ∃ m, k = m + 1 := ⟨k - 1, by omega⟩
    simp only [corebanklaw21_BalanceAdds.l0]
    rw [if_neg hi, h m (by omega), Option.bind_some]
  unfold dailyL
  by_cases c : daBad a2 a3 = true
  · rw [if_pos c]
    exact hlast _ _ (by simp)
  · rw [if_neg c]
    have hc : ¬ (a2 < 0 ∨ a3 > 73048 ∨ a2 > a3 ∨ wrap64 (a3 - a2) ≥ 4000) := fun h => c ((bad_iff _ _).2 h)
    have hw0 : wrap64 (a3 - a2) = a3 - a2 := by unfold wrap64; omega
    rw [hw0] at hc
    obtain ⟨m, hm⟩ : ∃ m : Nat, a3 - a2 + 1 = (m : Int) := ⟨(a3 - a2 + 1).toNat, by omega⟩
    rw [show (a3 - a2 + 1).toNat = m by omega]
    have hlen := dayL_len l a a2 m
    have : ∀ (d n : Nat), n + 1 + d = m → Ev (fun k => corebanklaw21_BalanceAdds.l0 k l (dayL l a a2 m) ((n + 1 : Nat) : Int) a a2 a3) true := by
      intro d
      induction d with
      | zero => intro n hn; exact hlast _ _ (by rw [hlen]; omega)
      | succ d ih =>
        intro n hn
        have h := ih (n + 1) (by omega)
        have hi1 : wrap64 (((n + 1 : Nat) : Int) - 1) = ((n + 1 : Nat) : Int) - 1 := by unfold wrap64; omega
        have hw : wrap64 (a2 + ((n + 1 : Nat) : Int)) = a2 + ((n + 1 : Nat) : Int) := by unfold wrap64; omega
        have g1 : rd (dayL l a a2 m) ((n + 1 : Nat) : Int) = wrap64 (-(esum (by36 (a2 + n + 1)) all a l)) := by
          rw [rd_getD, Int.toNat_natCast, dayL_get _ _ _ _ _ (by omega), show a2 + ((n + 1 : Nat) : Int) = a2 + n + 1 by omega]
        have g2 : rd (dayL l a a2 m) (((n + 1 : Nat) : Int) - 1) = wrap64 (-(esum (by36 (a2 + n)) all a l)) := by
          rw [rd_getD, show (((n + 1 : Nat) : Int) - 1).toNat = n by omega, dayL_get _ _ _ _ _ (by omega)]
        have hc := change_ev l a a2 a3 hf (dayL l a a2 m) ((n + 1 : Nat) : Int) (by omega) (by rw [hlen]; omega) hw hi1 (by omega) (r := true) (by
          rw [g1, g2, esum_day, show a2 + ((n + 1 : Nat) : Int) = a2 + n + 1 by omega]
          unfold wrap64
          omega) (by rw [wn (by omega)]; exact h)
        refine Ev.step (fun k => ?_) hc
        simp only [corebanklaw21_BalanceAdds.l0]
        rw [if_pos (by rw [hlen]; omega)]
    exact this (m - 1) 0 (by omega)
theorem adds_ (l m : List S36) (a b v : Int) (hq : ∀ e ∈ l, (Lit.int .i64 e.f1).wf = true) : ∃ k, corebanklaw21_BalanceAdds.f k l m a b v = some true := by
  obtain ⟨c, ⟨K0, k0⟩, hf⟩ := few_ev l
  obtain ⟨c', ⟨K1, k1⟩, hf'⟩ := few_ev m
  refine Ev.rounds ?_
  dsimp only at k0 k1
  have hlive : Ev (fun k => corebanklaw21_BalanceAdds.j0 k l m true a b v) true := by
    obtain ⟨K, h⟩ := live_ev
    dsimp only at h
    refine ⟨K + 1, fun k hk => ?_⟩
    obtain ⟨q, rfl⟩ : ∃ q, k = q + 1 := ⟨k - 1, by omega⟩
    simp only [corebanklaw21_BalanceAdds.j0]
    rw [if_pos trivial, h q (by omega), Option.bind_some]
  cases c with
  | false =>
    obtain ⟨K5, k5⟩ := hlive
    dsimp only at k5
    refine ⟨K0 + K5, fun k hk => ?_⟩
    simp only [corebanklaw21_BalanceAdds.f]
    rw [k0 k (by omega), Option.bind_some, if_neg (by simp), k5 k (by omega)]
  | true =>
    cases c' with
    | false =>
      obtain ⟨K5, k5⟩ := hlive
      dsimp only at k5
      refine ⟨K0 + K1 + K5, fun k hk => ?_⟩
      simp only [corebanklaw21_BalanceAdds.f]
      rw [k0 k (by omega), Option.bind_some, if_pos rfl, k1 k (by omega), Option.bind_some]
      exact k5 k (by omega)
    | true =>
      have hF := hf rfl
      have hF' := hf' rfl
      have hJ := okJ_few hF
      have hJ' := okJ_few hF'
      have hA := okJ_app hF hF'
      have hl := hF.1
      have hm := hF'.1
      obtain ⟨K2, k2⟩ := days_ev l a b v hF
      dsimp only at k2
      refine ⟨K0 + K1 + K2 + 2, fun k hk => ?_⟩
      obtain ⟨q, rfl⟩ : ∃ q, k = q + 1 + 1 := ⟨k - 2, by omega⟩
      simp only [corebanklaw21_BalanceAdds.f]
      rw [k0 _ (by omega), Option.bind_some, if_pos rfl, k1 _ (by omega), Option.bind_some]
      simp only [corebanklaw21_BalanceAdds.j0, Bool.not_true, Option.bind_some, List.nil_append, List.length_nil]
      rw [if_neg (by simp), if_pos (by omega), if_pos (by omega), Of_f hJ, Option.bind_some, Of_f hA, Option.bind_some, Of_f hJ', Option.bind_some]
      rw [if_pos (by rw [ww2, esum_app]; congr 1; omega), At_f hA, Option.bind_some, At_f hJ, Option.bind_some, At_f hJ', Option.bind_some]
      rw [show (wrap64 (-esum (at36 b v) all a (l ++ m)) != wrap64 (wrap64 (-esum (at36 b v) all a l) + wrap64 (-esum (at36 b v) all a m))) = false by
        rw [ww2, esum_app, show -(esum (at36 b v) all a l + esum (at36 b v) all a m) = -esum (at36 b v) all a l + -esum (at36 b v) all a m by omega]; simp]
      simp only [corebanklaw21_BalanceAdds.j1]
      rw [if_neg (by simp), Turnover_f hJ, Option.bind_some, Daily_f hJ, Option.bind_some, in_all hq, in_all hq, if_pos (by
        have := esum_pn l a
        dsimp only
        unfold wrap64
        omega)]
      exact k2 q (by omega)
theorem adds_r (l m : List S36) (a b v : Int) (q0 : ∀ e ∈ l, RD.okB e) (q1 : ∀ e ∈ m, RD.okB e) (w0 : (Lit.int .i64 a).wf = true) (w1 : (Lit.int .i64 b).wf = true) (w2 : (Lit.int .i64 v).wf = true) : ∃ k, corebanklaw21_BalanceAdds.f k l m a b v = some true := adds_ l m a b v fun e he => (q0 e he).2
end Go.Proofs.Ytnilmhhidmdlnaa.Pl
namespace Go.Proofs.Ytnilmhhidmdlnaa.PA
open Go Go.RowKit Go.Proofs.YtnilmhhidmdlnaaW.PrintWords
theorem corebanklaw21_BalanceAddsC.calls (k : Nat) (A0 : Option Addr) (c0 : Nat) (l0 : List (S36)) (A1 : Option Addr) (c1 : Nat) (l1 : List (S36)) (a2_0 : Int) (a2_1 : Int) (a2_2 : Int) (r : Bool) (w : World) (hr0 : Kd.C k36 w A0 l0.length l0) (hc0 : l0.length ≤ c0) (hr1 : Kd.C k36 w A1 l1.length l1) (hc1 : l1.length ≤ c1) (h : corebanklaw21_BalanceAdds.f k l0 l1 a2_0 a2_1 a2_2 = some r) :
    Calls Try.prog 3 #[.slice A0 l0.length c0, .slice A1 l1.length c1, .agg #[.int .i64 a2_0, .int .i64 a2_1, .int .i64 a2_2]] w fun e w' => e = .returned (.bool r) ∧ Below w.heap.size w w' :=
  corebanklaw21_BalanceAdds.calls k _ A0 c0 l0 _ A1 c1 l1 a2_0 a2_1 a2_2 r w (RD.shared hr0 hc0) (RD.shared hr1 hc1) h
end Go.Proofs.Ytnilmhhidmdlnaa.PA
