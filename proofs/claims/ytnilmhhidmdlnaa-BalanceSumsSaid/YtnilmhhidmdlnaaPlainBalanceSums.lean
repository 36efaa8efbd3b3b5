/- The plain law of BalanceSums: the program's numbers are the reference's. -/
import Derived.Test.YtnilmhhidmdlnaaPAx11
import Derived.Test.YtnilmhhidmdlnaaNum
namespace Go.Proofs.Ytnilmhhidmdlnaa.Pl
open Go Go.RowKit Go.Proofs.Ytnilmhhidmdlnaa.PA Go.Proofs.YtnilmhhidmdlnaaW.PrintWords
set_option linter.unusedVariables false
set_option linter.unusedSimpArgs false

theorem rturn_ev (l : List S36) (a b v : Int) (hf : Few l) : Ev (fun k => corebankref21_Turnover.f k l a b v) (wrap64 (esum (in36 b v) pos a l), wrap64 (-(esum (in36 b v) neg a l))) := by
  have h100 := hf.1
  have : ∀ (d n : Nat) (x y : Int), n + d = l.length → Ev (fun k => corebankref21_Turnover.l0 k l a b v (wrap64 x) (wrap64 y) (n : Int)) (wrap64 (x + esum (in36 b v) pos a (l.drop n)), wrap64 (y - esum (in36 b v) neg a (l.drop n))) := by
    intro d
    induction d with
    | zero =>
      intro n x y hn
      rw [List.drop_of_length_le (by omega)]
      refine Ev.step (fun k => ?_) (Ev.now _)
      simp only [corebankref21_Turnover.l0]; rw [if_neg (by omega)]; simp [esum]
    | succ d ih =>
      intro n x y hn
      have hlt : n < l.length := by omega
      have h20 : (rd_T36 l n).f8.length ≤ 20 := by rw [rd36_at hlt]; exact hf.2 _ (List.getElem_mem hlt)
      rw [drop36 hlt, esum, esum]
      by_cases g : (rd_T36 l n).f1 < b ∨ (rd_T36 l n).f1 > v
      · rw [if_neg (by simp only [in36, Bool.not_eq_true', Bool.or_eq_false_iff, decide_eq_false_iff_not]; omega), if_neg (by simp only [in36, Bool.not_eq_true', Bool.or_eq_false_iff, decide_eq_false_iff_not]; omega), Int.zero_add, Int.zero_add]
        refine Ev.step (f := fun k => corebankref21_Turnover.j1 k l a b v (wrap64 x) (wrap64 y) n true) (fun k => ?_) (Ev.step (fun k => ?_) (ih (n + 1) x y (by omega)))
        · simp only [corebankref21_Turnover.l0]; rw [if_pos (by omega), if_pos (by omega)]
          by_cases g1 : (rd_T36 l n).f1 < b
          · rw [if_pos g1]
          · rw [if_neg g1, decide_eq_true (g.resolve_left g1)]
        · simp only [corebankref21_Turnover.j1]; rw [if_pos trivial, wn (by omega)]
      · rw [if_pos (by simp only [in36, Bool.not_eq_true', Bool.or_eq_false_iff, decide_eq_false_iff_not]; omega), if_pos (by simp only [in36, Bool.not_eq_true', Bool.or_eq_false_iff, decide_eq_false_iff_not]; omega)]
        have hin : ∀ (d' j : Nat) (x y : Int), j + d' = (rd_T36 l n).f8.length → Ev (fun k => corebankref21_Turnover.l1 k l a b v (wrap64 x) (wrap64 y) n (j : Int)) (wrap64 (x + (lsum pos a ((rd_T36 l n).f8.drop j) + esum (in36 b v) pos a (l.drop (n + 1)))), wrap64 (y - (lsum neg a ((rd_T36 l n).f8.drop j) + esum (in36 b v) neg a (l.drop (n + 1))))) := by
          intro d'
          induction d' with
          | zero =>
            intro j x y hj
            rw [List.drop_of_length_le (show (rd_T36 l n).f8.length ≤ j by omega), lsum, lsum, Int.zero_add, Int.zero_add]
            refine Ev.step (fun k => ?_) (ih (n + 1) x y (by omega))
            simp only [corebankref21_Turnover.l1]; rw [if_pos (by omega), if_pos (by omega), if_neg (by omega), wn (by omega)]
          | succ d' ih' =>
            intro j x y hj
            rw [drop39 (show j < (rd_T36 l n).f8.length by omega), lsum, lsum]
            by_cases g1 : (rd_T39 (rd_T36 l n).f8 j).f0 = a
            · have h1 : ∀ k, corebankref21_Turnover.l1 (k + 1) l a b v (wrap64 x) (wrap64 y) n (j : Int) = corebankref21_Turnover.j3 k l a b v (wrap64 x) (wrap64 y) n (j : Int) (decide ((rd_T39 (rd_T36 l n).f8 j).f1 > 0)) (rd_T39 (rd_T36 l n).f8 j).f0 (rd_T39 (rd_T36 l n).f8 j).f1 (rd_T39 (rd_T36 l n).f8 j).f2 := fun k => by
                simp only [corebankref21_Turnover.l1]; rw [if_pos (by omega), if_pos (by omega), if_pos (by omega), if_pos (by omega), if_pos g1]
              rw [if_pos g1, if_pos g1]
              generalize rd_T39 (rd_T36 l n).f8 j = z at *
              by_cases g2 : z.f1 > 0
              · have h := ih' (j + 1) (x + z.f1) y (by omega)
                rw [pos, neg, if_pos g2, if_pos g2, Int.zero_add, show x + (z.f1 + lsum pos a (List.drop (j + 1) (rd_T36 l n).f8) + esum (in36 b v) pos a (List.drop (n + 1) l)) = x + z.f1 + (lsum pos a (List.drop (j + 1) (rd_T36 l n).f8) + esum (in36 b v) pos a (List.drop (n + 1) l)) by omega]
                refine Ev.step h1 (Ev.step (fun k => ?_) h)
                simp only [corebankref21_Turnover.j3]; rw [decide_eq_true g2, if_pos rfl, if_pos g1, if_neg (by omega), wn (by omega), ww_add]
              · have h := ih' (j + 1) x (y - z.f1) (by omega)
                rw [pos, neg, if_neg g2, if_neg g2, Int.zero_add, show y - (z.f1 + lsum neg a (List.drop (j + 1) (rd_T36 l n).f8) + esum (in36 b v) neg a (List.drop (n + 1) l)) = y - z.f1 - (lsum neg a (List.drop (j + 1) (rd_T36 l n).f8) + esum (in36 b v) neg a (List.drop (n + 1) l)) by omega]
                refine Ev.step h1 (Ev.step (fun k => ?_) h)
                simp only [corebankref21_Turnover.j3]; rw [decide_eq_false g2, if_neg (by simp), if_pos g1]
                by_cases g3 : z.f1 < 0
                · rw [if_pos g3, wn (by omega), ww_sub]
                · rw [if_neg g3, wn (by omega), show y - z.f1 = y by omega]
            · rw [if_neg g1, if_neg g1, Int.zero_add, Int.zero_add]
              refine Ev.step (f := fun k => corebankref21_Turnover.j3 k l a b v (wrap64 x) (wrap64 y) n (j : Int) false (rd_T39 (rd_T36 l n).f8 j).f0 (rd_T39 (rd_T36 l n).f8 j).f1 (rd_T39 (rd_T36 l n).f8 j).f2) (fun k => ?_) (Ev.step (fun k => ?_) (ih' (j + 1) x y (by omega)))
              · simp only [corebankref21_Turnover.l1]; rw [if_pos (by omega), if_pos (by omega), if_pos (by omega), if_pos (by omega), if_neg g1]
              · simp only [corebankref21_Turnover.j3]; rw [if_neg (by simp), if_neg g1, wn (by omega)]
        have h := hin (rd_T36 l n).f8.length 0 x y (by omega)
        rw [List.drop_zero] at h
        refine Ev.step (f := fun k => corebankref21_Turnover.j1 k l a b v (wrap64 x) (wrap64 y) n false) (fun k => ?_) (Ev.step (fun k => ?_) h)
        · simp only [corebankref21_Turnover.l0]; rw [if_pos (by omega), if_pos (by omega), if_neg (by omega), decide_eq_false (by omega)]
        · simp only [corebankref21_Turnover.j1]; rw [if_neg (by simp)]; rfl
  have h := this l.length 0 0 0 (by omega)
  rw [List.drop_zero, ww0, Int.zero_sub, Int.zero_add] at h
  exact h
theorem sums_ (l : List S36) (a b v : Int) : ∃ k, corebanklaw21_BalanceSums.f k l a b v = some true := by
  obtain ⟨c, ⟨K0, k0⟩, hf⟩ := few_ev l
  obtain ⟨K5, k5⟩ := live_ev
  refine Ev.rounds ?_
  dsimp only at k0 k5
  cases c with
  | false =>
    refine ⟨K0 + K5, fun k hk => ?_⟩
    simp only [corebanklaw21_BalanceSums.f]
    rw [k0 k (by omega), Option.bind_some, if_neg (by simp), k5 k (by omega), Option.bind_some]
  | true =>
    have hF := hf rfl
    have hJ := okJ_few hF
    obtain ⟨K1, k1⟩ := rturn_ev l a b v hF
    obtain ⟨K2, k2⟩ := rof_ev l a hF
    obtain ⟨K3, k3⟩ := rat_ev l a b v hF
    dsimp only at k1 k2 k3
    refine ⟨K0 + K1 + K2 + K3 + K5, fun k hk => ?_⟩
    simp only [corebanklaw21_BalanceSums.f]
    rw [k0 k (by omega), Option.bind_some, if_pos rfl, Turnover_f hJ, Option.bind_some, k1 k (by omega), Option.bind_some, Of_f hJ, Option.bind_some, k2 k (by omega), Option.bind_some, if_pos rfl, At_f hJ, Option.bind_some, k3 k (by omega), Option.bind_some, if_pos rfl, if_pos rfl, if_pos rfl, k5 k (by omega), Option.bind_some]
end Go.Proofs.Ytnilmhhidmdlnaa.Pl
