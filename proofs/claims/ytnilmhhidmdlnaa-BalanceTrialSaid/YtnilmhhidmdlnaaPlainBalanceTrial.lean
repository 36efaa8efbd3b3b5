/- The plain law of BalanceTrial: the reference's list is the trial balance. -/
import Derived.Test.YtnilmhhidmdlnaaPAx18
import Derived.Test.YtnilmhhidmdlnaaPl
namespace Go.Proofs.Ytnilmhhidmdlnaa.Pl
open Go Go.RowKit Go.Proofs.Ytnilmhhidmdlnaa.PA Go.Proofs.YtnilmhhidmdlnaaW.PrintWords
set_option linter.unusedVariables false
set_option linter.unusedSimpArgs false

theorem less_f (x y : S39) : corebankref21_less.f x.f0 x.f1 x.f2 y.f0 y.f1 y.f2 = some (lessB x y) := by
  unfold corebankref21_less.f lessB
  by_cases h1 : x.f0 < y.f0
  · simp [h1]
  · by_cases h2 : x.f0 = y.f0
    · simp [h1, h2]
    · simp [h1, h2]
theorem ins_ok (l : List S39) (n : Nat) (hn : n ≤ l.length) (hl : l.length ≤ 1000000) (x0 x1 : Int) (x2 : ByteArray) :
    ((some (([] : List (S39)) : List (S39))).bind fun y395 => (if (n : Int) ≤ (l.length : Int) then ((some (l.take (n : Int).toNat : List (S39))).bind fun y398 => (if y395.length + y398.length < 4398046511104 then ((some (y395 ++ y398 : List (S39))).bind fun y402 => (if y402.length < 4398046511104 then ((some (y402 ++ [(⟨x0, x1, x2⟩ : S39)] : List (S39))).bind fun y405 => ((some (l.drop (n : Int).toNat : List (S39))).bind fun y408 => (if y405.length + y408.length < 4398046511104 then (some (y405 ++ y408)) else (none)))) else (none))) else (none))) else (none))) = some (l.take n ++ ⟨x0, x1, x2⟩ :: l.drop n) := by
  simp only [Option.bind_some, Int.toNat_natCast]
  rw [if_pos (by omega), if_pos (by simp; omega), if_pos (by simp; omega), if_pos (by simp; omega)]
  simp
theorem add_ev (l : List S39) (x : S39) (hl : l.length ≤ 1000000) : Ev (fun k => corebankref21_add.f k l x.f0 x.f1 x.f2) (addL l x) := by
  have : ∀ (d n : Nat), n + d = l.length → Ev (fun k => corebankref21_add.l0 k l (n : Int) x.f0 x.f1 x.f2) (l.take n ++ addL (l.drop n) x) := by
    intro d
    induction d with
    | zero =>
      intro n hn
      refine Ev.step (fun k => ?_) (Ev.now _)
      have h := ins_ok l n (by omega) hl x.f0 x.f1 x.f2
      simp only [corebankref21_add.l0]
      rw [if_neg (by omega)]
      simp only [Option.bind_some, Int.toNat_natCast]
      rw [if_pos (by omega), if_pos (by omega), if_pos (by simp; omega), if_pos (by simp; omega), if_pos (by simp; omega), List.drop_of_length_le (show l.length ≤ n by omega)]
      simp [addL]
    | succ d ih =>
      intro n hn
      have hlt : n < l.length := by omega
      have hd := drop39 hlt
      have ht : l.take (n + 1) = l.take n ++ [rd_T39 l (n : Int)] := by rw [List.take_add_one, rd39_at hlt]; simp [hlt]
      by_cases c1 : lessB (rd_T39 l n) x = true
      · have h := ih (n + 1) (by omega)
        rw [ht, List.append_assoc] at h
        have e : addL (l.drop n) x = [rd_T39 l (n : Int)] ++ addL (l.drop (n + 1)) x := by rw [hd, addL, if_pos c1]; rfl
        rw [e]
        refine Ev.step (fun k => ?_) h
        simp only [corebankref21_add.l0]
        rw [if_pos (by omega), if_pos (by omega), less_f, Option.bind_some, if_pos c1, wn (by omega)]
      · by_cases c2 : lessB x (rd_T39 l n) = true
        · have e : addL (l.drop n) x = x :: l.drop n := by rw [hd, addL, if_neg c1, if_pos c2]
          rw [e]
          refine Ev.step (fun k => ?_) (Ev.now _)
          have h := ins_ok l n (by omega) hl x.f0 x.f1 x.f2
          simp only [corebankref21_add.l0]
          rw [if_pos (by omega), if_pos (by omega), less_f, Option.bind_some, if_neg c1, less_f x (rd_T39 l n), Option.bind_some, if_pos c2, h]
        · have e : addL (l.drop n) x = ⟨(rd_T39 l n).f0, wrap64 ((rd_T39 l n).f1 + x.f1), (rd_T39 l n).f2⟩ :: l.drop (n + 1) := by rw [hd, addL, if_neg c1, if_neg c2]
          rw [e]
          refine Ev.step (fun k => ?_) (Ev.now _)
          simp only [corebankref21_add.l0]
          rw [if_pos (by omega), if_pos (by omega), less_f, Option.bind_some, if_neg c1, less_f x (rd_T39 l n), Option.bind_some, if_neg c2, Int.toNat_natCast, List.set_eq_take_append_cons_drop, if_pos hlt]
  have h := this l.length 0 (by omega)
  simp only [List.take_zero, List.nil_append, List.drop_zero] at h
  exact h
theorem addL_len (l : List S39) (x : S39) : (addL l x).length ≤ l.length + 1 := by
  induction l with
  | nil => simp [addL]
  | cons y r ih =>
    unfold addL
    split
    · simp; omega
    · split <;> simp
theorem putAll_len (xs : List S39) : (putAll xs).length ≤ xs.length := by
  have : ∀ (xs l : List S39), (xs.foldl addL l).length ≤ l.length + xs.length := by
    intro xs
    induction xs with
    | nil => intro l; simp
    | cons x r ih =>
      intro l
      have h1 := ih (addL l x)
      have h2 := addL_len l x
      simp only [List.foldl_cons, List.length_cons]
      omega
  have := this xs []
  simpa [putAll] using this
theorem take39_succ {ys : List S39} {j : Nat} (h : j < ys.length) : ys.take (j + 1) = ys.take j ++ [rd_T39 ys (j : Int)] := by rw [List.take_add_one, rd39_at h]; simp [h]
theorem keep_ev (xs : List S39) (hl : xs.length ≤ 1000000) : ∀ (d n : Nat) (acc : List S39), n + d = xs.length → acc.length ≤ n → Ev (fun k => corebankref21_Trial.l2 k xs acc (n : Int)) (acc ++ (xs.drop n).filter fun x => decide (¬ x.f1 = 0)) := by
  intro d
  induction d with
  | zero =>
    intro n acc hn ha
    rw [List.drop_of_length_le (by omega)]
    refine Ev.step (fun k => ?_) (Ev.now _)
    simp only [corebankref21_Trial.l2]; rw [if_neg (by omega)]; simp
  | succ d ih =>
    intro n acc hn ha
    rw [drop39 (show n < xs.length by omega)]
    by_cases g : (rd_T39 xs n).f1 = 0
    · have h := ih (n + 1) acc (by omega) (by omega)
      rw [List.filter_cons_of_neg (by simp [g])]
      refine Ev.step (fun k => ?_) h
      simp only [corebankref21_Trial.l2]; rw [if_pos (by omega), if_pos (by omega), if_pos g, wn (by omega)]
    · have h := ih (n + 1) (acc ++ [⟨(rd_T39 xs n).f0, (rd_T39 xs n).f1, (rd_T39 xs n).f2⟩]) (by omega) (by simp; omega)
      rw [List.filter_cons_of_pos (by simp [g]), show acc ++ rd_T39 xs (n : Int) :: List.filter (fun x => decide (¬ x.f1 = 0)) (xs.drop (n + 1)) = (acc ++ [⟨(rd_T39 xs n).f0, (rd_T39 xs n).f1, (rd_T39 xs n).f2⟩]) ++ List.filter (fun x => decide (¬ x.f1 = 0)) (xs.drop (n + 1)) by simp]
      refine Ev.step (fun k => ?_) h
      simp only [corebankref21_Trial.l2]; rw [if_pos (by omega), if_pos (by omega), if_neg g, if_pos (by omega), wn (by omega)]
theorem rtrial_ev (l : List S36) (hf : Few l) : Ev (fun k => corebankref21_Trial.f k l) (trialL l) := by
  have hlen := legs_few hf.2
  have h1 := hf.1
  have hput : ∀ xs : List S39, xs.length ≤ 2000 → (putAll xs).length ≤ 1000000 := fun xs hx => by have := putAll_len xs; omega
  have hlen' : (legs l).length ≤ 2000 := by omega
  have : ∀ (d n : Nat), n + d = l.length → Ev (fun k => corebankref21_Trial.l0 k l (putAll (legs (l.take n))) (n : Int)) (trialL l) := by
    intro d
    induction d with
    | zero =>
      intro n hn
      have hk := keep_ev (putAll (legs l)) (hput _ hlen') (putAll (legs l)).length 0 [] (by omega) (by simp)
      rw [List.take_of_length_le (by omega)]
      refine Ev.step (fun k => ?_) (by simpa [trialL] using hk)
      simp only [corebankref21_Trial.l0]; rw [if_neg (by omega)]
    | succ d ih =>
      intro n hn
      have hlt : n < l.length := by omega
      have h20 : (rd_T36 l n).f8.length ≤ 20 := by rw [rd36_at hlt]; exact hf.2 _ (List.getElem_mem hlt)
      have hin : ∀ (d' j : Nat), j + d' = (rd_T36 l n).f8.length → Ev (fun k => corebankref21_Trial.l1 k l (putAll (legs (l.take n) ++ (rd_T36 l n).f8.take j)) (n : Int) (j : Int)) (trialL l) := by
        intro d'
        induction d' with
        | zero =>
          intro j hj
          have h := ih (n + 1) (by omega)
          rw [legs_take l n hlt] at h
          rw [List.take_of_length_le (show (rd_T36 l n).f8.length ≤ j by omega)]
          refine Ev.step (fun k => ?_) h
          simp only [corebankref21_Trial.l1]; rw [if_pos (by omega), if_pos (by omega), if_neg (by omega), wn (by omega)]
        | succ d' ih' =>
          intro j hj
          have hjl : j < (rd_T36 l n).f8.length := by omega
          have h := ih' (j + 1) (by omega)
          rw [take39_succ hjl, ← List.append_assoc, putAll_snoc] at h
          have hle : (legs (l.take n) ++ (rd_T36 l n).f8.take j).length ≤ 2000 := by
            obtain ⟨r, hr⟩ := legs_pre l n j hlt
            rw [hr] at hlen'
            rw [List.length_append] at hlen'
            omega
          obtain ⟨K1, k1⟩ := add_ev (putAll (legs (l.take n) ++ (rd_T36 l n).f8.take j)) (rd_T39 (rd_T36 l n).f8 j) (hput _ hle)
          obtain ⟨K2, k2⟩ := h
          refine ⟨K1 + K2 + 1, fun k hk => ?_⟩
          obtain ⟨m, rfl⟩ : ∃ m, k = m + 1 := ⟨k - 1, by omega⟩
          simp only [corebankref21_Trial.l1]
          rw [if_pos (by omega), if_pos (by omega), if_pos (by omega), if_pos (by omega)]
          dsimp only at k1 k2
          rw [k1 m (by omega), Option.bind_some, wn (by omega), k2 m (by omega)]
      have h := hin (rd_T36 l n).f8.length 0 (by omega)
      rw [List.take_zero, List.append_nil] at h
      refine Ev.step (fun k => ?_) h
      simp only [corebankref21_Trial.l0]; rw [if_pos (by omega)]; rfl
  have h := this l.length 0 (by omega)
  rw [List.take_zero] at h
  exact h
theorem trial_len (l : List S36) : (trialL l).length ≤ (legs l).length := Nat.le_trans (List.length_filter_le _ _) (putAll_len _)
theorem trial_ (l : List S36) (hq : ∀ e ∈ l, okE e) : ∃ k, corebanklaw21_BalanceTrial.f k l = some true := by
  obtain ⟨b, ⟨K0, k0⟩, hf⟩ := few_ev l
  obtain ⟨K5, k5⟩ := live_ev
  refine Ev.rounds ?_
  dsimp only at k0 k5
  cases b with
  | false =>
    refine ⟨K0 + K5, fun k hk => ?_⟩
    simp only [corebanklaw21_BalanceTrial.f]
    rw [k0 k (by omega), Option.bind_some, if_neg (by simp), k5 k (by omega), Option.bind_some]
  | true =>
    have hF := hf rfl
    have h1 := legs_few hF.2
    have h2 := hF.1
    obtain ⟨K1, k1⟩ := rtrial_ev l hF
    obtain ⟨K2, k2⟩ := legs_self (trialL l) (by have := trial_len l; omega)
    dsimp only at k1 k2
    refine ⟨K0 + K1 + K2 + K5, fun k hk => ?_⟩
    simp only [corebanklaw21_BalanceTrial.f]
    rw [k0 k (by omega), Option.bind_some, if_pos rfl, show balance_Trial.f l = some (trialL l) from if_pos (okT_few hF hq), Option.bind_some, k1 k (by omega), Option.bind_some, k2 k (by omega), Option.bind_some, if_pos rfl, k5 k (by omega), Option.bind_some]
end Go.Proofs.Ytnilmhhidmdlnaa.Pl
