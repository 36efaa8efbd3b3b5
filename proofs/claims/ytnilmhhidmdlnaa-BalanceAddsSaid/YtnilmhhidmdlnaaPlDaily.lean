/- Plain: the balances of the days: the program's running sums are the reference's. -/
import Derived.Test.YtnilmhhidmdlnaaPAx12
import Derived.Test.YtnilmhhidmdlnaaNum
namespace Go.Proofs.Ytnilmhhidmdlnaa.Pl
open Go Go.RowKit Go.Proofs.Ytnilmhhidmdlnaa.PA Go.Proofs.YtnilmhhidmdlnaaW.PrintWords
set_option linter.unusedVariables false
set_option linter.unusedSimpArgs false

/-- The entries with a value up to a day. -/
def by36 (v : Int) (e : S36) : Bool := decide (e.f2 ≤ v)
/-- The balances of m days from a2 on. -/
def dayL (l : List S36) (a a2 : Int) (m : Nat) : List Int := (List.range m).map fun (d : Nat) => wrap64 (-(esum (by36 (a2 + (d : Int))) all a l))
/-- The sum of the first d + 1 places. -/
def csum : List Int → Nat → Int
  | [], _ => 0
  | x :: r, 0 => x
  | x :: r, d + 1 => x + csum r d
theorem csum_set (xs : List Int) (i d : Nat) (v : Int) (h : i < xs.length) : csum (xs.set i v) d = if i ≤ d then csum xs d - xs.getD i 0 + v else csum xs d := by
  induction xs generalizing i d with
  | nil => simp at h
  | cons x r ih =>
    cases i with
    | zero => cases d <;> simp [csum] <;> omega
    | succ i =>
      cases d with
      | zero => simp [csum]
      | succ d =>
        simp only [List.set_cons_succ, csum, List.getD_cons_succ]
        rw [ih i d (by simpa using h)]
        by_cases c : i ≤ d
        · rw [if_pos c, if_pos (by omega)]; omega
        · rw [if_neg c, if_neg (by omega)]
theorem csum_zero (n d : Nat) : csum (List.replicate n 0) d = 0 := by
  induction n generalizing d with
  | zero => rfl
  | succ n ih =>
    rw [List.replicate_succ]
    cases d with
    | zero => rfl
    | succ d => rw [csum, ih]; rfl
theorem csum_succ (xs : List Int) (d : Nat) (h : d + 1 < xs.length) : csum xs (d + 1) = csum xs d + xs.getD (d + 1) 0 := by
  induction xs generalizing d with
  | nil => simp at h
  | cons x r ih =>
    cases d with
    | zero =>
      cases r with
      | nil => simp at h
      | cons y r => simp [csum]
    | succ d =>
      have := ih d (by simpa using h)
      simp only [csum, List.getD_cons_succ] at this ⊢
      omega
theorem rd_getD (xs : List Int) (i : Int) : rd xs i = xs.getD i.toNat 0 := rfl
/-- The movements up to a day. -/
def msum (v : Int) : List (S36 × Int) → Int
  | [] => 0
  | p :: r => (if p.1.f2 ≤ v then p.2 else 0) + msum v r
theorem msum_app (v : Int) (l m : List (S36 × Int)) : msum v (l ++ m) = msum v l + msum v m := by
  induction l with
  | nil => simp [msum]
  | cons y r ih => simp only [List.cons_append, msum, ih]; omega
theorem msum_moves (v : Int) (l : List S36) (a : Int) : msum v (moves l a) = esum (by36 v) all a l := by
  induction l with
  | nil => rfl
  | cons e r ih =>
    rw [moves_cons, msum_app, ih, esum]
    congr 1
    unfold em
    generalize e.f8 = ys
    induction ys with
    | nil => simp [msum, lsum]
    | cons y t it =>
      rw [List.flatMap_cons, msum_app, it, lsum]
      by_cases c : y.f0 = a
      · by_cases d : e.f2 ≤ v
        · simp [c, d, msum, by36, all]
        · simp [c, d, msum, by36]
      · by_cases d : e.f2 ≤ v
        · simp [c, d, msum, by36]
        · simp [c, d, msum, by36]
theorem mx_le (a b c : Int) : mx a b ≤ c ↔ a ≤ c ∧ b ≤ c := by unfold mx; split <;> omega
theorem mx_ge (a b : Int) : a ≤ mx a b := by unfold mx; split <;> omega
/-- What the loop over the movements leaves. -/
theorem da_fold (a2 a3 : Int) (h2 : 0 ≤ a2) (h23 : a2 ≤ a3) (h3 : a3 ≤ 73048) (m : Nat) (hm : (m : Int) = a3 - a2 + 1) (ps : List (S36 × Int)) : ∀ xs : List Int, xs.length = m → (∀ x ∈ xs, wrap64 x = x) →
    (ps.foldl (da1 a2 a3) xs).length = m ∧ (∀ x ∈ ps.foldl (da1 a2 a3) xs, wrap64 x = x) ∧ ∀ d, d < m → wrap64 (csum (ps.foldl (da1 a2 a3) xs) d) = wrap64 (csum xs d - msum (a2 + d) ps) := by
  induction ps with
  | nil => exact fun xs hl hw => ⟨hl, hw, fun d _ => by simp [msum]⟩
  | cons p r ih =>
    intro xs hl hw
    rw [List.foldl_cons]
    by_cases c : p.1.f2 ≤ a3
    · have hge := mx_ge a2 p.1.f2
      have hle : mx a2 p.1.f2 ≤ a3 := (mx_le _ _ _).2 ⟨h23, c⟩
      have hw0 : wrap64 (mx a2 p.1.f2 - a2) = mx a2 p.1.f2 - a2 := by unfold wrap64; omega
      obtain ⟨i, hi⟩ : ∃ i : Nat, mx a2 p.1.f2 - a2 = (i : Int) := ⟨(mx a2 p.1.f2 - a2).toNat, by omega⟩
      have hil : i < xs.length := by omega
      have hda : da1 a2 a3 xs p = xs.set i (wrap64 (xs.getD i 0 - p.2)) := by
        unfold da1
        rw [if_pos c, hw0, hi, rd_getD, Int.toNat_natCast]
      rw [hda]
      obtain ⟨h1, h2', h3'⟩ := ih (xs.set i (wrap64 (xs.getD i 0 - p.2))) (by simpa using hl) (fun x hx => by
        rcases List.mem_or_eq_of_mem_set hx with hx | rfl
        · exact hw x hx
        · exact ww _)
      refine ⟨h1, h2', fun d hd => ?_⟩
      rw [h3' d hd, csum_set _ _ _ _ hil, msum]
      by_cases e : i ≤ d
      · have : p.1.f2 ≤ a2 + d := by
          have := (mx_le a2 p.1.f2 (a2 + d)).1 (by omega)
          exact this.2
        rw [if_pos e, if_pos this]
        unfold wrap64
        omega
      · have : ¬ p.1.f2 ≤ a2 + d := fun h => by
          have := (mx_le a2 p.1.f2 (a2 + d)).2 ⟨by omega, h⟩
          omega
        rw [if_neg e, if_neg this]
        congr 1
        omega
    · have hda : da1 a2 a3 xs p = xs := by unfold da1; rw [if_neg c]
      rw [hda]
      obtain ⟨h1, h2', h3'⟩ := ih xs hl hw
      refine ⟨h1, h2', fun d hd => ?_⟩
      rw [h3' d hd, msum, if_neg (by omega), Int.zero_add]
/-- The running sums. -/
theorem acc_get (xs : List Int) (hw : ∀ x ∈ xs, wrap64 x = x) : ∀ n : Nat, n < xs.length → (∀ d, d ≤ n → (accD xs n).getD d 0 = wrap64 (csum xs d)) ∧ ∀ d, n < d → (accD xs n).getD d 0 = xs.getD d 0 := by
  intro n
  induction n with
  | zero =>
    intro h
    refine ⟨fun d hd => ?_, fun d _ => rfl⟩
    obtain rfl : d = 0 := by omega
    cases xs with
    | nil => simp at h
    | cons x r => exact (hw x (by simp)).symm
  | succ n ih =>
    intro h
    obtain ⟨h1, h2⟩ := ih (by omega)
    have hl := accD_len xs n
    have e : accD xs (n + 1) = (accD xs n).set (n + 1) (wrap64 (csum xs (n + 1))) := by
      rw [accD, rd_getD, rd_getD, Int.toNat_natCast, Int.toNat_natCast, h1 n (Nat.le_refl _), h2 (n + 1) (by omega), csum_succ _ _ h]
      congr 1
      unfold wrap64
      omega
    rw [e]
    refine ⟨fun d hd => ?_, fun d hd => ?_⟩
    · by_cases c : d = n + 1
      · subst c
        simp [List.getD_eq_getElem?_getD, hl, h]
      · rw [List.getD_eq_getElem?_getD, List.getElem?_set_ne (by omega), ← List.getD_eq_getElem?_getD]
        exact h1 d (by omega)
    · rw [List.getD_eq_getElem?_getD, List.getElem?_set_ne (by omega), ← List.getD_eq_getElem?_getD]
      exact h2 d (by omega)
theorem getD_ext {xs ys : List Int} (h : xs.length = ys.length) (h' : ∀ d, d < xs.length → xs.getD d 0 = ys.getD d 0) : xs = ys := by
  apply List.ext_getElem h
  intro i h1 h2
  have := h' i h1
  simpa [List.getD_eq_getElem?_getD, h1, h2] using this
theorem dayL_len (l : List S36) (a a2 : Int) (m : Nat) : (dayL l a a2 m).length = m := by simp [dayL]
theorem dayL_get (l : List S36) (a a2 : Int) (m d : Nat) (h : d < m) : (dayL l a a2 m).getD d 0 = wrap64 (-(esum (by36 (a2 + d)) all a l)) := by
  simp [dayL, List.getD_eq_getElem?_getD, h]
theorem daF_eq (l : List S36) (a a2 a3 : Int) (h2 : 0 ≤ a2) (h23 : a2 ≤ a3) (h3 : a3 ≤ 73048) : daF l a a2 a3 = dayL l a a2 (a3 - a2 + 1).toNat := by
  obtain ⟨m, hm⟩ : ∃ m : Nat, a3 - a2 = (m : Int) := ⟨(a3 - a2).toNat, by omega⟩
  have hm1 : (a3 - a2 + 1).toNat = m + 1 := by omega
  have hm2 : (a3 - a2).toNat = m := by omega
  unfold daF
  rw [hm1, hm2]
  obtain ⟨h4, h5, h6⟩ := da_fold a2 a3 h2 h23 h3 (m + 1) (by omega) (moves l a) (List.replicate (m + 1) 0) (by simp) (fun x hx => by rw [List.eq_of_mem_replicate hx]; exact ww0)
  generalize (moves l a).foldl (da1 a2 a3) (List.replicate (m + 1) 0) = xs at *
  apply getD_ext
  · rw [accD_len, h4, dayL_len]
  · intro d hd
    rw [accD_len, h4] at hd
    rw [(acc_get xs h5 m (by omega)).1 d (by omega), h6 d hd, csum_zero, dayL_get _ _ _ _ _ hd, msum_moves, Int.zero_sub]
theorem bad_iff (a2 a3 : Int) : daBad a2 a3 = true ↔ (a2 < 0 ∨ a3 > 73048 ∨ a2 > a3 ∨ wrap64 (a3 - a2) ≥ 4000) := by
  unfold daBad
  simp only [Bool.or_eq_true, Bool.not_eq_true', Bool.and_eq_false_iff, decide_eq_true_eq, decide_eq_false_iff_not]
  omega
/-- What Daily gives. -/
def dailyL (l : List S36) (a a2 a3 : Int) : List Int := if daBad a2 a3 = true then [] else dayL l a a2 (a3 - a2 + 1).toNat
theorem Daily_f {l : List S36} (h : okJ l = true) (a a2 a3 : Int) : balance_Daily.f l a a2 a3 = some (dailyL l a a2 a3) := by
  unfold balance_Daily.f dailyL
  rw [if_pos h]
  by_cases c : daBad a2 a3 = true
  · rw [if_pos c, if_pos c]
  · rw [if_neg c, if_neg c]
    have hc : ¬ (a2 < 0 ∨ a3 > 73048 ∨ a2 > a3 ∨ wrap64 (a3 - a2) ≥ 4000) := fun h => c ((bad_iff _ _).2 h)
    rw [daF_eq l a a2 a3 (by omega) (by omega) (by omega)]
/-! the reference -/
theorem set_range (f : Nat → Int) (m j : Nat) (v : Int) : ((List.range m).map f).set j v = (List.range m).map fun d => if d = j then v else f d := by
  apply List.ext_getElem
  · simp
  · intro i h1 h2
    simp only [List.getElem_set, List.getElem_map, List.getElem_range]
    by_cases c : j = i
    · rw [if_pos c, if_pos c.symm]
    · rw [if_neg c, if_neg (fun e => c e.symm)]
theorem map_range_congr {f g : Nat → Int} {m : Nat} (h : ∀ d, d < m → f d = g d) : (List.range m).map f = (List.range m).map g := List.map_congr_left fun d hd => h d (List.mem_range.1 hd)
theorem rdaily_ev (l : List S36) (a a2 a3 : Int) (hf : Few l) : Ev (fun k => corebankref21_Daily.f k l a a2 a3) (dailyL l a a2 a3) := by
  have h100 := hf.1
  unfold dailyL
  by_cases c : daBad a2 a3 = true
  · rw [if_pos c]
    have hj : ∀ k, corebankref21_Daily.f k l a a2 a3 = corebankref21_Daily.j0 k l a a2 a3 true := fun k => by
      have hc := (bad_iff _ _).1 c
      unfold corebankref21_Daily.f
      by_cases g1 : a2 < 0
      · rw [if_pos g1]
      · by_cases g2 : a3 > 73048
        · rw [if_neg g1, if_pos g2]
        · by_cases g3 : a2 > a3
          · rw [if_neg g1, if_neg g2, if_pos g3]
          · rw [if_neg g1, if_neg g2, if_neg g3, decide_eq_true (by omega)]
    refine Ev.congr hj (Ev.step (fun k => ?_) (Ev.now _))
    simp only [corebankref21_Daily.j0]; rw [if_pos trivial]
  · rw [if_neg c]
    have hc : ¬ (a2 < 0 ∨ a3 > 73048 ∨ a2 > a3 ∨ wrap64 (a3 - a2) ≥ 4000) := fun h => c ((bad_iff _ _).2 h)
    have hw0 : wrap64 (a3 - a2) = a3 - a2 := by unfold wrap64; omega
    rw [hw0] at hc
    obtain ⟨m, hm⟩ : ∃ m : Nat, a3 - a2 + 1 = (m : Int) := ⟨(a3 - a2 + 1).toNat, by omega⟩
    have hm1 : (a3 - a2 + 1).toNat = m := by omega
    have hm2 : wrap64 (a3 - a2 + 1) = (m : Int) := by unfold wrap64; omega
    rw [hm1]
    have hout : ∀ (d n : Nat) (F : Nat → Int), n + d = l.length → Ev (fun k => corebankref21_Daily.l0 k l a a2 a3 ((List.range m).map fun d => wrap64 (F d)) (n : Int)) ((List.range m).map fun d => wrap64 (F d - esum (by36 (a2 + d)) all a (l.drop n))) := by
      intro d
      induction d with
      | zero =>
        intro n F hn
        rw [List.drop_of_length_le (by omega)]
        refine Ev.step (fun k => ?_) (Ev.now _)
        simp only [corebankref21_Daily.l0]; rw [if_neg (by omega)]; simp [esum]
      | succ d ih =>
        intro n F hn
        have hlt : n < l.length := by omega
        have h20 : (rd_T36 l n).f8.length ≤ 20 := by rw [rd36_at hlt]; exact hf.2 _ (List.getElem_mem hlt)
        rw [drop36 hlt]
        obtain ⟨K1, k1⟩ := moved_ev (rd_T36 l n) a h20
        obtain ⟨nn, hnn⟩ : ∃ nn, -(lsum all a (rd_T36 l n).f8) = nn := ⟨_, rfl⟩
        rw [hnn] at k1
        obtain ⟨i0, hi0⟩ : ∃ i0 : Nat, mx a2 (rd_T36 l n).f2 - a2 = (i0 : Int) := ⟨(mx a2 (rd_T36 l n).f2 - a2).toNat, by have := mx_ge a2 (rd_T36 l n).f2; omega⟩
        have hby : ∀ d : Nat, by36 (a2 + d) (rd_T36 l n) = true ↔ i0 ≤ d := fun d => by
          unfold by36
          rw [decide_eq_true_eq]
          have := mx_le a2 (rd_T36 l n).f2 (a2 + d)
          constructor
          · intro h
            have := this.2 ⟨by omega, h⟩
            omega
          · intro h
            exact (this.1 (by omega)).2
        have hin : ∀ (d' j : Nat) (F : Nat → Int), j + d' = m → Ev (fun k => corebankref21_Daily.l1 k l a a2 a3 ((List.range m).map fun d => wrap64 (F d)) (n : Int) (wrap64 nn) (a2 + (j : Int))) ((List.range m).map fun d => wrap64 ((F d + if j ≤ d then nn else 0) - esum (by36 (a2 + d)) all a (l.drop (n + 1)))) := by
          intro d'
          induction d' with
          | zero =>
            intro j F hj
            have h := ih (n + 1) F (by omega)
            rw [map_range_congr (f := fun (d : Nat) => wrap64 ((F d + if j ≤ d then nn else 0) - esum (by36 (a2 + (d : Int))) all a (l.drop (n + 1)))) (g := fun (d : Nat) => wrap64 (F d - esum (by36 (a2 + (d : Int))) all a (l.drop (n + 1)))) (fun d hd => by rw [if_neg (by omega), Int.add_zero])]
            refine Ev.step (fun k => ?_) h
            simp only [corebankref21_Daily.l1]; rw [if_neg (by omega), wn (by omega)]
          | succ d' ih' =>
            intro j F hj
            by_cases g : wrap64 nn = 0
            · have h := ih (n + 1) F (by omega)
              rw [map_range_congr (f := fun (d : Nat) => wrap64 ((F d + if j ≤ d then nn else 0) - esum (by36 (a2 + (d : Int))) all a (l.drop (n + 1)))) (g := fun (d : Nat) => wrap64 (F d - esum (by36 (a2 + (d : Int))) all a (l.drop (n + 1)))) (fun d hd => by
                split
                · unfold wrap64 at g ⊢; omega
                · rw [Int.add_zero])]
              refine Ev.step (fun k => ?_) h
              simp only [corebankref21_Daily.l1]; rw [if_pos (by omega), if_pos g, wn (by omega)]
            · have h := ih' (j + 1) (fun d => if d = j then F j + nn else F d) (by omega)
              rw [map_range_congr (f := fun (d : Nat) => wrap64 ((F d + if j ≤ d then nn else 0) - esum (by36 (a2 + (d : Int))) all a (l.drop (n + 1)))) (g := fun (d : Nat) => wrap64 (((if d = j then F j + nn else F d) + if j + 1 ≤ d then nn else 0) - esum (by36 (a2 + (d : Int))) all a (l.drop (n + 1)))) (fun d hd => by
                by_cases e1 : d = j
                · subst e1; rw [if_pos (Nat.le_refl _), if_pos rfl, if_neg (by omega), Int.add_zero]
                · by_cases e2 : j ≤ d
                  · rw [if_pos e2, if_neg e1, if_pos (by omega)]
                  · rw [if_neg e2, if_neg e1, if_neg (by omega)])]
              refine Ev.step (fun k => ?_) h
              have hj1 : wrap64 (a2 + (j : Int) - a2) = (j : Int) := by unfold wrap64; omega
              have hj2 : wrap64 (a2 + (j : Int) + 1) = a2 + ((j + 1 : Nat) : Int) := by unfold wrap64; omega
              have hg : rd ((List.range m).map fun d => wrap64 (F d)) (j : Int) = wrap64 (F j) := by
                rw [rd_getD, Int.toNat_natCast]
                simp [List.getD_eq_getElem?_getD, show j < m by omega]
              simp only [corebankref21_Daily.l1]
              rw [if_pos (by omega), if_neg g, hj1, if_pos (by omega), if_pos (by simp; omega), hj2, hg, ww2, Int.toNat_natCast, set_range]
              congr 1
              exact map_range_congr (fun d _ => by split <;> rfl)
        by_cases hi : i0 ≤ m
        · obtain ⟨K2, k2⟩ := hin (m - i0) i0 F (by omega)
          rw [map_range_congr (f := fun (d : Nat) => wrap64 (F d - esum (by36 (a2 + (d : Int))) all a (rd_T36 l (n : Int) :: l.drop (n + 1)))) (g := fun (d : Nat) => wrap64 ((F d + if i0 ≤ d then nn else 0) - esum (by36 (a2 + (d : Int))) all a (l.drop (n + 1)))) (fun d hd => by
            rw [esum]
            by_cases e : i0 ≤ d
            · rw [if_pos ((hby d).2 e), if_pos e]; congr 1; omega
            · rw [if_neg (fun h => e ((hby d).1 h)), if_neg e]; congr 1; omega)]
          dsimp only at k1 k2
          refine ⟨K1 + K2 + 1, fun k hk => ?_⟩
          obtain ⟨q, rfl⟩ : ∃ q, k = q + 1 := ⟨k - 1, by omega⟩
          simp only [corebankref21_Daily.l0]
          rw [if_pos (by omega), if_pos (by omega), k1 q (by omega), Option.bind_some, show mx a2 (rd_T36 l n).f2 = a2 + (i0 : Int) by omega, k2 q (by omega)]
        · obtain ⟨K2, k2⟩ := ih (n + 1) F (by omega)
          rw [map_range_congr (f := fun (d : Nat) => wrap64 (F d - esum (by36 (a2 + (d : Int))) all a (rd_T36 l (n : Int) :: l.drop (n + 1)))) (g := fun (d : Nat) => wrap64 (F d - esum (by36 (a2 + (d : Int))) all a (l.drop (n + 1)))) (fun d hd => by
            rw [esum, if_neg (fun h => by have := (hby d).1 h; omega), Int.zero_add])]
          dsimp only at k1 k2
          refine ⟨K1 + K2 + 2, fun k hk => ?_⟩
          obtain ⟨q, rfl⟩ : ∃ q, k = q + 1 + 1 := ⟨k - 2, by omega⟩
          simp only [corebankref21_Daily.l0]
          rw [if_pos (by omega), if_pos (by omega), k1 (q + 1) (by omega), Option.bind_some]
          simp only [corebankref21_Daily.l1]
          rw [if_neg (by omega), wn (by omega), k2 q (by omega)]
    have h := hout l.length 0 (fun _ => 0) (by omega)
    rw [List.drop_zero] at h
    have e1 : (List.range m).map (fun (d : Nat) => wrap64 ((0 : Int) - esum (by36 (a2 + (d : Int))) all a l)) = dayL l a a2 m := by unfold dayL; simp only [Int.zero_sub]
    have e2 : (List.range m).map (fun _ => wrap64 0) = List.replicate m (0 : Int) := by rw [ww0, List.map_const', List.length_range]
    rw [e1] at h
    refine Ev.congr (f := fun k => corebankref21_Daily.j0 k l a a2 a3 false) (fun k => ?_) (Ev.step (fun k => ?_) h)
    · unfold corebankref21_Daily.f
      rw [if_neg (by omega), if_neg (by omega), if_neg (by omega), hw0, decide_eq_false (by omega)]
    · simp only [corebankref21_Daily.j0]
      rw [if_neg (by simp), hw0, hm2, if_pos (by omega), if_pos (by omega), Int.toNat_natCast, e2]
      rfl
end Go.Proofs.Ytnilmhhidmdlnaa.Pl
