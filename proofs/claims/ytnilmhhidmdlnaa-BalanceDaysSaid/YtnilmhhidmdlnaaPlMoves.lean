/- Plain: the value dates of an account: sorted and compacted, or put in one by one. -/
import Derived.Lib.SlicesCompact
import Derived.Test.YtnilmhhidmdlnaaPAx13
import Derived.Test.YtnilmhhidmdlnaaNum
namespace Go.Proofs.Ytnilmhhidmdlnaa.Pl
open Go Go.RowKit Go.Proofs.Ytnilmhhidmdlnaa.PA Go.Proofs.YtnilmhhidmdlnaaW.PrintWords
set_option linter.unusedVariables false
set_option linter.unusedSimpArgs false

def Up (l : List Int) : Prop := l.Pairwise (· < ·)
theorem up_eq : ∀ {l m : List Int}, Up l → Up m → (∀ y, y ∈ l ↔ y ∈ m) → l = m
  | [], [], _, _, _ => rfl
  | [], b :: m, _, _, h => absurd ((h b).2 (by simp)) (by simp)
  | a :: l, [], _, _, h => absurd ((h a).1 (by simp)) (by simp)
  | a :: l, b :: m, ha, hb, h => by
    obtain ⟨a1, a2⟩ := List.pairwise_cons.1 ha
    obtain ⟨b1, b2⟩ := List.pairwise_cons.1 hb
    have e : a = b := by
      rcases List.mem_cons.1 ((h a).1 (by simp)) with e | e
      · exact e
      · rcases List.mem_cons.1 ((h b).2 (by simp)) with e' | e'
        · exact e'.symm
        · have := a1 b e'; have := b1 a e; omega
    subst e
    refine congrArg _ (up_eq a2 b2 fun y => ?_)
    constructor
    · intro hy
      rcases List.mem_cons.1 ((h y).1 (by simp [hy])) with e | e
      · subst e; have := a1 y hy; omega
      · exact e
    · intro hy
      rcases List.mem_cons.1 ((h y).2 (by simp [hy])) with e | e
      · subst e; have := b1 y hy; omega
      · exact e
theorem sortI_mem (l : List Int) (x : Int) : x ∈ sortI l ↔ x ∈ l := (List.mergeSort_perm l _).mem_iff
theorem sortI_le (l : List Int) : (sortI l).Pairwise (· ≤ ·) := by
  unfold sortI
  refine (List.pairwise_mergeSort (fun a b c h1 h2 => ?_) (fun a b => ?_) l).imp (fun h => by simpa using h)
  · simp only [decide_eq_true_eq] at *; omega
  · simp only [Bool.or_eq_true, decide_eq_true_eq]; omega
theorem compact_up {zs : List Int} (h : zs.Pairwise (· ≤ ·)) : Up (Lib.compact zs) ∧ ∀ x, x ∈ Lib.compact zs ↔ x ∈ zs := by
  have hg : ∀ i, i < zs.length → zs.toArray[i]! = zs.getD i 0 := fun i hi => by simp [List.getD_eq_getElem?_getD, hi]
  have hle : ∀ i j, i ≤ j → j < zs.length → zs.getD i 0 ≤ zs.getD j 0 := fun i j hij hj => by
    by_cases e : i = j
    · subst e; exact Int.le_refl _
    · have := List.pairwise_iff_getElem.1 h i j (by omega) hj (by omega)
      simpa [List.getD_eq_getElem?_getD, hj, show i < zs.length by omega] using this
  constructor
  · unfold Lib.compact Lib.compactUpTo Up
    rw [List.pairwise_map]
    refine ((List.pairwise_lt_range.filter (Lib.keeps zs.toArray)).imp_of_mem (S := fun i j => zs.toArray[i]! < zs.toArray[j]!) ?_)
    intro i j hi hj hij
    obtain ⟨hi1, hi2⟩ := List.mem_filter.1 hi
    obtain ⟨hj1, hj2⟩ := List.mem_filter.1 hj
    rw [List.mem_range] at hi1 hj1
    simp only [Lib.keeps, decide_eq_true_eq] at hj2
    rw [hg i hi1, hg j hj1]
    rw [hg j hj1, hg (j - 1) (by omega)] at hj2
    have h1 := hle i (j - 1) (by omega) (by omega)
    have h2 := hle (j - 1) j (by omega) hj1
    rcases hj2 with h3 | h3
    · omega
    · omega
  · intro x
    unfold Lib.compact Lib.compactUpTo
    simp only [List.mem_map, List.mem_filter, List.mem_range]
    constructor
    · rintro ⟨i, ⟨hi, _⟩, rfl⟩
      rw [hg i hi]
      simp [List.getD_eq_getElem?_getD, hi]
    · intro hx
      obtain ⟨i, hi, rfl⟩ := List.mem_iff_getElem.1 hx
      have : ∀ n i, i ≤ n → ∀ hi : i < zs.length, ∃ j, (j < zs.length ∧ Lib.keeps zs.toArray j = true) ∧ zs.toArray[j]! = zs[i] := by
        intro n
        induction n with
        | zero =>
          intro i hin hi
          obtain rfl : i = 0 := by omega
          exact ⟨0, ⟨hi, Lib.keeps_lt_one _ 0 (by omega)⟩, by simp [hi]⟩
        | succ n ih =>
          intro i hin hi
          by_cases k : Lib.keeps zs.toArray i = true
          · exact ⟨i, ⟨hi, k⟩, by simp [hi]⟩
          · simp only [Lib.keeps, decide_eq_true_eq, not_or, ne_eq, Decidable.not_not] at k
            obtain ⟨j, h1, h2⟩ := ih (i - 1) (by omega) (by omega)
            refine ⟨j, h1, ?_⟩
            have h3 := k.2
            rw [hg i hi, hg (i - 1) (by omega)] at h3
            rw [h2]
            simp only [List.getD_eq_getElem?_getD, List.getElem?_eq_getElem hi, List.getElem?_eq_getElem (show i - 1 < zs.length by omega), Option.getD_some] at h3
            exact h3.symm
      obtain ⟨j, h1, h2⟩ := this i i (Nat.le_refl _) hi
      exact ⟨j, h1, h2⟩
def vals' (l : List S36) (a : Int) : List Int := (moves l a).map fun p => p.1.f2
/-- What Moves gives. -/
def movesL (l : List S36) (a : Int) : List Int := Lib.compact (sortI (vals' l a))
def hasA (a : Int) (ys : List S39) : Bool := ys.any fun y => y.f0 == a
theorem mem_vals (l : List S36) (a v : Int) : v ∈ vals' l a ↔ ∃ e ∈ l, hasA a e.f8 = true ∧ e.f2 = v := by
  unfold vals' moves hasA
  simp only [List.mem_map, List.mem_flatMap, List.any_eq_true, beq_iff_eq]
  constructor
  · rintro ⟨p, ⟨e, he, y, hy, hp⟩, rfl⟩
    by_cases c : y.f0 = a
    · rw [if_pos c] at hp
      obtain rfl : p = (e, y.f1) := by simpa using hp
      exact ⟨e, he, ⟨y, hy, c⟩, rfl⟩
    · rw [if_neg c] at hp; cases hp
  · rintro ⟨e, he, ⟨y, hy, c⟩, rfl⟩
    exact ⟨(e, y.f1), ⟨e, he, y, hy, by rw [if_pos c]; simp⟩, rfl⟩
theorem movesL_up (l : List S36) (a : Int) : Up (movesL l a) := (compact_up (sortI_le _)).1
theorem movesL_mem (l : List S36) (a v : Int) : v ∈ movesL l a ↔ ∃ e ∈ l, hasA a e.f8 = true ∧ e.f2 = v := by
  rw [← mem_vals, ← sortI_mem (vals' l a)]
  exact (compact_up (sortI_le _)).2 v
theorem moves_len (l : List S36) (a : Int) : (moves l a).length ≤ (legs l).length := by
  induction l with
  | nil => simp [moves, legs]
  | cons e r ih =>
    rw [moves_cons, List.length_append, show legs (e :: r) = e.f8 ++ legs r from rfl, List.length_append]
    have : (em e a).length ≤ e.f8.length := by
      unfold em
      generalize e.f8 = ys
      induction ys with
      | nil => simp
      | cons y t it =>
        rw [List.flatMap_cons, List.length_append, List.length_cons]
        have : (if y.f0 = a then [(e, y.f1)] else []).length ≤ 1 := by split <;> simp
        omega
    omega
theorem Moves_f {l : List S36} (hf : Few l) (a : Int) : balance_Moves.f l a = some (movesL l a) := by
  unfold balance_Moves.f
  have h1 := legs_few hf.2
  have h2 := hf.1
  have h3 := moves_len l a
  rw [if_pos (by rw [okJ_few hf, Bool.true_and]; exact decide_eq_true (by omega))]
  rfl
/-! the reference -/
/-- One value put in. -/
def insV (v : Int) : List Int → List Int
  | [] => [v]
  | x :: r => if x < v then x :: insV v r else if x = v then x :: r else v :: x :: r
theorem insV_mem (v : Int) (l : List Int) (x : Int) : x ∈ insV v l ↔ x ∈ l ∨ x = v := by
  induction l with
  | nil => simp [insV]
  | cons y r ih =>
    unfold insV
    split
    · simp only [List.mem_cons, ih]
      constructor
      · rintro (h | h | h)
        · exact .inl (.inl h)
        · exact .inl (.inr h)
        · exact .inr h
      · rintro ((h | h) | h)
        · exact .inl h
        · exact .inr (.inl h)
        · exact .inr (.inr h)
    · split
      · rename_i h1 h2
        simp only [List.mem_cons]
        constructor
        · exact .inl
        · rintro (h | h)
          · exact h
          · exact .inl (by omega)
      · simp only [List.mem_cons]
        constructor
        · rintro (h | h | h)
          · exact .inr h
          · exact .inl (.inl h)
          · exact .inl (.inr h)
        · rintro ((h | h) | h)
          · exact .inr (.inl h)
          · exact .inr (.inr h)
          · exact .inl h
theorem insV_up (v : Int) {l : List Int} (h : Up l) : Up (insV v l) := by
  induction l with
  | nil => simp [insV, Up]
  | cons y r ih =>
    obtain ⟨h1, h2⟩ := List.pairwise_cons.1 h
    unfold insV
    split
    · refine List.pairwise_cons.2 ⟨fun z hz => ?_, ih h2⟩
      rcases (insV_mem v r z).1 hz with hz | rfl
      · exact h1 z hz
      · assumption
    · split
      · exact h
      · refine List.pairwise_cons.2 ⟨fun z hz => ?_, h⟩
        rcases List.mem_cons.1 hz with rfl | hz
        · omega
        · have := h1 z hz; omega
theorem insV_at (v : Int) : ∀ (p r : List Int), (∀ x ∈ p, x < v) → insV v (p ++ r) = p ++ insV v r
  | [], r, _ => rfl
  | x :: p, r, h => by
    rw [List.cons_append, insV, if_pos (h x (by simp)), insV_at v p r (fun y hy => h y (by simp [hy]))]
    rfl
theorem insV_len (v : Int) (l : List Int) : (insV v l).length ≤ l.length + 1 := by
  induction l with
  | nil => simp [insV]
  | cons y r ih =>
    unfold insV
    split
    · simp; omega
    · split <;> simp
def insAll (l : List S36) (a : Int) (acc : List Int) : List Int := l.foldl (fun acc e => if hasA a e.f8 = true then insV e.f2 acc else acc) acc
theorem insAll_up (l : List S36) (a : Int) : ∀ acc, Up acc → Up (insAll l a acc) := by
  induction l with
  | nil => exact fun acc h => h
  | cons e r ih =>
    intro acc h
    unfold insAll
    rw [List.foldl_cons]
    refine ih _ ?_
    split
    · exact insV_up _ h
    · exact h
theorem insAll_mem (l : List S36) (a : Int) : ∀ acc v, v ∈ insAll l a acc ↔ v ∈ acc ∨ ∃ e ∈ l, hasA a e.f8 = true ∧ e.f2 = v := by
  induction l with
  | nil => intro acc v; simp [insAll]
  | cons e r ih =>
    intro acc v
    unfold insAll
    rw [List.foldl_cons]
    rw [show (r.foldl (fun acc e => if hasA a e.f8 = true then insV e.f2 acc else acc) (if hasA a e.f8 = true then insV e.f2 acc else acc)) = insAll r a (if hasA a e.f8 = true then insV e.f2 acc else acc) from rfl, ih]
    by_cases c : hasA a e.f8 = true
    · rw [if_pos c, insV_mem]
      constructor
      · rintro ((h | h) | ⟨e', h1, h2⟩)
        · exact .inl h
        · exact .inr ⟨e, by simp, c, h.symm⟩
        · exact .inr ⟨e', by simp [h1], h2⟩
      · rintro (h | ⟨e', h1, h2, h3⟩)
        · exact .inl (.inl h)
        · rcases List.mem_cons.1 h1 with rfl | h1
          · exact .inl (.inr h3.symm)
          · exact .inr ⟨e', h1, h2, h3⟩
    · rw [if_neg c]
      constructor
      · rintro (h | ⟨e', h1, h2⟩)
        · exact .inl h
        · exact .inr ⟨e', by simp [h1], h2⟩
      · rintro (h | ⟨e', h1, h2, h3⟩)
        · exact .inl h
        · rcases List.mem_cons.1 h1 with rfl | h1
          · exact absurd h2 c
          · exact .inr ⟨e', h1, h2, h3⟩
theorem insAll_eq (l : List S36) (a : Int) : insAll l a [] = movesL l a := by
  refine up_eq (insAll_up l a [] List.Pairwise.nil) (movesL_up l a) (fun v => ?_)
  rw [insAll_mem, movesL_mem]
  simp
theorem rmoves_ev (l : List S36) (a : Int) (hf : Few l) : Ev (fun k => corebankref21_Moves.f k l a) (movesL l a) := by
  have h100 := hf.1
  have hout : ∀ (d n : Nat) (acc : List Int), n + d = l.length → Up acc → acc.length ≤ n → Ev (fun k => corebankref21_Moves.l0 k l a acc (n : Int)) (insAll (l.drop n) a acc) := by
    intro d
    induction d with
    | zero =>
      intro n acc hn hu hl
      rw [List.drop_of_length_le (by omega)]
      refine Ev.step (fun k => ?_) (Ev.now _)
      simp only [corebankref21_Moves.l0]; rw [if_neg (by omega)]; rfl
    | succ d ih =>
      intro n acc hn hu hl
      have hlt : n < l.length := by omega
      have h20 : (rd_T36 l n).f8.length ≤ 20 := by rw [rd36_at hlt]; exact hf.2 _ (List.getElem_mem hlt)
      rw [drop36 hlt]
      obtain ⟨v, hv⟩ : ∃ v, (rd_T36 l n).f2 = v := ⟨_, rfl⟩
      -- the search for the place
      have hl2 : ∀ j : Nat, j ≤ acc.length → (∀ x ∈ acc.drop j, v < x) → Ev (fun k => corebankref21_Moves.l2 k l a acc (n : Int) (j : Int)) (insAll (l.drop (n + 1)) a (insV v acc)) := by
        have hins : ∀ j : Nat, j ≤ acc.length → (∀ x ∈ acc.drop j, v < x) → (∀ x ∈ acc.take j, x < v) → insV v acc = acc.take j ++ [v] ++ acc.drop j := by
          intro j hj h1 h2
          conv => lhs; rw [← List.take_append_drop j acc]
          rw [insV_at v _ _ h2, List.append_assoc]
          congr 1
          cases hd : acc.drop j with
          | nil => rfl
          | cons x r =>
            have := h1 x (by rw [hd]; simp)
            rw [insV, if_neg (by omega), if_neg (by omega)]
            rfl
        intro j
        induction j with
        | zero =>
          intro hj h1
          have e := hins 0 hj h1 (by simp)
          have h := ih (n + 1) (insV v acc) (by omega) (insV_up v hu) (by have := insV_len v acc; omega)
          rw [e] at h ⊢
          refine Ev.step (fun k => ?_) h
          simp only [corebankref21_Moves.l2, Option.bind_some]
          rw [if_neg (by omega), if_pos (by omega), if_pos (by omega)]
          simp only [Int.toNat_natCast, Int.natCast_zero, Int.toNat_zero, List.take_zero, List.drop_zero, List.nil_append, List.append_nil, List.length_nil, Int.ofNat_zero]
          rw [if_pos (by omega), if_pos (by omega), if_pos (by omega), if_pos (by omega), if_pos (by simp; omega), wn (by omega), hv]
        | succ j jh =>
          intro hj h1
          have hjl : j < acc.length := by omega
          have hw : wrap64 (((j + 1 : Nat) : Int) - 1) = (j : Int) := by unfold wrap64; omega
          have hat : rd acc (j : Int) = acc[j] := rd_at hjl
          have hdrop : acc.drop j = acc[j] :: acc.drop (j + 1) := List.drop_eq_getElem_cons hjl
          by_cases c1 : acc[j] > v
          · have h := jh (by omega) (fun x hx => by
              rw [hdrop] at hx
              rcases List.mem_cons.1 hx with rfl | hx
              · exact c1
              · exact h1 x hx)
            refine Ev.step (fun k => ?_) h
            simp only [corebankref21_Moves.l2]
            rw [if_pos (by omega), hw, if_pos (by omega), if_pos (by omega), if_pos (by omega), if_pos (by omega), hat, hv, if_pos c1]
          · have hbelow : ∀ x ∈ acc.take j, x < acc[j] := by
              have hp := hu
              unfold Up at hp
              rw [← List.take_append_drop j acc] at hp
              have := (List.pairwise_append.1 hp).2.2
              intro x hx
              exact this x hx acc[j] (by rw [hdrop]; exact List.mem_cons_self)
            by_cases c2 : acc[j] = v
            · have e : insV v acc = acc := by
                conv => lhs; rw [← List.take_append_drop j acc]
                rw [insV_at v _ _ (fun x hx => by have := hbelow x hx; omega), hdrop, insV, if_neg (by omega), if_pos c2, ← hdrop, List.take_append_drop]
              have h := ih (n + 1) acc (by omega) hu (by omega)
              rw [e]
              refine Ev.step (fun k => ?_) h
              simp only [corebankref21_Moves.l2]
              rw [if_pos (by omega), hw, if_pos (by omega), if_pos (by omega), if_pos (by omega), if_pos (by omega), hat, hv, if_neg c1, if_pos c2, wn (by omega)]
            · have e := hins (j + 1) hj h1 (fun x hx => by
                rw [List.take_add_one, List.getElem?_eq_getElem hjl] at hx
                rcases List.mem_append.1 hx with hx | hx
                · have := hbelow x hx; omega
                · have : x = acc[j] := by simpa using hx
                  omega)
              have h := ih (n + 1) (insV v acc) (by omega) (insV_up v hu) (by have := insV_len v acc; omega)
              rw [e] at h ⊢
              refine Ev.step (fun k => ?_) h
              simp only [corebankref21_Moves.l2, Option.bind_some]
              rw [if_pos (by omega), hw, if_pos (by omega), if_pos (by omega), if_pos (by omega), if_pos (by omega), hat, hv, if_neg c1, if_neg c2, if_pos (by omega), if_pos (by omega)]
              simp only [Int.toNat_natCast, List.nil_append, List.length_nil]
              rw [if_pos (by simp; omega), if_pos (by simp; omega), if_pos (by simp; omega), wn (by omega)]
      have hin : ∀ (d' j : Nat) (b : Bool), j + d' = (rd_T36 l n).f8.length → b = hasA a ((rd_T36 l n).f8.take j) → Ev (fun k => corebankref21_Moves.l1 k l a acc (n : Int) b (j : Int)) (insAll (rd_T36 l n :: l.drop (n + 1)) a acc) := by
        intro d'
        induction d' with
        | zero =>
          intro j b hj hb
          rw [List.take_of_length_le (show (rd_T36 l n).f8.length ≤ j by omega)] at hb
          have e : insAll (rd_T36 l n :: l.drop (n + 1)) a acc = insAll (l.drop (n + 1)) a (if hasA a (rd_T36 l n).f8 = true then insV (rd_T36 l n).f2 acc else acc) := rfl
          rw [e, ← hb, hv]
          cases b with
          | true =>
            have h := hl2 acc.length (Nat.le_refl _) (fun x hx => by rw [List.drop_length] at hx; cases hx)
            rw [if_pos rfl]
            refine Ev.step (fun k => ?_) h
            simp only [corebankref21_Moves.l1]; rw [if_pos (by omega), if_pos (by omega), if_neg (by omega), if_pos trivial]
          | false =>
            have h := ih (n + 1) acc (by omega) hu (by omega)
            rw [if_neg (by simp)]
            refine Ev.step (fun k => ?_) h
            simp only [corebankref21_Moves.l1]; rw [if_pos (by omega), if_pos (by omega), if_neg (by omega), if_neg (by simp), wn (by omega)]
        | succ d' ih' =>
          intro j b hj hb
          have hjl : j < (rd_T36 l n).f8.length := by omega
          have ht : hasA a ((rd_T36 l n).f8.take (j + 1)) = (b || ((rd_T39 (rd_T36 l n).f8 j).f0 == a)) := by
            rw [hb, List.take_add_one, List.getElem?_eq_getElem hjl, hasA, List.any_append, rd39_at hjl]
            simp [hasA]
          cases b with
          | true =>
            have h := ih' (j + 1) true (by omega) (by rw [ht]; rfl)
            refine Ev.step (fun k => ?_) h
            simp only [corebankref21_Moves.l1]; rw [if_pos (by omega), if_pos (by omega), if_pos (by omega), if_pos trivial, wn (by omega)]
          | false =>
            have h := ih' (j + 1) ((rd_T39 (rd_T36 l n).f8 j).f0 == a) (by omega) (by rw [ht, Bool.false_or])
            refine Ev.step (fun k => ?_) h
            simp only [corebankref21_Moves.l1]; rw [if_pos (by omega), if_pos (by omega), if_pos (by omega), if_neg (by simp), if_pos (by omega), wn (by omega)]
      have h := hin (rd_T36 l n).f8.length 0 false (by omega) (by simp [hasA])
      refine Ev.step (fun k => ?_) h
      simp only [corebankref21_Moves.l0]; rw [if_pos (by omega)]; rfl
  have h := hout l.length 0 [] (by omega) List.Pairwise.nil (by simp)
  rw [List.drop_zero, insAll_eq] at h
  exact h
end Go.Proofs.Ytnilmhhidmdlnaa.Pl
