/- The trial balance as a plain function: legs put one by one into a list that ascends by account and currency. -/
import Derived.Test.YtnilmhhidmdlnaaPAx0
namespace Go.Proofs.Ytnilmhhidmdlnaa.PA
open Go.RowKit

theorem bless (x y : List UInt8) : Op.bytesLess x y = decide (x < y) := by
  induction x generalizing y with
  | nil => cases y <;> simp [Op.bytesLess]
  | cons a x ih =>
    cases y with
    | nil => simp [Op.bytesLess]
    | cons b y =>
      rw [Op.bytesLess, ih y]
      simp only [List.cons_lt_cons_iff]
      by_cases h1 : a < b <;> by_cases h2 : a = b <;> by_cases h3 : x < y <;> simp [h1, h2, h3]
theorem bstr (a b : ByteArray) : a.toList = b.toList ↔ a = b := by
  rw [ByteArray.toList_eq, ByteArray.toList_eq]
  constructor
  · intro h
    cases a; cases b
    simp only [ByteArray.mk.injEq]
    exact Array.toList_inj.1 h
  · intro h; rw [h]
/-- The order of legs. -/
def lessB (x y : S39) : Bool := decide (x.f0 < y.f0) || (decide (x.f0 = y.f0) && Op.bytesLess x.f2.toList y.f2.toList)
theorem less_iff (x y : S39) : lessB x y = true ↔ x.f0 < y.f0 ∨ (x.f0 = y.f0 ∧ x.f2.toList < y.f2.toList) := by simp [lessB, bless]
theorem less_irr (x : S39) : lessB x x = false := by
  cases h : lessB x x
  · rfl
  · rw [less_iff] at h
    rcases h with h | ⟨_, h⟩
    · omega
    · exact absurd h (List.lt_irrefl _)
theorem less_tr {x y z : S39} (h : lessB x y = true) (k : lessB y z = true) : lessB x z = true := by
  rw [less_iff] at *
  rcases h with h | ⟨h1, h2⟩ <;> rcases k with k | ⟨k1, k2⟩
  · exact .inl (by omega)
  · exact .inl (by omega)
  · exact .inl (by omega)
  · exact .inr ⟨by omega, List.lt_trans h2 k2⟩
/-- Of two legs one stands ahead of the other, or they are of one account and one currency. -/
theorem less_tot (x y : S39) (h : lessB x y = false) (k : lessB y x = false) : x.f0 = y.f0 ∧ x.f2 = y.f2 := by
  have h' : ¬ lessB x y = true := by simp [h]
  have k' : ¬ lessB y x = true := by simp [k]
  rw [less_iff] at h' k'
  have e : x.f0 = y.f0 := by
    by_cases h1 : x.f0 < y.f0
    · exact absurd (.inl h1) h'
    · by_cases h2 : y.f0 < x.f0
      · exact absurd (.inl h2) k'
      · omega
  refine ⟨e, (bstr _ _).1 ?_⟩
  have h1 : ¬ x.f2.toList < y.f2.toList := fun c => h' (.inr ⟨e, c⟩)
  have h2 : ¬ y.f2.toList < x.f2.toList := fun c => k' (.inr ⟨e.symm, c⟩)
  exact List.le_antisymm (List.not_lt.1 h2) (List.not_lt.1 h1)
theorem less_key {x y z : S39} (h : x.f0 = y.f0 ∧ x.f2 = y.f2) : lessB x z = lessB y z ∧ lessB z x = lessB z y := by
  unfold lessB
  rw [h.1, h.2]
  exact ⟨rfl, rfl⟩
/-- Ascending, no place twice. -/
def Asc (l : List S39) : Prop := l.Pairwise fun x y => lessB x y = true
def addL : List S39 → S39 → List S39
  | [], x => [x]
  | y :: r, x => if lessB y x = true then y :: addL r x else if lessB x y = true then x :: y :: r else ⟨y.f0, wrap64 (y.f1 + x.f1), y.f2⟩ :: r
/-- Whoever is ahead of all of l and of x is ahead of all of addL l x. -/
theorem ahead_add {z : S39} {l : List S39} {x : S39} (h : ∀ y ∈ l, lessB z y = true) (hx : lessB z x = true) : ∀ y ∈ addL l x, lessB z y = true := by
  induction l with
  | nil => simpa [addL] using hx
  | cons a r ih =>
    have ha := h a (by simp)
    have hr := fun y hy => h y (List.mem_cons_of_mem _ hy)
    unfold addL
    split
    · intro y hy
      rcases List.mem_cons.1 hy with rfl | hy
      · exact ha
      · exact ih hr y hy
    · split
      · intro y hy
        rcases List.mem_cons.1 hy with rfl | hy
        · exact hx
        · exact h y hy
      · intro y hy
        rcases List.mem_cons.1 hy with rfl | hy
        · rw [← ha]; rfl
        · exact hr y hy
theorem asc_add {l : List S39} (h : Asc l) (x : S39) : Asc (addL l x) := by
  induction l with
  | nil => simp [addL, Asc]
  | cons a r ih =>
    obtain ⟨h1, h2⟩ := List.pairwise_cons.1 h
    unfold addL
    split
    · rename_i c
      exact List.pairwise_cons.2 ⟨ahead_add h1 c, ih h2⟩
    · split
      · rename_i c
        exact List.pairwise_cons.2 ⟨fun y hy => by
          rcases List.mem_cons.1 hy with rfl | hy
          · exact c
          · exact less_tr c (h1 y hy), h⟩
      · exact List.pairwise_cons.2 ⟨fun y hy => by rw [← h1 y hy]; rfl, h2⟩
/-- Is the leg of this account and this currency? -/
def isK (a : Int) (s : ByteArray) (x : S39) : Bool := decide (x.f0 = a) && decide (x.f2.toList = s.toList)
theorem isK_iff (a : Int) (s : ByteArray) (x : S39) : isK a s x = true ↔ x.f0 = a ∧ x.f2 = s := by simp [isK, bstr]
/-- What the list holds at a place. -/
def valK (l : List S39) (a : Int) (s : ByteArray) : Option Int := (l.find? (isK a s)).map (·.f1)
/-- The sum of the legs of a place. -/
def sumK (a : Int) (s : ByteArray) (xs : List S39) : Int := xs.foldl (fun n x => if isK a s x = true then wrap64 (n + x.f1) else n) 0
theorem sumK_snoc (a : Int) (s : ByteArray) (xs : List S39) (x : S39) : sumK a s (xs ++ [x]) = if isK a s x = true then wrap64 (sumK a s xs + x.f1) else sumK a s xs := by simp [sumK]
theorem isK_same {a : Int} {s : ByteArray} {x y : S39} (h : x.f0 = y.f0 ∧ x.f2 = y.f2) : isK a s x = isK a s y := by unfold isK; rw [h.1, h.2]
theorem isK_less {a : Int} {s : ByteArray} {x y : S39} (h : lessB x y = true) (hx : isK a s x = true) : isK a s y = false := by
  cases hy : isK a s y
  · rfl
  · rw [isK_iff] at hx hy
    have e : x.f0 = y.f0 ∧ x.f2 = y.f2 := ⟨by rw [hx.1, hy.1], by rw [hx.2, hy.2]⟩
    rw [(less_key e).1, less_irr] at h
    cases h
theorem valK_add {l : List S39} (h : Asc l) (x : S39) (hw : wrap64 x.f1 = x.f1) (a : Int) (s : ByteArray) :
    valK (addL l x) a s = if isK a s x = true then some (wrap64 ((valK l a s).getD 0 + x.f1)) else valK l a s := by
  induction l with
  | nil =>
    by_cases c : isK a s x = true
    · simp [valK, addL, c, hw]
    · simp [valK, addL, c]
  | cons y r ih =>
    obtain ⟨h1, h2⟩ := List.pairwise_cons.1 h
    have ih := ih h2
    unfold addL
    by_cases c1 : lessB y x = true
    · rw [if_pos c1]
      by_cases c : isK a s x = true
      · have hy : isK a s y = false := by
          cases hy : isK a s y
          · rfl
          · have := isK_less c1 hy
            rw [c] at this; cases this
        rw [if_pos c] at ih ⊢
        unfold valK at ih ⊢
        rw [List.find?_cons_of_neg (by simp [hy]), ih, List.find?_cons_of_neg (by simp [hy])]
      · rw [if_neg c] at ih ⊢
        unfold valK at ih ⊢
        by_cases hy : isK a s y = true
        · rw [List.find?_cons_of_pos hy, List.find?_cons_of_pos hy]
        · rw [List.find?_cons_of_neg hy, List.find?_cons_of_neg hy]
          exact ih
    · rw [if_neg c1]
      by_cases c2 : lessB x y = true
      · rw [if_pos c2]
        by_cases c : isK a s x = true
        · have hn : (y :: r).find? (isK a s) = none := by
            rw [List.find?_eq_none]
            intro z hz
            have : lessB x z = true := by
              rcases List.mem_cons.1 hz with rfl | hz
              · exact c2
              · exact less_tr c2 (h1 z hz)
            rw [isK_less this c]
            simp
          rw [if_pos c]
          unfold valK
          rw [List.find?_cons_of_pos c, hn]
          simp [hw]
        · rw [if_neg c]
          unfold valK
          rw [List.find?_cons_of_neg c]
      · rw [if_neg c2]
        have e := less_tot x y (eq_false_of_ne_true c2) (eq_false_of_ne_true c1)
        have e1 : isK a s x = isK a s y := isK_same e
        have e2 : isK a s (⟨y.f0, wrap64 (y.f1 + x.f1), y.f2⟩ : S39) = isK a s y := isK_same ⟨rfl, rfl⟩
        unfold valK
        by_cases c : isK a s x = true
        · rw [if_pos c, List.find?_cons_of_pos (by rw [e2, ← e1, c]), List.find?_cons_of_pos (by rw [← e1, c])]
          rfl
        · rw [if_neg c, List.find?_cons_of_neg (by rw [e2, ← e1]; exact c), List.find?_cons_of_neg (by rw [← e1]; exact c)]
/-- All legs put in. -/
def putAll (xs : List S39) : List S39 := xs.foldl addL []
theorem putAll_snoc (xs : List S39) (x : S39) : putAll (xs ++ [x]) = addL (putAll xs) x := by simp [putAll]
theorem asc_put (xs : List S39) : Asc (putAll xs) := by
  suffices ∀ l, Asc l → Asc (xs.foldl addL l) from this [] (by simp [Asc])
  induction xs with
  | nil => exact fun l h => h
  | cons x r ih => exact fun l h => ih _ (asc_add h x)
theorem valK_put (xs : List S39) (hw : ∀ x ∈ xs, wrap64 x.f1 = x.f1) (a : Int) (s : ByteArray) : valK (putAll xs) a s = if xs.any (isK a s) = true then some (sumK a s xs) else none := by
  obtain ⟨ys, rfl⟩ : ∃ ys, xs = ys.reverse := ⟨xs.reverse, by simp⟩
  induction ys with
  | nil => simp [putAll, valK]
  | cons y r ih =>
    rw [List.reverse_cons] at hw ⊢
    rw [putAll_snoc, valK_add (asc_put _) _ (hw y (by simp)), ih (fun x hx => hw x (List.mem_append_left _ hx)), sumK_snoc, List.any_append]
    by_cases c : isK a s y = true
    · rw [if_pos c, if_pos c, show (r.reverse.any (isK a s) || [y].any (isK a s)) = true by rw [show [y].any (isK a s) = true by simp [c], Bool.or_true], if_pos rfl]
      by_cases d : r.reverse.any (isK a s) = true
      · rw [if_pos d]; rfl
      · rw [if_neg d]
        congr 2
        have : sumK a s r.reverse = 0 := by
          have d' : ∀ x ∈ r.reverse, ¬ isK a s x = true := fun x hx e => d (List.any_eq_true.2 ⟨x, hx, e⟩)
          unfold sumK
          clear ih hw d
          generalize r.reverse = l at d'
          induction l with
          | nil => rfl
          | cons b l il => rw [List.foldl_cons, if_neg (d' b (by simp))]; exact il (fun x hx => d' x (by simp [hx]))
        rw [this]
        rfl
    · rw [if_neg c, if_neg c]
      simp [eq_false_of_ne_true c]
/-- Of an ascending list: what stands at a place is the leg of that place. -/
theorem mem_valK {l : List S39} (h : Asc l) (y : S39) : y ∈ l ↔ valK l y.f0 y.f2 = some y.f1 := by
  have hk : ∀ z : S39, isK z.f0 z.f2 z = true := fun z => (isK_iff _ _ _).2 ⟨rfl, rfl⟩
  constructor
  · intro hy
    induction l with
    | nil => cases hy
    | cons a r ih =>
      obtain ⟨h1, h2⟩ := List.pairwise_cons.1 h
      rcases List.mem_cons.1 hy with rfl | hy
      · unfold valK
        rw [List.find?_cons_of_pos (hk y)]
        rfl
      · have hn : ¬ isK y.f0 y.f2 a = true := fun e => by
          have := isK_less (h1 y hy) e
          rw [hk] at this; cases this
        unfold valK
        rw [List.find?_cons_of_neg hn]
        exact ih h2 hy
  · intro hv
    unfold valK at hv
    obtain ⟨z, hz, hf⟩ := Option.map_eq_some_iff.1 hv
    have hm := List.mem_of_find?_eq_some hz
    have hs := List.find?_some hz
    rw [isK_iff] at hs
    have : z = y := by
      cases z; cases y
      simp only at hs hf
      rw [hs.1, hs.2, hf]
    exact this ▸ hm
/-- Ascending lists of one membership are one. -/
theorem asc_eq : ∀ {l m : List S39}, Asc l → Asc m → (∀ y, y ∈ l ↔ y ∈ m) → l = m
  | [], [], _, _, _ => rfl
  | [], b :: m, _, _, h => absurd ((h b).2 (by simp)) (by simp)
  | a :: l, [], _, _, h => absurd ((h a).1 (by simp)) (by simp)
  | a :: l, b :: m, ha, hb, h => by
    obtain ⟨a1, a2⟩ := List.pairwise_cons.1 ha
    obtain ⟨b1, b2⟩ := List.pairwise_cons.1 hb
    have hirr : ∀ x y : S39, lessB x y = true → lessB y x = true → False := fun x y h k => by
      have := less_tr h k
      rw [less_irr] at this; cases this
    have e : a = b := by
      rcases List.mem_cons.1 ((h a).1 (by simp)) with e | e
      · exact e
      · rcases List.mem_cons.1 ((h b).2 (by simp)) with e' | e'
        · exact e'.symm
        · exact (hirr _ _ (a1 b e') (b1 a e)).elim
    subst e
    refine congrArg _ (asc_eq a2 b2 fun y => ?_)
    constructor
    · intro hy
      rcases List.mem_cons.1 ((h y).1 (by simp [hy])) with e | e
      · subst e
        exact (hirr _ _ (a1 y hy) (a1 y hy)).elim
      · exact e
    · intro hy
      rcases List.mem_cons.1 ((h y).2 (by simp [hy])) with e | e
      · subst e
        exact (hirr _ _ (b1 y hy) (b1 y hy)).elim
      · exact e
def legs (l : List S36) : List S39 := l.flatMap (·.f8)
/-- The trial balance of a journal. -/
def trialL (l : List S36) : List S39 := (putAll (legs l)).filter fun x => decide (¬ x.f1 = 0)
theorem asc_trial (l : List S36) : Asc (trialL l) := (asc_put _).filter _
theorem mem_trial (l : List S36) (hw : ∀ x ∈ legs l, wrap64 x.f1 = x.f1) (y : S39) : y ∈ trialL l ↔ ¬ y.f1 = 0 ∧ (legs l).any (isK y.f0 y.f2) = true ∧ sumK y.f0 y.f2 (legs l) = y.f1 := by
  unfold trialL
  rw [List.mem_filter, decide_eq_true_eq, mem_valK (asc_put _), valK_put _ hw]
  by_cases c : (legs l).any (isK y.f0 y.f2) = true
  · rw [if_pos c]
    exact ⟨fun h => ⟨h.2, c, Option.some.inj h.1⟩, fun h => ⟨congrArg some h.2.2, h.1⟩⟩
  · rw [if_neg c]
    exact ⟨fun h => (nomatch h.1), fun h => absurd h.2.1 c⟩
end Go.Proofs.Ytnilmhhidmdlnaa.PA
