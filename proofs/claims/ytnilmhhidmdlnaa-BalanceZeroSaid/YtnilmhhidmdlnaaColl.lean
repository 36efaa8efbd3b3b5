/- What is collected out of the map of sums, in whatever order, and the contract of the sort of legs. -/
import Derived.Deep.RegionHeld3
import Derived.Shelf.Abstract
import Derived.Test.YtnilmhhidmdlnaaSortK
import Derived.Test.YtnilmhhidmdlnaaSort
import Derived.Test.YtnilmhhidmdlnaaCmp
import Derived.Test.YtnilmhhidmdlnaaKey
import Derived.Test.YtnilmhhidmdlnaaTri
namespace Go.Proofs.Ytnilmhhidmdlnaa.PA
open Go.RowKit Go.Maps Go.Sort Go.Shelf Go.Lib Go.Proofs.YtnilmhhidmdlnaaW.PrintWords Go.Proofs.YtnilmhhidmdlnaaW.PrintLast Go.Proofs.YtnilmhhidmdlnaaW.PrintMore
set_option linter.unusedVariables false
set_option linter.unusedSimpArgs false

/-- The legs that have been met: no place twice; a leg is there just where the map holds a sum that is not nought and is no longer to come. -/
structure Coll (D : DataW Unit) (left : Lit → Bool) (ys : List S39) : Prop where
  apart : ys.Pairwise fun x y => ¬ (x.f0 = y.f0 ∧ x.f2 = y.f2)
  mem : ∀ y, y ∈ ys ↔ (¬ y.f1 = 0 ∧ (Lit.int .i64 y.f0).wf = true ∧ y.f2.size ≤ maxLen ∧ Maps.has D (pk y.f0 y.f2) = true ∧ left (pk y.f0 y.f2) = false ∧ D.atKey (pk y.f0 y.f2) (.lit (.int .i64 0)) = .lit (.int .i64 y.f1))
theorem Coll.start (D : DataW Unit) : Coll D (Maps.has D) [] := ⟨by simp, fun y => ⟨fun h => (nomatch h), fun h => (by have := h.2.2.2.2.1; rw [h.2.2.2.1] at this; cases this)⟩⟩
variable {D : DataW Unit} {left : Lit → Bool} {ys : List S39} {a c : Int} {s : ByteArray}
theorem left_step (ha : (Lit.int .i64 a).wf = true) (hs : s.size ≤ maxLen) (b : Int) (t : ByteArray) (hb : (Lit.int .i64 b).wf = true) (ht : t.size ≤ maxLen) :
    (left (pk b t) && !(pk b t).sameKey (pk a s)) = false ↔ left (pk b t) = false ∨ (b = a ∧ t = s) := by
  by_cases e : b = a ∧ t = s
  · obtain ⟨rfl, rfl⟩ := e
    rw [WideAt.sameKey_self (pk_ok hb ht)]
    simp
  · have : (pk b t).sameKey (pk a s) = false := sameKey_ne (fun h => e (pk_inj hb ht ha hs h))
    rw [this]
    simp [e]
theorem Coll.skip (h : Coll D left ys) (ha : (Lit.int .i64 a).wf = true) (hs : s.size ≤ maxLen) (hat : ∀ zd, D.atKey (pk a s) zd = .lit (.int .i64 0)) : Coll D (fun z => left z && !z.sameKey (pk a s)) ys := by
  refine ⟨h.apart, fun y => ?_⟩
  rw [h.mem y]
  constructor
  · rintro ⟨h1, h2, h3, h4, h5, h6⟩
    exact ⟨h1, h2, h3, h4, (left_step ha hs _ _ h2 h3).2 (.inl h5), h6⟩
  · rintro ⟨h1, h2, h3, h4, h5, h6⟩
    rcases (left_step ha hs _ _ h2 h3).1 h5 with h5 | ⟨e1, e2⟩
    · exact ⟨h1, h2, h3, h4, h5, h6⟩
    · rw [e1, e2, hat] at h6
      refine absurd ?_ h1
      have : 0 = y.f1 := by simpa using h6
      omega
theorem Coll.take (h : Coll D left ys) (ha : (Lit.int .i64 a).wf = true) (hs : s.size ≤ maxLen) (hlk : left (pk a s) = true) (hat : ∀ zd, D.atKey (pk a s) zd = .lit (.int .i64 c)) (hc : ¬ c = 0) : Coll D (fun z => left z && !z.sameKey (pk a s)) (ys ++ [⟨a, c, s⟩]) := by
  have hnew : ∀ y ∈ ys, ¬ (y.f0 = a ∧ y.f2 = s) := fun y hy e => by
    have := ((h.mem y).1 hy).2.2.2.2.1
    rw [e.1, e.2, hlk] at this
    cases this
  refine ⟨List.pairwise_append.2 ⟨h.apart, by simp, fun x hx y hy => ?_⟩, fun y => ?_⟩
  · simp only [List.mem_singleton] at hy
    subst hy
    exact hnew x hx
  · rw [List.mem_append, List.mem_singleton, h.mem y]
    constructor
    · rintro (⟨h1, h2, h3, h4, h5, h6⟩ | rfl)
      · exact ⟨h1, h2, h3, h4, (left_step ha hs _ _ h2 h3).2 (.inl h5), h6⟩
      · exact ⟨hc, ha, hs, has_true_of_atKey hat, (left_step ha hs _ _ ha hs).2 (.inr ⟨rfl, rfl⟩), hat _⟩
    · rintro ⟨h1, h2, h3, h4, h5, h6⟩
      rcases (left_step ha hs _ _ h2 h3).1 h5 with h5 | ⟨e1, e2⟩
      · exact .inl ⟨h1, h2, h3, h4, h5, h6⟩
      · right
        rw [e1, e2, hat] at h6
        have : c = y.f1 := by simpa using h6
        cases y
        simp only at e1 e2 this
        rw [e1, e2, this]

/-! the sort -/
instance : Inhabited S39 := ⟨z39⟩
def enc39 (x : S39) : List Value := [.int .i64 x.f0, .int .i64 x.f1, .string x.f2]
theorem k39_iff (w : World) (base : Nat) (ok : Nat → Prop) (x : S39) (cs : List Value) : k39.M w base ok x cs ↔ cs = enc39 x := ⟨fun h => k39_openM h, fun h => by rw [h]; exact k39_mkM _ _ _ _⟩
def cmpL (x y : S39) : Int := orV (Lib.compareInt x.f0 y.f0) (cmpS x.f2 y.f2)
theorem cmpL_lt (x y : S39) : ltOf cmpL x y = lessB x y := by
  unfold ltOf cmpL orV Lib.compareInt cmpS lessB
  by_cases h1 : x.f0 < y.f0
  · simp [h1]
  · by_cases h2 : y.f0 < x.f0
    · have h3 : ¬ x.f0 = y.f0 := by omega
      simp [h1, h2, h3]
    · have h3 : x.f0 = y.f0 := by omega
      by_cases h4 : Op.bytesLess x.f2.toList y.f2.toList = true
      · simp [h1, h2, h3, h4]
      · by_cases h5 : (x.f2.toList == y.f2.toList) = true
        · simp [h1, h2, h3, h4, h5]
        · simp [h1, h2, h3, h4, h5]
theorem cmpL_swo : SWO (ltOf cmpL) := {
  irrefl x := by rw [cmpL_lt]; exact less_irr x
  trans x y z h1 h2 := by rw [cmpL_lt] at *; exact less_tr h1 h2
  ntrans x y z h1 h2 := by
    rw [cmpL_lt] at *
    cases h : lessB x z
    · rfl
    · cases h3 : lessB y x
      · have e := less_tot x y h1 h3
        rw [← (less_key e).1, h] at h2; cases h2
      · rw [less_tr h3 h] at h2; cases h2 }
set_option maxHeartbeats 4000000 in
set_option maxRecDepth 100000 in
theorem cmp28 (x y : S39) (W : World) : Calls Try.prog 28 #[.agg #[.int .i64 x.f0, .int .i64 x.f1, .string x.f2], .agg #[.int .i64 y.f0, .int .i64 y.f1, .string y.f2]] W fun e w' => e = .returned (.int .i64 (cmpL x y)) ∧ ∃ q os', w' = grow (W.drewN q) os' := by
  have hcon := fun W' => AnyG.cmp_Compare_int Try.cmpInt x.f0 y.f0 W'
  change ∀ W', Calls Try.prog 30 _ _ _ at hcon
  have hstr := fun W' => cmp_str x.f2 y.f2 W'
  have hor := fun b W' => or_two b (Lib.compareInt x.f0 y.f0) (cmpS x.f2 y.f2) W'
  have hc : cmpL x y = orV (Lib.compareInt x.f0 y.f0) (cmpS x.f2 y.f2) := rfl
  rw [hc]
  clear hc
  generalize Lib.compareInt x.f0 y.f0 = r1 at *
  generalize cmpS x.f2 y.f2 = r2 at *
  go_enter Try.func28, Try.ntmps28
  go_wp2
  obtain ⟨W0, hW0⟩ : ∃ W0, ((W.alloc (.cells #[.int .i64 x.f0, .int .i64 x.f1, .string x.f2] 39)).alloc (.cells #[.int .i64 y.f0, .int .i64 y.f1, .string y.f2] 39)) = W0 := ⟨_, rfl⟩
  have a0 : W0.drew.cell? ⟨W.heap.size, 0, none⟩ = some (.int .i64 x.f0) := by rw [← hW0]; simp
  have a2 : W0.drew.cell? ⟨W.heap.size, 2, none⟩ = some (.string x.f2) := by rw [← hW0]; simp
  have b0 : W0.drew.cell? ⟨W.heap.size + 1, 0, none⟩ = some (.int .i64 y.f0) := by rw [← hW0]; simp
  have b2 : W0.drew.cell? ⟨W.heap.size + 1, 2, none⟩ = some (.string y.f2) := by rw [← hW0]; simp
  have d0 : ∀ o, (W0.alloc o).drew.cell? ⟨W.heap.size, 0, none⟩ = some (.int .i64 x.f0) := fun o => (World.grownBy_alloc W0 o none).cell (w := W0) a0 (by simp)
  have d1 : ∀ o, (W0.alloc o).drew.cell? ⟨W.heap.size, 2, none⟩ = some (.string x.f2) := fun o => (World.grownBy_alloc W0 o none).cell (w := W0) a2 (by simp)
  have d2 : ∀ o, (W0.alloc o).drew.cell? ⟨W.heap.size + 1, 0, none⟩ = some (.int .i64 y.f0) := fun o => (World.grownBy_alloc W0 o none).cell (w := W0) b0 (by simp)
  have d3 : ∀ o, (W0.alloc o).drew.cell? ⟨W.heap.size + 1, 2, none⟩ = some (.string y.f2) := fun o => (World.grownBy_alloc W0 o none).cell (w := W0) b2 (by simp)
  rw [hW0]
  go_region_held3 (fun w' => w'.cell? ⟨W.heap.size, 0, none⟩ = some (.int .i64 x.f0) ∧ w'.cell? ⟨W.heap.size, 2, none⟩ = some (.string x.f2) ∧ w'.cell? ⟨W.heap.size + 1, 0, none⟩ = some (.int .i64 y.f0) ∧ w'.cell? ⟨W.heap.size + 1, 2, none⟩ = some (.string y.f2))
    (first | exact ⟨a0, a2, b0, b2⟩ | exact ⟨d0 _, d1 _, d2 _, d3 _⟩)
    ((first | (go_at_call 30; refine (hcon _).mono ?_; rintro e w' ⟨rfl, rfl⟩) | (go_at_call 31; refine (hstr _).mono ?_; rintro e w' ⟨rfl, rfl⟩) | (go_at_call 29; refine (hor _ _ ?_ ?_).mono ?_; (simp [*]); (simp [*]); rintro e w' ⟨rfl, rfl⟩)))
  all_goals go_wp2
  all_goals
    go_ret
    refine ⟨rfl, 1, #[.cells #[.int .i64 x.f0, .int .i64 x.f1, .string x.f2] 39, .cells #[.int .i64 y.f0, .int .i64 y.f1, .string y.f2] 39, .cells #[.int .i64 r1, .int .i64 r2] 3], ?_⟩
    rw [← hW0, alloc_eq_grow, alloc_eq_grow, alloc_eq_grow, grow_grow, grow_grow]
    rfl
/-- A permutation of xs, ascending. -/
def Sorted39 (xs ys : List S39) : Prop := ys.Perm xs ∧ ys.Pairwise (fun a b => lessB b a = false)
set_option maxHeartbeats 1000000 in
theorem sort39 (v : Value) (xs : List S39) (base : Nat) (ok : Nat → Prop) (w : World) (hr : Kd.R k39 39 w base ok v xs) (hl : xs.length ≤ 1000000) :
    Calls Try.prog 27 #[v, .func (.func 28) #[] #[]] w fun e w' => e = .returned (.tuple #[]) ∧ ∃ ys, Sorted39 xs ys ∧ Kd.R k39 39 w' base ok v ys ∧ w.grownBy w' v.ownBlock := by
  have hown := hr
  obtain ⟨_, inner, ho, hrep⟩ := hown
  rcases ho.2 with ⟨hv, h0⟩ | ⟨g, cap, cur, hv, _⟩
  · subst hv
    have hx : xs = [] := List.eq_nil_of_length_eq_zero h0
    subst hx
    have hcon := AnyF.slices_SortFunc_none Try.sortLegs none 0 (.func (.func 28) #[] #[]) w
    change Calls Try.prog 27 _ _ _ at hcon
    exact hcon.mono fun e w' ⟨he, hw⟩ => ⟨he, [], ⟨List.Perm.refl _, by simp⟩, by rw [hw]; exact hr, by rw [hw]; exact ⟨rfl, rfl, rfl, Nat.le_refl _, fun _ _ _ => rfl⟩⟩
  · subst hv
    obtain ⟨_, hlt, hH, hback⟩ := SK.sortRow (enc := enc39) (k := 3) (fun _ => rfl) rfl k39_iff hr
    have eg : ∀ args w, (callFunc 28 args).run Try.prog w = .ok (.enter 28 args) w := enters_of Try.func28 (by kernel_rfl) rfl
    have hcon := AnyQ.slices_SortFunc Try.sortLegs 3 Try.isAgg39 Try.sizeOf39 enc39 (fun _ => rfl) (fun x v hv => by simp [enc39] at hv; rcases hv with rfl | rfl | rfl <;> rfl) cmpL cmpL_swo 28 #[] g 0 cap xs.toArray w eg (fun _ _ _ _ x y => cmp28 x y _) hH hlt (by simp; omega)
    change Calls Try.prog 27 _ _ _ at hcon
    refine hcon.mono ?_
    rintro e w' ⟨he, d', n, os, hp, hs, rfl⟩
    obtain ⟨hsz, _, hperm⟩ := hp
    have e1 : d'.extract 0 xs.toArray.size = d' := by rw [← hsz]; exact Array.extract_size
    rw [e1, Array.extract_size] at hperm
    have hd : d' = d'.toList.toArray := by simp
    refine ⟨he, d'.toList, ⟨by simpa using hperm, ?_⟩, ?_, ?_⟩
    · rw [List.pairwise_iff_getElem]
      intro i j hi hj hij
      have := hs i j (Nat.zero_le _) hij (by rw [← hsz]; simpa using hj)
      rw [cmpL_lt] at this
      simp at hi hj
      rw [getElem!_pos d' i hi, getElem!_pos d' j hj] at this
      simpa using this
    · rw [hd]
      exact hback n os d'.toList (by simpa using hsz)
    · exact SK.grownK d'
end Go.Proofs.Ytnilmhhidmdlnaa.PA
