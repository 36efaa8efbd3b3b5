/- slices.Sort and slices.Compact at a row of ints of the caller's own. -/
import Derived.Sort.OwnSortedInts
import Derived.Lib.RowBridge
import Derived.Test.YtnilmhhidmdlnaaSort
import Derived.Test.YtnilmhhidmdlnaaPAx0
namespace Go.Proofs.Ytnilmhhidmdlnaa.PA
open Go.RowKit Go.Sort Go.Shelf Go.Proofs.YtnilmhhidmdlnaaW.PrintWords Go.Proofs.YtnilmhhidmdlnaaW.PrintLast Go.Proofs.YtnilmhhidmdlnaaW.PrintMore

def sortI (xs : List Int) : List Int := xs.mergeSort fun x y => decide (x ≤ y)
theorem sortI_len (xs : List Int) : (sortI xs).length = xs.length := by unfold sortI; exact List.length_mergeSort xs
theorem sort_own (W : World) (b : Nat) (v : Value) (xs : List Int) (h : W.ownsRow b 3 1 v xs.length (xs.map (Value.int .i64))) (hl : xs.length ≤ 4096) :
    Calls Try.prog 33 #[v] W fun e w' => e = .returned (.tuple #[]) ∧ w'.ownsRow b 3 1 v (sortI xs).length ((sortI xs).map (Value.int .i64)) ∧ W.grownBy w' v.ownBlock := by
  obtain ⟨h1, ⟨rfl, h2⟩ | ⟨g, cap, cur, rfl, hb, hg, hn, hm, hs, ht⟩⟩ := h
  · have hx : xs = [] := List.eq_nil_of_length_eq_zero h2
    subst hx
    have hc := AnyM.slices_Sort_int_none Try.sortInts none 0 W
    change Calls Try.prog 33 _ _ _ at hc
    refine hc.mono ?_
    rintro e w' ⟨rfl, rfl⟩
    exact ⟨rfl, by rw [show sortI [] = [] by simp [sortI]]; exact World.ownsRow_nil _ _ _ _, ⟨rfl, rfl, rfl, Nat.le_refl _, fun _ _ _ => rfl⟩⟩
  · rw [Nat.mul_one] at ht
    have hH := holds_of_blockI hg ht
    have hc := AnyM.slices_Sort_int Try.sortInts g 0 cap xs W hH (Array.getElem?_eq_some_iff.1 hg).1 (by omega)
    change Calls Try.prog 33 _ _ _ at hc
    refine hc.mono ?_
    rintro e w' ⟨rfl, n, os, rfl⟩
    refine ⟨rfl, ?_, ?_⟩
    · have := ownsRow_sortedI (n := n) (os := os) (sortI_len xs) hb hg hn hm (by omega)
      rw [← sortI_len xs] at this
      rw [sortI_len xs] at this ⊢
      exact this
    · exact grownBy_sortedI _

theorem compact_own (W : World) (b : Nat) (v : Value) (xs : List Int) (h : W.ownsRow b 3 1 v xs.length (xs.map (Value.int .i64))) (hl : xs.length ≤ 4096) :
    Calls Try.prog 34 #[v] W fun e w' => ∃ v', e = .returned v' ∧ w'.ownsRow b 3 1 v' (Lib.compact xs).length ((Lib.compact xs).map (Value.int .i64)) ∧ W.grownBy w' v.ownBlock := by
  obtain ⟨h1, ⟨rfl, h2⟩ | ⟨g, cap, cur, rfl, hb, hg, hn, hm, hs, ht⟩⟩ := h
  · have hx : xs = [] := List.eq_nil_of_length_eq_zero h2
    subst hx
    have hc := AnyG.slices_Compact_int_empty Try.compactInts none 0 W
    change Calls Try.prog 34 _ _ _ at hc
    refine hc.mono ?_
    rintro e w' ⟨rfl, rfl⟩
    exact ⟨_, rfl, World.ownsRow_nil _ _ _ _, ⟨rfl, rfl, rfl, Nat.le_refl _, fun _ _ _ => rfl⟩⟩
  · rw [Nat.mul_one] at ht
    have hH := holds_of_blockI hg ht
    have hc := AnyG.slices_Compact_int Try.compactInts g 0 cap xs W hH (by omega) hn
    change Calls Try.prog 34 _ _ _ at hc
    refine hc.mono ?_
    rintro e w' ⟨rfl, q, rfl⟩
    have hcl : (Lib.compact xs).length ≤ xs.length := Lib.compact_length_le xs
    have hg0 : ∀ (X : World), grow X #[] = X := fun X => by simp [grow]
    have e0 : (Lib.compact xs ++ List.replicate (xs.length - (Lib.compact xs).length) 0).length = xs.length := by simp; omega
    have h3 := ownsRow_sortedI (n := q) (os := #[]) e0 hb hg hn hm (by omega)
    rw [hg0] at h3
    have h4 := own_take h3 hcl
    refine ⟨_, rfl, ?_, ?_⟩
    · rw [Nat.mul_one, List.map_append, List.take_left' (by simp)] at h4
      exact h4
    · have h5 := grownBy_sortedI (w := W) (g := g) (n := q) (os := #[]) (Lib.compact xs ++ List.replicate (xs.length - (Lib.compact xs).length) 0).toArray
      rw [hg0] at h5
      exact h5
end Go.Proofs.Ytnilmhhidmdlnaa.PA
