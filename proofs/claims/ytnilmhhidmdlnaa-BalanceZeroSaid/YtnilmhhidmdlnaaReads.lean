/- What an argument reads as: numbers, strings, structs and slices of them, whatever the nesting. -/
import Derived.Test.YtnilmhhidmdlnaaWWords
import Derived.Deep.Slices
import Derived.Deep.Fields
import Derived.ChangeArms
namespace Go.Proofs.Ytnilmhhidmdlnaa.RD
open Go Go.RowKit Go.Deep Go.ChangeShapes Go.WideShapes Go.Proofs.YtnilmhhidmdlnaaW.PrintWords
set_option linter.unusedVariables false

variable {H : Type} {enc : TypeId × Value → H} {P : Program} {α β : Type} {T E : TypeId}
/-- Whatever reads as a value of type T is one of d's, and q holds of it. -/
def Opens (P : Program) (enc : TypeId × Value → H) (T : TypeId) (d : Kd α) (q : α → Prop) : Prop :=
  ∀ (w : World) (base : Nat) (spare : Nat → Bool) (held : Bool) (fuel : Nat) (cs : List Value) (x : DataW H × List MemPlace), DataW.trod enc P w base spare held fuel T cs = some x → ∃ a, d.K w a cs ∧ q a
theorem Opens.int {k : IntKind} (hu : P.underlying T = some (.int k)) : Opens P enc T (Kd.int k) (fun x => (Lit.int k x).wf = true) := fun w base spare held fuel cs x h => by
  obtain ⟨n, rfl, _, hw⟩ := DataW.trod_int hu h
  exact ⟨n, rfl, hw⟩
theorem Opens.string (hu : P.underlying T = some .string) : Opens P enc T Kd.string (fun s => s.size ≤ maxLen) := fun w base spare held fuel cs x h => by
  obtain ⟨s, rfl, _, hw⟩ := DataW.trod_string hu h
  exact ⟨s, rfl, hw⟩
/-- .. of the fields from i on, which lie from off on. -/
def OpensAt (P : Program) (enc : TypeId × Value → H) (fs : Array Field) (i off tot : Nat) (d : Kd α) (q : α → Prop) : Prop :=
  ∀ (w : World) (base : Nat) (spare : Nat → Bool) (held : Bool) (fuel : Nat) (cs : List Value), cs.length = tot →
    (∀ (j : Nat) (f : Field), i ≤ j → fs[j]? = some f → ∃ y, DataW.trod enc P w base spare held fuel f.type ((cs.drop f.offset).take (P.cellsOf f.type)) = some y) → ∃ a, d.K w a (cs.drop off) ∧ q a
theorem OpensAt.last {fs : Array Field} {i off tot : Nat} {f : Field} {d : Kd α} {q : α → Prop} (hd : Opens P enc T d q) (hf : fs[i]? = some f) (hT : f.type = T) (ho : f.offset = off) (hc : P.cellsOf f.type = d.sz) (ht : tot = off + d.sz) : OpensAt P enc fs i off tot d q := by
  intro w base spare held fuel cs hl h
  obtain ⟨y, hy⟩ := h i f (Nat.le_refl _) hf
  rw [hT] at hc
  rw [hT, ho, hc] at hy
  have e : (cs.drop off).take d.sz = cs.drop off := List.take_of_length_le (by simp; omega)
  rw [e] at hy
  exact hd w base spare held fuel _ y hy
theorem OpensAt.cons {fs : Array Field} {i off tot : Nat} {f : Field} {d : Kd α} {q : α → Prop} {d' : Kd β} {q' : β → Prop} (hd : Opens P enc T d q) (hf : fs[i]? = some f) (hT : f.type = T) (ho : f.offset = off) (hc : P.cellsOf f.type = d.sz) (hr : OpensAt P enc fs (i + 1) (off + d.sz) tot d' q') :
    OpensAt P enc fs i off tot (Kd.pair d d') (fun p => q p.1 ∧ q' p.2) := by
  intro w base spare held fuel cs hl h
  obtain ⟨y, hy⟩ := h i f (Nat.le_refl _) hf
  rw [hT] at hc
  rw [hT, ho, hc] at hy
  obtain ⟨a, ha, hq⟩ := hd w base spare held fuel _ y hy
  obtain ⟨b, hb, hq'⟩ := hr w base spare held fuel cs hl (fun j f hj => h j f (by omega))
  refine ⟨(a, b), ⟨_, _, ?_, ha, hb⟩, hq, hq'⟩
  rw [← List.drop_drop]
  exact (List.take_append_drop _ _).symm
theorem Opens.struct {fs : Array Field} {tot : Nat} {d : Kd β} {q : β → Prop} {g : α → β} (hu : P.underlying T = some (.struct fs)) (hc : P.cellsOf T = tot) (hd : OpensAt P enc fs 0 0 tot d q) (k : β → α) (hk : ∀ b, g (k b) = b) : Opens P enc T (Kd.iso d g) (fun x => q (g x)) := by
  intro w base spare held fuel cs x h
  obtain ⟨xs, n, _, _, hl, hx, hf⟩ := DataW.trod_struct hu h
  obtain ⟨b, hb, hq⟩ := hd w base spare held n cs (hl.trans hc) (fun j f _ hj => by
    have := hf j f hj
    have hlt : j < xs.length := by rw [hx]; exact (Array.getElem?_eq_some_iff.1 hj).1
    exact ⟨_, this.trans (List.getElem?_eq_getElem hlt)⟩)
  rw [List.drop_zero] at hb
  exact ⟨k b, by show d.K w (g (k b)) cs; rw [hk]; exact hb, by show q (g (k b)); rw [hk]; exact hq⟩
theorem Opens.slice {d : Kd α} {q : α → Prop} (hu : P.underlying T = some (.slice E)) (hc : P.cellsOf E = d.sz) (hd : Opens P enc E d q) : Opens P enc T (Kd.slice E d) (fun l => ∀ x ∈ l, q x) := by
  intro w base spare held fuel cs x h
  rcases open_slice hu h with ⟨rfl, _⟩ | ⟨a, len, cap, m, n, D, Pl, rfl, hb, hl, hm, hmm, _, hi⟩
  · exact ⟨[], ⟨none, 0, rfl, Nat.le_refl _, Kd.C_nil _ _⟩, by simp⟩
  · have hlm : len ≤ m := by rw [hmm]; split <;> omega
    have hx : ∀ i, i < len → ∃ y, (∃ c, c.length = d.sz ∧ d.K w y c ∧ ∀ j u, c[j]? = some u → w.cell? (a.add (i * d.sz + j)) = some u) ∧ q y := by
      intro i hlt
      obtain ⟨cs', h1, h2⟩ := hi i (by omega)
      obtain ⟨y, hy, hq⟩ := hd w base spare held n cs' _ h2
      obtain ⟨_, h3, h4⟩ := World.cells?_some h1
      rw [hc] at h3 h4
      refine ⟨y, ⟨cs', h3, hy, fun j u hj => ?_⟩, hq⟩
      have hjl : j < d.sz := by rw [← h3]; exact (List.getElem?_eq_some_iff.1 hj).1
      have := h4 j hjl
      rw [Go.Deep.add_add] at this
      exact this.trans hj
    obtain ⟨F, hF⟩ : ∃ F : Fin len → α, ∀ i : Fin len, (∃ c, c.length = d.sz ∧ d.K w (F i) c ∧ ∀ j u, c[j]? = some u → w.cell? (a.add (i.val * d.sz + j)) = some u) ∧ q (F i) :=
      ⟨fun i => Classical.choose (hx i.val i.isLt), fun i => Classical.choose_spec (hx i.val i.isLt)⟩
    refine ⟨List.ofFn F, ⟨some a, cap, by simp, by simpa using hl, ⟨rfl, by simp; unfold maxLen at hm; omega, fun _ => ⟨a, rfl, fun j p hj => ?_⟩⟩⟩, fun y hy => ?_⟩
    · rw [List.getElem?_ofFn] at hj
      split at hj
      · rename_i hlt
        simp only [Option.some.injEq] at hj
        subst hj
        exact (hF ⟨j, hlt⟩).1
      · cases hj
    · obtain ⟨i, rfl⟩ := List.mem_ofFn.1 hy
      exact (hF i).2
/-- A slice that was handed in. -/
theorem Opens.arg {d : Kd α} {q : α → Prop} {w : World} {base : Nat} {spare : Nat → Bool} {held : Bool} {A : Option Addr} {n c : Nat} {y : DataW H} {p : List MemPlace} (ho : Opens P enc T (Kd.slice E d) (fun l => ∀ x ∈ l, q x)) (h : DataW.Trod enc P w base spare held T (.slice A n c) y p) :
    ∃ l : List α, n = l.length ∧ l.length ≤ c ∧ Kd.C d w A l.length l ∧ ∀ x ∈ l, q x := by
  obtain ⟨fuel, hf⟩ := h
  obtain ⟨l, ⟨A', c', h1, h2, h3⟩, hq⟩ := ho w base spare held fuel _ _ hf
  simp [Value.cells] at h1
  obtain ⟨rfl, rfl, rfl⟩ := h1
  exact ⟨l, rfl, h2, h3, hq⟩
end Go.Proofs.Ytnilmhhidmdlnaa.RD
