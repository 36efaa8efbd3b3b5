/- A map[int]bool of the call's own, into which only true is stored: the set of its keys. -/
import Derived.Maps.OwnOps
import Derived.Maps.OwnSet
import Derived.Maps.Views
import Derived.Deep.Draws
namespace Go.Proofs.Ytdieblejeeojhaa.MS
open Go Go.Maps

variable {P : Program} {T K E : TypeId}
/-- Block b is a map of at most n entries that holds true at the keys of S, and false elsewhere. -/
def BM (P : Program) (K E : TypeId) (w : World) (b n : Nat) (S : List Int) : Prop :=
  ∃ D : DataW Unit, w.ownsMap P K (plainElem P E) b n D ∧ IsMap D ∧ ∀ x : Int, D.atKey (.int .i64 x) (.lit (.bool false)) = .lit (.bool (decide (x ∈ S)))
theorem BM.made (w : World) : BM P K E (w.alloc (.map #[] 0)) w.heap.size 0 [] :=
  ⟨.map [], World.ownsMap_made _ _ _ _, isMap_empty, fun _ => rfl⟩
theorem BM.mono {w : World} {b n n' : Nat} {S : List Int} (h : BM P K E w b n S) (hn : n ≤ n') : BM P K E w b n' S := by
  obtain ⟨D, h1, h2, h3⟩ := h
  exact ⟨D, h1.mono hn, h2, h3⟩
theorem BM.lt {w : World} {b n : Nat} {S : List Int} (h : BM P K E w b n S) : b < w.heap.size := by
  obtain ⟨D, h1, _⟩ := h
  exact h1.lt
theorem BM.kept {w w' : World} {b n : Nat} {S : List Int} {row : Option Nat} (h : BM P K E w b n S) (hg : w.grownBy w' row) (hne : some b ≠ row) : BM P K E w' b n S := by
  obtain ⟨D, h1, h2, h3⟩ := h
  exact ⟨D, h1.kept hg hne, h2, h3⟩
theorem BM.alloc {w : World} {b n : Nat} {S : List Int} (h : BM P K E w b n S) (o : Obj) : BM P K E (w.alloc o) b n S := by
  obtain ⟨D, h1, h2, h3⟩ := h
  exact ⟨D, h1.alloc o, h2, h3⟩
theorem BM.drew {w : World} {b n : Nat} {S : List Int} (h : BM P K E w b n S) : BM P K E w.drew b n S := by
  obtain ⟨D, h1, h2, h3⟩ := h
  exact ⟨D, h1.drew, h2, h3⟩
theorem BM.drewN {w : World} {b n : Nat} {S : List Int} (h : BM P K E w b n S) (m : Nat) : BM P K E (w.drewN m) b n S := h
theorem BM.same {w w' : World} {b n : Nat} {S : List Int} (h : BM P K E w b n S) (e : w'.heap[b]? = w.heap[b]?) : BM P K E w' b n S := by
  obtain ⟨D, ⟨es, c, h1, h4⟩, h2, h3⟩ := h
  exact ⟨D, ⟨es, c, e.trans h1, h4⟩, h2, h3⟩
theorem BM.set {w : World} {b n : Nat} {S : List Int} (h : BM P K E w b n S) {a : Addr} (ha : b ≠ a.block) (u : Value) : BM P K E (w.setCell a u) b n S := by
  obtain ⟨D, h1, h2, h3⟩ := h
  exact ⟨D, h1.setCell ha u, h2, h3⟩
theorem bool_inv (he : P.underlying E = some .bool) {v : Value} {z : DataW Unit × List MemPlace} (h : plainElem P E v = some z) : ∃ x, v = .bool x ∧ z = (.lit (.bool x), []) := by
  unfold plainElem at h
  rw [he] at h
  cases v <;> simp at h
  exact ⟨_, rfl, h.symm⟩
/-- m[x]. -/
theorem BM.look {w : World} {b n : Nat} {S : List Int} (h : BM P K E w b n S) (hk : P.underlying K = some (.int .i64)) (ht : P.underlying T = some (.map K E)) (he : P.underlying E = some .bool) (hz : (zeroValue E).run P w = .ok (.bool false) w)
    {x : Int} (hx : (Lit.int .i64 x).wf = true) : (Instr.lookup T (.map (some b)) (.int .i64 x) false).run P w = .ok (.bool (decide (x ∈ S))) w := by
  obtain ⟨D, h1, h2, h3⟩ := h
  obtain ⟨v, ps, hrun, hv⟩ := h1.lookup (int_keyed hk) ht hz (plainElem_bool he false) (keyOf_int_mk hk hx)
  obtain ⟨c, rfl, hc⟩ := bool_inv he hv
  rw [h3 x] at hc
  simp only [Prod.mk.injEq, DataW.lit.injEq, Lit.bool.injEq] at hc
  rw [hrun, hc.1]
theorem BM.lookb {w : World} {b n : Nat} {S : List Int} {x : Int} {c : Bool} (h : BM P K E w b n S) (hk : P.underlying K = some (.int .i64)) (ht : P.underlying T = some (.map K E)) (he : P.underlying E = some .bool) (hz : (zeroValue E).run P w = .ok (.bool false) w)
    (hx : (Lit.int .i64 x).wf = true) (hc : (decide (x ∈ S)) = c) : (Instr.lookup T (.map (some b)) (.int .i64 x) false).run P w = .ok (.bool c) w := hc ▸ h.look hk ht he hz hx
/-- m[x] of a nil map. -/
theorem look_nil_bool {w : World} (hk : P.underlying K = some (.int .i64)) (ht : P.underlying T = some (.map K E)) (hz : (zeroValue E).run P w = .ok (.bool false) w)
    {x : Int} (hx : (Lit.int .i64 x).wf = true) : (Instr.lookup T (.map none) (.int .i64 x) false).run P w = .ok (.bool false) w :=
  (Maps.look_nil false (int_keyed hk) ht hz (keyOf_int_mk hk hx))
/-- m[x] = true. -/
theorem BM.update {w : World} {b n : Nat} {S : List Int} (h : BM P K E w b n S) (hk : P.underlying K = some (.int .i64)) (ht : P.underlying T = some (.map K E)) (he : P.underlying E = some .bool) (hn : n < maxLen)
    {x : Int} (hx : (Lit.int .i64 x).wf = true) : ∃ w', (Instr.mapUpdate T (.map (some b)) (.int .i64 x) (.bool true)).run P w = .ok () w' ∧ BM P K E w' b (n + 1) (x :: S) ∧ w.grownBy w' (some b) ∧ w'.heap.size = w.heap.size := by
  obtain ⟨D, h1, h2, h3⟩ := h
  obtain ⟨w', hrun, h4, h5⟩ := h1.store (int_keyed hk) ht hn (keyOf_int_mk hk hx) (plainElem_bool he true)
  refine ⟨w', hrun, ⟨_, h4, h2.put _ _, ?_⟩, h5.grown, ?_⟩
  · intro y
    by_cases e : y = x
    · subst e
      rw [atKey_put_same h2 (by trivial)]
      simp
    · rw [atKey_put_other (by simpa using e), h3 y]
      simp [e]
  · obtain ⟨_, _, _, _, _, e⟩ := h5
    rw [e]; simp [ChangeMaps.setBlock]
end Go.Proofs.Ytdieblejeeojhaa.MS
