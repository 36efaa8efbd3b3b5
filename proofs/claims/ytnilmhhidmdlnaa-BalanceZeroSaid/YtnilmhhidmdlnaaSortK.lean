/- Rows of plain structs under the sort of Go: what the sort asks of a row, and what it leaves. -/
import Derived.Test.YtnilmhhidmdlnaaWWords
import Derived.Shelf.SlSortCmp.WholeK
import Derived.Sort.OwnSorted
namespace Go.Proofs.Ytnilmhhidmdlnaa.SK
open Go Go.RowKit Go.Sort Go.Shelf Go.Proofs Go.Proofs.YtnilmhhidmdlnaaW.PrintWords

variable {α : Type} [Inhabited α] {enc : α → List Value} {k : Nat}
theorem getK (hk : ∀ x, (enc x).length = k) (d : Array α) (t : Nat) (h : t < d.size * k) : (flatK enc k d).toList[t]? = (enc d[t / k]!)[t % k]? := by
  have h0 : 0 < k := by rcases Nat.eq_zero_or_pos k with h0 | h0; · subst h0; simp at h
                        · exact h0
  have h1 : t % k < (enc d[t / k]!).length := by rw [hk]; exact Nat.mod_lt _ h0
  rw [List.getElem?_eq_getElem h1, List.getElem?_eq_getElem (by simp; exact h)]
  simp only [Array.getElem_toList]
  have := get_flatK enc k d t h
  rw [getElem!_pos _ t (by simpa using h)] at this
  rw [this, getElem!_pos (enc d[t / k]!) (t % k) h1]
theorem reps_flat (hk : ∀ x, (enc x).length = k) {xs : List α} {inner : List Value} (h : Reps (fun x cs => cs = enc x) k xs inner) : inner = (flatK enc k xs.toArray).toList := by
  obtain ⟨hl, hr⟩ := h
  apply List.ext_getElem?
  intro t
  by_cases ht : t < xs.length * k
  · have h0 : 0 < k := by rcases Nat.eq_zero_or_pos k with h0 | h0; · subst h0; simp at ht
                          · exact h0
    have hj : t / k < xs.length := Nat.div_lt_of_lt_mul (by rw [Nat.mul_comm]; exact ht)
    have := hr (t / k) _ (List.getElem?_eq_getElem hj)
    rw [getK hk _ _ (by simpa using ht)]
    have e1 : xs.toArray[t / k]! = xs[t / k] := by simp [hj]
    rw [e1, ← this, List.getElem?_take, if_pos (Nat.mod_lt _ h0), List.getElem?_drop]
    congr 1
    rw [Nat.mul_comm]
    exact (Nat.div_add_mod t k).symm
  · rw [List.getElem?_eq_none (by omega), List.getElem?_eq_none (by simp; omega)]
theorem flat_reps (hk : ∀ x, (enc x).length = k) (xs : List α) : Reps (fun x cs => cs = enc x) k xs (flatK enc k xs.toArray).toList := by
  refine ⟨by simp, fun j p hj => ?_⟩
  obtain ⟨hl, hp⟩ := List.getElem?_eq_some_iff.1 hj
  apply List.ext_getElem?
  intro t
  by_cases ht : t < k
  · rw [List.getElem?_take, if_pos ht, List.getElem?_drop]
    have hlt : j * k + t < xs.length * k := by
      have : (j + 1) * k ≤ xs.length * k := Nat.mul_le_mul_right _ hl
      rw [Nat.add_mul] at this
      omega
    rw [getK hk _ _ (by simpa using hlt)]
    have e1 : (j * k + t) / k = j := by rw [Nat.mul_comm, Nat.mul_add_div (by omega), Nat.div_eq_of_lt ht, Nat.add_zero]
    have e2 : (j * k + t) % k = t := by rw [Nat.mul_comm, Nat.mul_add_mod, Nat.mod_eq_of_lt ht]
    rw [e1, e2]
    have e3 : xs.toArray[j]! = p := by simp [hl, hp]
    rw [e3]
  · rw [List.getElem?_take, if_neg ht, List.getElem?_eq_none (by rw [hk]; omega)]
theorem heapK {w : World} {g n : Nat} {os : Array Obj} {cur : Array Value} {e : TypeId} {fr : Nat × Nat} (d : Array α) (hb : w.heap[g]? = some (.cells cur e fr)) :
    (sortWorldK enc k w g 0 n d os).heap[g]? = some (.cells (putCells id 0 (flatK enc k d) cur) e fr) := by
  have hg : g < w.heap.size := (Array.getElem?_eq_some_iff.1 hb).1
  unfold sortWorldK putRowK
  rw [heap_grow_old _ _ (by simpa using hg)]
  simp [putRow, mapBlock, Sort.ahead, Array.getElem?_modify, hb, onCells]
theorem grownK {w : World} {g n : Nat} {os : Array Obj} (d : Array α) : w.grownBy (sortWorldK enc k w g 0 n d os) (some g) := by
  unfold sortWorldK putRowK
  refine ⟨rfl, rfl, rfl, by simp, fun k hk hne => ?_⟩
  rw [heap_grow_old _ _ (by simpa using hk)]
  have : g ≠ k := fun e => hne (by rw [e])
  simp [putRow, mapBlock, Sort.ahead, Array.getElem?_modify, this]
theorem take_putCellsK (cur : Array Value) (F : Array Value) (h : F.size ≤ cur.size) : (putCells id 0 F cur).toList.take F.size = F.toList := by
  apply List.ext_getElem?
  intro j
  by_cases hj : j < F.size
  · rw [List.getElem?_take_of_lt hj, Array.getElem?_toList]
    simp [putCells, hj, show j < cur.size by omega]
  · rw [List.getElem?_take_eq_none (by omega), List.getElem?_eq_none (by simp; omega)]
variable {d : Kd α} {e : Nat} {w : World} {base : Nat} {ok : Nat → Prop}
/-- What the sort asks of a row; what it leaves. -/
theorem sortRow (hk : ∀ x, (enc x).length = k) (hd : d.sz = k) (hM : ∀ w base ok x cs, d.M w base ok x cs ↔ cs = enc x) {g n cap : Nat} {xs : List α} (h : Kd.R d e w base ok (.slice (some ⟨g, 0, none⟩) n cap) xs) :
    n = xs.length ∧ g < w.heap.size ∧ HoldsK enc k w g 0 xs.toArray ∧ ∀ (m : Nat) (os : Array Obj) (ys : List α), ys.length = xs.length → Kd.R d e (sortWorldK enc k w g 0 m ys.toArray os) base ok (.slice (some ⟨g, 0, none⟩) n cap) ys := by
  subst hd
  obtain ⟨h0, inner, ho, hr⟩ := h
  obtain ⟨hl, h1⟩ := ho
  rcases h1 with ⟨h1, _⟩ | ⟨g', cap', cur, h1, hb, hg, hn, hm, hs, ht⟩
  · cases h1
  simp only [Value.slice.injEq, Option.some.injEq, Addr.mk.injEq] at h1
  obtain ⟨⟨rfl, _⟩, rfl, rfl⟩ := h1
  have hr' : Reps (fun x cs => cs = enc x) d.sz xs inner := hr.imp_ (fun x cs hp => (hM _ _ _ _ _).1 hp)
  have hin := reps_flat hk hr'
  have hlt : g < w.heap.size := (Array.getElem?_eq_some_iff.1 hg).1
  refine ⟨rfl, hlt, ?_, fun m os ys hy => ⟨h0, (flatK enc d.sz ys.toArray).toList, ⟨by simp [hy], .inr ⟨g, cap, _, by rw [hy], hb, heapK _ hg, by omega, hm, by simp [putCells, hs], ?_⟩⟩, ?_⟩⟩
  · intro j hj
    rw [size_flatK] at hj
    refine ⟨?_, by simp [World.frozen?, hg]⟩
    have h1 : (cur.toList.take (xs.length * d.sz))[j]? = (flatK enc d.sz xs.toArray).toList[j]? := by rw [ht, hin]
    have hj' : j < xs.length * d.sz := by simpa using hj
    rw [List.getElem?_take_of_lt hj'] at h1
    simp only [World.cell?, hg, Nat.zero_add]
    simp only [Option.isSome_none, Bool.false_eq_true, if_false]
    rw [← Array.getElem?_toList, h1, Array.getElem?_toList, Array.getElem?_eq_getElem (by simpa using hj)]
    simp only [id]
    rw [getElem!_pos _ j (by simpa using hj)]
  · have hsz : (flatK enc d.sz ys.toArray).size = ys.length * d.sz := by simp
    rw [← hsz]
    exact take_putCellsK cur _ (by rw [hsz, hs, hy]; exact Nat.mul_le_mul_right _ hn)
  · exact (flat_reps hk ys).imp_ (fun x cs hp => (hM _ _ _ _ _).2 hp)
end Go.Proofs.Ytnilmhhidmdlnaa.SK
