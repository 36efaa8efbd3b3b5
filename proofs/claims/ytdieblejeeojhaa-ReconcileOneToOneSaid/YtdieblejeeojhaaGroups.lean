/- A map of lists of numbers of the call's own: what a look-up gives, and one round of m[k] = append(m[k], x), as equations. -/
import Derived.Maps.GroupsBeside
import Derived.Maps.AppendAt
import Derived.Deep.Draws
import Derived.Deep.RegionLaw
namespace Go.Proofs.Ytdieblejeeojhaa.GM
open Go Go.Maps Go.RowKit
open Go.WideElems (Fit rd rg pl rd_val)

variable {P : Program} {t k E e : TypeId} {base : Nat}

def items : DataW Unit → List Int
  | .slice es _ => es.map (fun d => match d with | .lit (.int _ z) => z | _ => 0)
  | _ => []
theorem items_row {w : World} {b : Nat} {q : IntKind} {v : Value} {zs : List Int} (h : w.ownsInts b e q v zs) : items (rowDatum q v zs) = zs := by
  rcases h.datum (H := Unit) with ⟨h1, h2⟩ | h1
  · rw [h1, h2]; rfl
  · rw [h1]; simp [items, ChangeShapes.lits, Function.comp_def]
open Classical in
/-- G with zs at kl. -/
noncomputable def upd (G : Lit → List Int) (kl : Lit) (zs : List Int) : Lit → List Int := fun y => if y = kl then zs else G y
/-- Block b is a map of at most n entries; at each key it holds the list G tells, in a row of its own; no row is a block of which No holds. -/
def GMp (P : Program) (k e : TypeId) (base : Nat) (w : World) (b n : Nat) (No : Nat → Prop) (G : Lit → List Int) : Prop :=
  ∃ D : DataW Unit, w.ownsGroups P k base e .i64 b n D ∧ IsMap D ∧ w.Shuns b No ∧ ∀ kl, items (D.atKey kl .nil) = G kl

theorem GMp.made (w : World) (No : Nat → Prop) (hb : w.heap.size < base) : GMp P k e base (w.alloc (.map #[] 0)) w.heap.size 0 No (fun _ => []) :=
  ⟨.map [], ⟨#[], 0, (MapKept.heap_alloc w _).1, ⟨by simp, MapKept.stamped_empty 0, by simp⟩, Nat.le_refl _, rfl, hb, by simp, by simp⟩, isMap_empty, World.Shuns_made _ _, fun _ => rfl⟩
theorem GMp.lt {w : World} {b n : Nat} {No : Nat → Prop} {G : Lit → List Int} (h : GMp P k e base w b n No G) : b < w.heap.size ∧ b < base := by
  obtain ⟨D, ⟨es, clock, hb, _, _, _, hbb, _⟩, _⟩ := h
  exact ⟨(Array.getElem?_eq_some_iff.1 hb).1, hbb⟩
theorem GMp.kept {w w' : World} {b n : Nat} {No : Nat → Prop} {G : Lit → List Int} {row : Option Nat} (h : GMp P k e base w b n No G) (hg : w.grownBy w' row) (hb : some b ≠ row) (hr : ∀ j, row = some j → j < base ∨ No j) : GMp P k e base w' b n No G := by
  have hlt := h.lt
  obtain ⟨D, h1, h2, h3, h4⟩ := h
  refine ⟨D, h1.kept hg hb ?_, h2, h3.kept hg hlt.1 hb, h4⟩
  cases row with
  | none =>
    intro es clock _ x _
    cases x.val.ownBlock <;> simp
  | some j =>
    rcases hr j rfl with h | h
    · exact h1.rowsAbove (fun i hi => by cases hi; exact h)
    · exact h3.rowsOff (fun i hi => by cases hi; exact h)
theorem GMp.reno {w : World} {b n : Nat} {No No' : Nat → Prop} {G : Lit → List Int} (h : GMp P k e base w b n No G) (hn : ∀ j, No' j → No j ∨ w.heap.size ≤ j) : GMp P k e base w b n No' G := by
  obtain ⟨D, h1, h2, h3, h4⟩ := h
  exact ⟨D, h1, h2, h3.reno h1 hn, h4⟩
theorem GMp.eq {w : World} {b n : Nat} {No : Nat → Prop} {G G' : Lit → List Int} (h : GMp P k e base w b n No G) (hG : ∀ y, G y = G' y) : GMp P k e base w b n No G' := by
  obtain ⟨D, h1, h2, h3, h4⟩ := h
  exact ⟨D, h1, h2, h3, fun y => (h4 y).trans (hG y)⟩
theorem uniq : ∀ {l : List MapEntry}, l.Pairwise (fun x y => x.key ≠ y.key) → ∀ a ∈ l, ∀ b ∈ l, a.key = b.key → a = b
  | [], _, _, h, _, _, _ => by cases h
  | x :: r, hp, a, ha, b, hb, e => by
    obtain ⟨h1, h2⟩ := List.pairwise_cons.1 hp
    rcases List.mem_cons.1 ha with p | p <;> rcases List.mem_cons.1 hb with q | q
    · rw [p, q]
    · rw [p] at e; exact absurd e (h1 b q)
    · rw [q] at e; exact absurd e.symm (h1 a p)
    · exact uniq h2 a p b q e
/-- A look-up hangs on the map's block alone. -/
theorem look_same {w W : World} {b : Nat} {es : Array MapEntry} {clock : Nat} {key v : Value} {kl : Lit} {R : Value → Option (DataW Unit × List MemPlace)} (K : Keyed P k) (ht : P.underlying t = some (.map k E)) (hz : ∀ W : World, (zeroValue E).run P W = .ok (.slice none 0 0) W)
    (hb : w.heap[b]? = some (.map es clock)) (F : Fit P k R es clock) (hkey : keyOf P k key = some kl) (hrun : (Instr.lookup t (.map (some b)) key false).run P w = .ok v w) (hW : W.heap[b]? = w.heap[b]?) :
    (Instr.lookup t (.map (some b)) key false).run P W = .ok v W := by
  have hbW := hW.trans hb
  rcases Maps.fit_look false K ht (hz w) hb F hkey with ⟨h1, h2, _⟩ | ⟨e0, y, m0, k0, h1, _⟩ <;> rcases Maps.fit_look false K ht (hz W) hbW F hkey with ⟨g1, g2, _⟩ | ⟨e1, y1, m1, k1, g1, _⟩
  · rw [hrun] at h1
    rw [g1]
    simp at h1 ⊢
    exact h1.symm
  · exact absurd k1 (h2 e1 m1)
  · exact absurd k0 (g2 e0 m0)
  · have := uniq ((MapKept.stamped_iff es clock).1 F.stamped).2.2 e0 m0 e1 m1 (k0.trans k1.symm)
    subst this
    rw [hrun] at h1
    rw [g1]
    simp at h1 ⊢
    exact h1.symm
/-- m[k]. -/
theorem GMp.look {w : World} {b n : Nat} {No : Nat → Prop} {G : Lit → List Int} (h : GMp P k e base w b n No G) (K : Keyed P k) (ht : P.underlying t = some (.map k E)) (hz : ∀ W : World, (zeroValue E).run P W = .ok (.slice none 0 0) W) (hn : n < maxLen) {key : Value} {kl : Lit} (hkey : keyOf P k key = some kl) :
    ∃ v, w.ownsInts base e .i64 v (G kl) ∧ (G kl).length ≤ n ∧ (∀ g, v.ownBlock = some g → base ≤ g ∧ g < w.heap.size ∧ ¬ No g) ∧ ∀ W : World, W.heap[b]? = w.heap[b]? → (Instr.lookup t (.map (some b)) key false).run P W = .ok v W := by
  obtain ⟨D, h1, h2, h3, h4⟩ := h
  obtain ⟨v, zs, hrun, hat, hoi, hl, _⟩ := h1.at K ht (hz w) hn hkey
  have hzs : zs = G kl := by rw [← h4 kl, hat, items_row hoi]
  subst hzs
  obtain ⟨es, clock, hb, F, _⟩ := h1
  refine ⟨v, hoi, hl, fun g hg => ⟨(hoi.1.lt g hg).1, (hoi.1.lt g hg).2, ?_⟩, fun W hW => look_same K ht hz hb F hkey hrun hW⟩
  rcases Maps.fit_look false K ht (hz w) hb F hkey with ⟨hrun', _, _⟩ | ⟨e0, y, hm0, _, hrun', _, _, _⟩
  · rw [hrun] at hrun'
    obtain rfl : v = .slice none 0 0 := by simpa using hrun'
    cases hg
  · rw [hrun] at hrun'
    obtain rfl : v = e0.val := by simpa using hrun'
    exact h3 es clock hb e0 hm0 g hg
/-- m[k] = append(m[k], x): the look-up, the append (behind the one-cell block of x), the store. -/
theorem GMp.round {w W : World} {b n : Nat} {No : Nat → Prop} {G : Lit → List Int} (h : GMp P k e base w b n No G) (K : Keyed P k) (ht : P.underlying t = some (.map k E)) (hE : P.underlying E = some (.slice e)) (info : (P.info? e).map (fun i => (i.zero, i.size, i.bytes)) = some (some (.int .i64 0), 1, 8))
    (hz : ∀ W : World, (zeroValue E).run P W = .ok (.slice none 0 0) W) (hn : n < 1000000) {key : Value} {kl : Lit} (hkey : keyOf P k key = some kl) (hW : w.grownBy W none) {x : Int} (hx : (Lit.int .i64 x).wf = true) (hbase : base ≤ w.heap.size) (ty : TypeId) :
    ∃ v v' w1 w2, (∀ g, v.ownBlock = some g → base ≤ g ∧ g < w.heap.size ∧ ¬ No g) ∧ (∀ W' : World, W'.heap[b]? = w.heap[b]? → (Instr.lookup t (.map (some b)) key false).run P W' = .ok v W') ∧
      (Builtin.append_ #[E, E] ty #[v, .slice (some ⟨W.heap.size, 0, none⟩) 1 1]).run P (W.alloc (.cells #[.int .i64 x] e)) = .ok v' w1 ∧ (W.alloc (.cells #[.int .i64 x] e)).grownBy w1 v.ownBlock ∧
      (Instr.mapUpdate t (.map (some b)) key v').run P w1 = .ok () w2 ∧ w1.grownBy w2 (some b) ∧
      GMp P k e base w2 b (n + 1) (fun j => No j ∧ j < w.heap.size) (upd G kl (G kl ++ [x])) := by
  have hlt := h.lt
  obtain ⟨v, hoi, hl, hv, hlook⟩ := h.look K ht hz (by unfold maxLen; omega) hkey
  obtain ⟨D, h1, h2, h3, h4⟩ := h
  obtain ⟨v0, zs, hrun, hat, hoi0, hl0, hback⟩ := h1.at K ht (hz w) (by unfold maxLen; omega) hkey
  have hv0 : v0 = v := by have := hlook w rfl; rw [hrun] at this; simpa using this
  subst hv0
  have hzs : zs = G kl := by rw [← h4 kl, hat, items_row hoi0]
  subst hzs
  obtain ⟨i0, hi, hz0, hz1, hz2⟩ := info_parts info
  have hoiW : W.ownsInts base e .i64 v0 (G kl) := hoi.kept hW (by cases v0.ownBlock <;> simp)
  have hsz : w.heap.size ≤ W.heap.size := hW.size
  obtain ⟨v', w1, happ, hown', hgrow, _, hloc⟩ := run_append_own_at (P := P) (W.alloc (.cells #[.int .i64 x] e)) base E ty e i0 (.int .i64 0) 1 8 hE hi hz0 hz1 hz2 rfl (by decide) v0 (G kl).length _ (hoiW.alloc _).1
    ⟨W.heap.size, 0, none⟩ 1 1 [.int .i64 x] rfl (cell_one_new _ _ _) (by simp [Value.oneCell']) (by unfold maxLen; omega) (by omega) (by simp; omega)
  have hgw1 : w.grownBy w1 v0.ownBlock := (show w.grownBy W v0.ownBlock from ⟨hW.os, hW.tape, hW.output, hW.size, fun i hi _ => hW.block i hi (by simp)⟩).trans ((World.grownBy_alloc W _ _).trans hgrow)
  have hoi1 := (hoiW.alloc (.cells #[.int .i64 x] e)).appended hown' hx
  have hloc' : v'.ownBlock = v0.ownBlock ∨ ∃ g, v'.ownBlock = some g ∧ w.heap.size ≤ g := by
    rcases hloc with hh | hh
    · exact .inl hh
    · exact .inr ⟨_, hh, by simp; omega⟩
  obtain ⟨w2, hup, r1, r2⟩ := hback w1 v' _ hgw1 hoi1 (by simp; omega) hloc'
  refine ⟨v0, v', w1, w2, hv, hlook, happ, hgrow, hup, r2, _, r1, h2.put _ _, ?_, fun y => ?_⟩
  · obtain ⟨es, clock, hb, F, hs, _, hbb, _⟩ := h1
    have hb1 : w1.heap[b]? = some (.map es clock) := (hgw1.block b hlt.1 (fun e1 => by have := (hv b e1.symm).1; omega)).trans hb
    obtain ⟨es', clock', hb2, hwho⟩ := stored_who K ht hb1 F (Nat.lt_of_le_of_lt hs (by unfold maxLen; omega)) hkey hup
    intro es2 clock2 hb2' y hy g hyg
    obtain ⟨rfl, rfl⟩ : es' = es2 ∧ clock' = clock2 := by rw [hb2] at hb2'; simpa using hb2'
    rcases hwho y hy with ⟨hy0, _⟩ | ⟨_, hval⟩
    · exact fun hN => h3 es clock hb y hy0 g hyg hN.1
    · rw [hval] at hyg
      rintro ⟨hN, hg⟩
      rcases hloc' with hh | ⟨g', hh, hle⟩
      · exact (hv g (hh ▸ hyg)).2.2 hN
      · rw [hyg] at hh
        injection hh with hh
        omega
  · unfold upd
    by_cases e : y = kl
    · subst e
      rw [if_pos rfl, atKey_put_same h2 (K.key hkey), items_row hoi1]
    · rw [if_neg e, atKey_put_other e, h4 y]
/-- An append whose run is known, as a step of a region that draws. -/
theorem step_append_run {ops : Array Oper} {o : Oper} {a : Act} {w : World} {K : Act → World → Prop} {Q : Exit → Act → World → Prop} {F : Prop}
    (hg : o.guard = none) (s x : Operand) (T : TypeId) (hop : o.op = Op.call { callee := Callee.builtin Builtin.append, args := #[s, x], argTypes := #[T, T] })
    {v u v' : Value} {w1 : World} (hs : a.eval s = v) (hx : a.eval x = u) (hrun : (Builtin.append_ #[T, T] o.type #[v, u]).run P w = .ok v' w1)
    (hK : K (a.put o.dst v') w1) : if Region.wanted o (yielded ops a.tmps) = true then Oper.wp P o a w K Q else F := by
  have hw : Region.wanted o (yielded ops a.tmps) = true := by simp [Region.wanted, hg]
  rw [if_pos hw]
  unfold Oper.wp
  simp [execOp, hop, resolve, invoke, builtin, hs, hx, hrun, Result.andThen]
  exact hK
end Go.Proofs.Ytdieblejeeojhaa.GM
