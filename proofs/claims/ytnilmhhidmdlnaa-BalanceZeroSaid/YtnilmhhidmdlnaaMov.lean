/- balance.movements and its closure: the contract of the iterator. -/
import Derived.RangeFuncNested
import Derived.RangeFuncBound
import Derived.RangeFuncCalls
import Derived.RangeFuncLeaves
import Derived.RangeFuncBox
import Derived.Shelf.Abstract
import Derived.Shelf.RegionOpen
import Derived.OwnWalkIn
import Derived.TacticsInMore
import Derived.LoopNIn
import Derived.LoopIn
import Derived.Test.YtnilmhhidmdlnaaPAx0
namespace Go.Proofs.Ytnilmhhidmdlnaa.PA
open Go.RowKit Go.Shelf Go.Proofs.YtnilmhhidmdlnaaW.PrintWords Go.Proofs.YtnilmhhidmdlnaaW.PrintLast Go.Proofs.YtnilmhhidmdlnaaW.PrintMore
attribute [local go_sem] Oper.semAt_some
set_option linter.unusedVariables false
set_option linter.unusedSimpArgs false

/-- A movement: its entry, the place of the entry's legs, the amount. -/
structure Mv where
  x : S36
  A : Option Addr
  c : Nat
  am : Int

/-- An entry as one value. -/
def ev (x : S36) (A : Option Addr) (c : Nat) : Value := .agg #[.int .i64 x.f0, .int .i64 x.f1, .int .i64 x.f2, .int .i64 x.f3, .int .i64 x.f4, .int .i64 x.f5, .string x.f6, .string x.f7, .slice A x.f8.length c, .int .u64 x.f9]
def Mv.enc (m : Mv) : Array Value := #[ev m.x m.A m.c, .int .i64 m.am]

/-- The movements of an account among the legs of an entry. -/
def mvs (x : S36) (A : Option Addr) (c : Nat) (a : Int) (ys : List S39) : List Mv := ys.flatMap (fun y => if y.f0 = a then [⟨x, A, c, y.f1⟩] else [])
/-- .. of the first k entries. -/
def movs (R : Nat → Option Addr × Nat) (a : Int) (l : List S36) (k : Nat) : List Mv := (List.range k).flatMap fun (i : Nat) => mvs (rd_T36 l (i : Int)) (R i).1 (R i).2 a (rd_T36 l (i : Int)).f8

theorem movs_succ (R : Nat → Option Addr × Nat) (a : Int) (l : List S36) (k : Nat) : movs R a l (k + 1) = movs R a l k ++ mvs (rd_T36 l k) (R k).1 (R k).2 a (rd_T36 l k).f8 := by
  simp [movs, List.range_succ]
theorem movs_le (R : Nat → Option Addr × Nat) (a : Int) (l : List S36) {k n : Nat} (h : k ≤ n) : ∃ r, movs R a l n = movs R a l k ++ r := by
  induction n with
  | zero => exact ⟨[], by simp [show k = 0 by omega]⟩
  | succ n ih =>
    by_cases hk : k = n + 1
    · subst hk; exact ⟨[], by simp⟩
    · obtain ⟨r, hr⟩ := ih (by omega)
      exact ⟨r ++ mvs (rd_T36 l n) (R n).1 (R n).2 a (rd_T36 l n).f8, by rw [movs_succ, hr, List.append_assoc]⟩
theorem mvs_take (x : S36) (A : Option Addr) (c : Nat) (a : Int) (ys : List S39) (k : Nat) (h : k < ys.length) :
    mvs x A c a (ys.take (k + 1)) = mvs x A c a (ys.take k) ++ (if (rd_T39 ys k).f0 = a then [⟨x, A, c, (rd_T39 ys k).f1⟩] else []) := by
  rw [List.take_add_one, mvs, List.flatMap_append]
  congr 1
  simp [rd_T39, List.getElem?_eq_getElem h, List.getD_eq_getElem?_getD]
/-- What has come when k legs of entry i are over is an initial part of all. -/
theorem movs_pre (R : Nat → Option Addr × Nat) (a : Int) (l : List S36) (i k : Nat) (hi : i < l.length) :
    movs R a l i ++ mvs (rd_T36 l i) (R i).1 (R i).2 a ((rd_T36 l i).f8.take k) <+: movs R a l l.length := by
  obtain ⟨r, hr⟩ := movs_le R a l (show i + 1 ≤ l.length by omega)
  have e : mvs (rd_T36 l i) (R i).1 (R i).2 a (rd_T36 l i).f8 = mvs (rd_T36 l i) (R i).1 (R i).2 a ((rd_T36 l i).f8.take k) ++ mvs (rd_T36 l i) (R i).1 (R i).2 a ((rd_T36 l i).f8.drop k) := by
    rw [mvs, mvs, mvs, ← List.flatMap_append, List.take_append_drop]
  rw [hr, movs_succ, e]
  exact ⟨mvs (rd_T36 l i) (R i).1 (R i).2 a ((rd_T36 l i).f8.drop k) ++ r, by simp⟩

theorem mvs_yes (x : S36) (A : Option Addr) (c : Nat) (a : Int) (ys : List S39) (k : Nat) (x17 : Int) (e : x17 = (k : Int)) (h : x17 < (ys.length : Int)) (h0 : (rd_T39 ys x17).f0 = a) :
    mvs x A c a (ys.take (k + 1)) = mvs x A c a (ys.take k) ++ [⟨x, A, c, (rd_T39 ys x17).f1⟩] := by
  subst e
  rw [mvs_take x A c a ys k (by omega), if_pos h0]
theorem mvs_no (x : S36) (A : Option Addr) (c : Nat) (a : Int) (ys : List S39) (k : Nat) (x17 : Int) (e : x17 = (k : Int)) (h : x17 < (ys.length : Int)) (h0 : ¬ (rd_T39 ys x17).f0 = a) :
    mvs x A c a (ys.take (k + 1)) = mvs x A c a (ys.take k) := by
  subst e
  rw [mvs_take x A c a ys k (by omega), if_neg h0, List.append_nil]
theorem movs_pre' (R : Nat → Option Addr × Nat) (a : Int) (l : List S36) (i k : Nat) (x10 : Int) (e : x10 = (i : Int)) (hi : x10 < (l.length : Int)) (A : Option Addr) (c : Nat) (hA : (R x10.toNat).1 = A) (hc : (R x10.toNat).2 = c) :
    movs R a l i ++ mvs (rd_T36 l x10) A c a ((rd_T36 l x10).f8.take k) <+: movs R a l l.length := by
  subst e hA hc
  exact movs_pre R a l i k (by omega)
theorem movs_end (R : Nat → Option Addr × Nat) (a : Int) (l : List S36) (i : Nat) (x10 : Int) (e : x10 = (i : Int)) (A : Option Addr) (c : Nat) (hA : (R x10.toNat).1 = A) (hc : (R x10.toNat).2 = c) :
    movs R a l (i + 1) = movs R a l i ++ mvs (rd_T36 l x10) A c a (rd_T36 l x10).f8 := by
  subst e hA hc
  exact movs_succ R a l i

/-- What the rounds keep: whatever lay below n₀; the account's box; the boxes of entries. -/
structure MKp (n₀ Ba : Nat) (W W' : World) : Prop where
  below : Below n₀ W W'
  box : W'.heap[Ba]? = W.heap[Ba]?
  ents : ∀ (k : Nat) (cs : Array Value) (z : Nat × Nat), W.heap[k]? = some (Obj.cells cs 36 z) → W'.heap[k]? = some (Obj.cells cs 36 z)
theorem MKp.refl (n₀ Ba : Nat) (W : World) : MKp n₀ Ba W W := ⟨Below.refl _ _, rfl, fun _ _ _ h => h⟩
theorem MKp.trans {n₀ Ba : Nat} {A B C : World} (h : MKp n₀ Ba A B) (k : MKp n₀ Ba B C) : MKp n₀ Ba A C := ⟨h.below.trans k.below, k.box.trans h.box, fun i cs z hi => k.ents i cs z (h.ents i cs z hi)⟩
theorem MKp.alloc {n₀ Ba : Nat} {A W : World} (h : MKp n₀ Ba A W) (hn : n₀ ≤ A.heap.size) (hb : Ba < A.heap.size) (o : Obj) : MKp n₀ Ba A (W.alloc o) :=
  ⟨h.below.alloc (Nat.le_trans hn h.below.size) o, (Below.heap_alloc W o Ba (Nat.lt_of_lt_of_le hb h.below.size)).trans h.box, fun k cs z hk => by
    have := h.ents k cs z hk
    exact (Below.heap_alloc W o k (Array.getElem?_eq_some_iff.1 this).1).trans this⟩
theorem MKp.putObj {n₀ Ba : Nat} {w : World} (hn : n₀ ≤ w.heap.size) (hb : Ba < w.heap.size) (W : World) (l : Nat) (o o' : Obj) (hl : w.heap.size ≤ l) (h : W.heap[l]? = some o) (hc : o.isCells = false) (hw : o.isWalk = false) : MKp n₀ Ba W (W.putObj l o') := by
  have hg := grownBy_putObj' W l o'
  have hlt := (Array.getElem?_eq_some_iff.1 h).1
  refine ⟨belowK_b hn W l o o' hl h hc hw, ?_, ?_⟩
  · exact hg.block Ba (by omega) (fun e => by cases e; omega)
  · intro k cs z hk
    rw [hg.block k (Array.getElem?_eq_some_iff.1 hk).1 (fun e => by cases e; rw [hk] at h; cases h; cases hc)]
    exact hk

/-- Where entry x lies. -/
def RowAt (W0 : World) (A0 : Option Addr) (js : List S36) (R : Nat → Option Addr × Nat) (x : Int) : Prop :=
  ∃ ad, A0 = some ad ∧ W0.cell? (ad.add (x.toNat * 10)) = some (.int .i64 (rd_T36 js x).f0) ∧ W0.cell? ⟨(ad.add (x.toNat * 10)).block, (ad.add (x.toNat * 10)).off + 1, none⟩ = some (.int .i64 (rd_T36 js x).f1) ∧ W0.cell? ⟨(ad.add (x.toNat * 10)).block, (ad.add (x.toNat * 10)).off + 2, none⟩ = some (.int .i64 (rd_T36 js x).f2) ∧ W0.cell? ⟨(ad.add (x.toNat * 10)).block, (ad.add (x.toNat * 10)).off + 3, none⟩ = some (.int .i64 (rd_T36 js x).f3) ∧ W0.cell? ⟨(ad.add (x.toNat * 10)).block, (ad.add (x.toNat * 10)).off + 4, none⟩ = some (.int .i64 (rd_T36 js x).f4) ∧ W0.cell? ⟨(ad.add (x.toNat * 10)).block, (ad.add (x.toNat * 10)).off + 5, none⟩ = some (.int .i64 (rd_T36 js x).f5) ∧ W0.cell? ⟨(ad.add (x.toNat * 10)).block, (ad.add (x.toNat * 10)).off + 6, none⟩ = some (.string (rd_T36 js x).f6) ∧ W0.cell? ⟨(ad.add (x.toNat * 10)).block, (ad.add (x.toNat * 10)).off + 7, none⟩ = some (.string (rd_T36 js x).f7) ∧ W0.cell? ⟨(ad.add (x.toNat * 10)).block, (ad.add (x.toNat * 10)).off + 8, none⟩ = some (.slice (R x.toNat).1 (rd_T36 js x).f8.length (R x.toNat).2) ∧ W0.cell? ⟨(ad.add (x.toNat * 10)).block, (ad.add (x.toNat * 10)).off + 9, none⟩ = some (.int .u64 (rd_T36 js x).f9) ∧ (rd_T36 js x).f8.length ≤ (R x.toNat).2 ∧ k39.C W0 (R x.toNat).1 (rd_T36 js x).f8.length (rd_T36 js x).f8
def Rows (W0 : World) (A0 : Option Addr) (js : List S36) (R : Nat → Option Addr × Nat) : Prop := ∀ x : Int, 0 ≤ x → x < js.length → RowAt W0 A0 js R x
theorem rows_of {W0 : World} {A0 : Option Addr} {js : List S36} (h : Kd.C k36 W0 A0 js.length js) : ∃ R, Rows W0 A0 js R := by
  have h2 : ∀ i : Nat, ∃ r : Option Addr × Nat, i < js.length → RowAt W0 A0 js (fun _ => r) (i : Int) := fun i => by
    by_cases hi : i < js.length
    · obtain ⟨ad, A8, c8, h⟩ := at_T36 h (i : Int) (by omega) (by omega)
      exact ⟨(A8, c8), fun _ => ⟨ad, h⟩⟩
    · exact ⟨(none, 0), fun h => absurd h hi⟩
  obtain ⟨R, hR⟩ := Classical.axiomOfChoice h2
  refine ⟨R, fun x h0 h1 => ?_⟩
  obtain ⟨i, rfl⟩ : ∃ i : Nat, x = (i : Int) := ⟨x.toNat, by omega⟩
  exact hR i (by omega)

theorem cell_alc {W : World} {a : Addr} {v : Value} (o : Obj) (h : W.cell? a = some v) : (W.alloc o).cell? a = some v := cell_kept h (World.grownBy_alloc W o none) (fun r e => by cases e)

set_option maxRecDepth 100000 in
set_option maxHeartbeats 4000000 in
theorem mov1_in (F : Fence) (n : Nat) (hf : F.fn 36) (hro : F.round = none) (hn : 1 ≤ n) (l Bj Ba : Nat) (A0 : Option Addr) (c0 : Nat) (js : List S36) (a : Int) (R : Nat → Option Addr × Nat) (W0 : World)
    (hlen : js.length ≤ 1000000) (hlegs : ∀ x, (rd_T36 js x).f8.length ≤ 1000000) (hrow : Rows W0 A0 js R)
    (J Jx : List Mv → World → Prop)
    (hY : ∀ pre x W, J pre W → pre.length < (movs R a js js.length).length → YieldAt F (n - 1) Try.prog l x.enc W fun e W' =>
      (e = .returned (.bool true) ∧ J (pre ++ [x]) W' ∧ MKp W0.heap.size Ba W W') ∨ (e = .returned (.bool false) ∧ Jx (pre ++ [x]) W'))
    (W : World) (hJ : AbidesFrom W.heap.size J) (hBj : W.cell? ⟨Bj, 0, none⟩ = some (.slice A0 js.length c0)) (hBa : W.cell? ⟨Ba, 0, none⟩ = some (.int .i64 a)) (hW : Below W0.heap.size W0 W) (h0 : J [] W) :
    CallsIn F n Try.prog 36 #[.func (.yield l) #[] #[], .pointer (some ⟨Bj, 0, none⟩), .pointer (some ⟨Ba, 0, none⟩)] W fun e W' => (∃ v, e = .returned v) ∧
      ((∃ ys, ys = movs R a js js.length ∧ J ys W') ∨ (∃ pre, pre <+: movs R a js js.length ∧ Jx pre W')) := by
  refine callsIn_of_wp Try.func36 rfl hf ?_ hro
  simp only [Try.ntmps36, List.size_toArray, List.length_cons, List.length_nil, Nat.reduceAdd, Nat.reduceSub, Array.replicate_succ, Array.replicate_zero, List.push_toArray, List.append_toArray, List.nil_append, List.cons_append]
  have HLEN := Aside0.mk hlen
  have HROW := Aside0.mk hrow
  have HLEGS := Aside0.mk hlegs
  have HW := Aside0.mk hW
  have HJ := Aside0.mk hJ
  have HY := Aside0.mk hY
  have HSZ := Aside0.mk (And.intro hW.size (World.block_lt_of_cell? W _ hBa))
  clear hlen hrow hlegs hW hJ hY
  gi_wp2
  gi_loopw [10] (fun v wr => ∃ (x10 : Int) (i : Nat), v = .int .i64 x10 ∧ Aside0 (x10 = (i : Int) ∧ i ≤ js.length) ∧ Aside0 (J (movs R a js i) wr) ∧ Aside0 (MKp W0.heap.size Ba W wr))
    (fun v _ => js.length - (intOf v).toNat)
  case atStart => exact ⟨0, 0, rfl, ⟨rfl, Nat.zero_le _⟩, ⟨h0⟩, ⟨MKp.refl _ _ _⟩⟩
  case round =>
    obtain ⟨x10, i, rfl, HN, HJs, HK⟩ := hrel
    by_cases c1 : x10 < (js.length : Int)
    · have p1 : 0 ≤ x10 := by have := HN.out; omega
      obtain ⟨ad, e, hx0, hx1, hx2, hx3, hx4, hx5, hx6, hx7, hx8, hx9, hl8, hi8⟩ := HROW.out x10 p1 c1
      cases e
      obtain ⟨A8, hA8⟩ : ∃ A, (R x10.toNat).1 = A := ⟨_, rfl⟩
      obtain ⟨c8, hc8⟩ : ∃ c, (R x10.toNat).2 = c := ⟨_, rfl⟩
      rw [hA8, hc8] at hx8
      rw [hc8] at hl8
      rw [hA8] at hi8
      have HA8 := Aside0.mk hA8
      have HC8 := Aside0.mk hc8
      clear hA8 hc8
      have hb2 := HW.out.trans HK.out.below
      replace hx0 := (hb2.cell (World.block_lt_of_cell? W0 _ hx0)).trans hx0
      replace hx1 := (hb2.cell (World.block_lt_of_cell? W0 _ hx1)).trans hx1
      replace hx2 := (hb2.cell (World.block_lt_of_cell? W0 _ hx2)).trans hx2
      replace hx3 := (hb2.cell (World.block_lt_of_cell? W0 _ hx3)).trans hx3
      replace hx4 := (hb2.cell (World.block_lt_of_cell? W0 _ hx4)).trans hx4
      replace hx5 := (hb2.cell (World.block_lt_of_cell? W0 _ hx5)).trans hx5
      replace hx6 := (hb2.cell (World.block_lt_of_cell? W0 _ hx6)).trans hx6
      replace hx7 := (hb2.cell (World.block_lt_of_cell? W0 _ hx7)).trans hx7
      replace hx8 := (hb2.cell (World.block_lt_of_cell? W0 _ hx8)).trans hx8
      replace hx9 := (hb2.cell (World.block_lt_of_cell? W0 _ hx9)).trans hx9
      have c1b : decide (x10 < (js.length : Int)) = true := decide_eq_true c1
      have q1 := eq_true c1
      have C1 := Aside0.mk c1
      replace p1 := eq_true p1
      clear c1
      gi_wp2
      clear hx0 hx1 hx2 hx3 hx4 hx5 hx6 hx7 hx8 hx9 hb2
      generalize hg5 : wr.heap.size = g5
      have HJ0 := HJ.out _ wr _ none HJs.out (World.grownBy_alloc wr (.cells #[.int .i64 (rd_T36 js x10).f0, .int .i64 (rd_T36 js x10).f1, .int .i64 (rd_T36 js x10).f2, .int .i64 (rd_T36 js x10).f3, .int .i64 (rd_T36 js x10).f4, .int .i64 (rd_T36 js x10).f5, .string (rd_T36 js x10).f6, .string (rd_T36 js x10).f7, .slice A8 (rd_T36 js x10).f8.length c8, .int .u64 (rd_T36 js x10).f9] 36) none) (fun r e => by cases e)
      gi_loopw [17] (fun v wi => ∃ (x17 : Int) (k : Nat), v = .int .i64 x17 ∧ Aside0 (x17 = (k : Int) ∧ k ≤ (rd_T36 js x10).f8.length) ∧ Aside0 (J (movs R a js i ++ mvs (rd_T36 js x10) A8 c8 a ((rd_T36 js x10).f8.take k)) wi) ∧ Aside0 (MKp W0.heap.size Ba W wi) ∧ Aside0 (wi.heap[g5]? = some (.cells #[.int .i64 (rd_T36 js x10).f0, .int .i64 (rd_T36 js x10).f1, .int .i64 (rd_T36 js x10).f2, .int .i64 (rd_T36 js x10).f3, .int .i64 (rd_T36 js x10).f4, .int .i64 (rd_T36 js x10).f5, .string (rd_T36 js x10).f6, .string (rd_T36 js x10).f7, .slice A8 (rd_T36 js x10).f8.length c8, .int .u64 (rd_T36 js x10).f9] 36 (0, 0))))
        (fun v _ => (rd_T36 js x10).f8.length - (intOf v).toNat)
      case atStart =>
        refine ⟨0, 0, rfl, ⟨rfl, Nat.zero_le _⟩, ⟨?_⟩, ⟨?_⟩, ⟨?_⟩⟩
        · rw [List.take_zero, show mvs (rd_T36 js x10) A8 c8 a [] = [] from rfl, List.append_nil]
          exact HJ0
        · exact HK.out.alloc HSZ.out.1 HSZ.out.2 _
        · rw [← hg5]; exact World.alloc_heap_new _ _
      case round =>
        obtain ⟨x17, k, rfl, HN2, HJ2, HK2, HE⟩ := hrel
        have e2 : wrap64 (x17 + 1) = ((k + 1 : Nat) : Int) := by have := HN2.out; have := HLEGS.out x10; unfold wrap64; omega
        have E2 := Aside0.mk e2
        clear e2
        by_cases c2 : x17 < ((rd_T36 js x10).f8.length : Int)
        · have p2 : 0 ≤ x17 := by have := HN2.out; omega
          obtain ⟨ad2, e, hy0, hy1, hy2⟩ := at_T39 hi8 x17 p2 c2
          cases e
          have hb2 := HW.out.trans HK2.out.below
          replace hy0 := (hb2.cell (World.block_lt_of_cell? W0 _ hy0)).trans hy0
          replace hy1 := (hb2.cell (World.block_lt_of_cell? W0 _ hy1)).trans hy1
          replace hy2 := (hb2.cell (World.block_lt_of_cell? W0 _ hy2)).trans hy2
          have hA : wr.cell? ⟨Ba, 0, none⟩ = some (.int .i64 a) := (World.cell?_of_block (w := W) HK2.out.box).trans hBa
          have hz0 : wr.cell? ⟨g5, 0, none⟩ = some (.int .i64 (rd_T36 js x10).f0) := (blk_cell HE.out 0).trans rfl
          have hz1 : wr.cell? ⟨g5, 1, none⟩ = some (.int .i64 (rd_T36 js x10).f1) := (blk_cell HE.out 1).trans rfl
          have hz2 : wr.cell? ⟨g5, 2, none⟩ = some (.int .i64 (rd_T36 js x10).f2) := (blk_cell HE.out 2).trans rfl
          have hz3 : wr.cell? ⟨g5, 3, none⟩ = some (.int .i64 (rd_T36 js x10).f3) := (blk_cell HE.out 3).trans rfl
          have hz4 : wr.cell? ⟨g5, 4, none⟩ = some (.int .i64 (rd_T36 js x10).f4) := (blk_cell HE.out 4).trans rfl
          have hz5 : wr.cell? ⟨g5, 5, none⟩ = some (.int .i64 (rd_T36 js x10).f5) := (blk_cell HE.out 5).trans rfl
          have hz6 : wr.cell? ⟨g5, 6, none⟩ = some (.string (rd_T36 js x10).f6) := (blk_cell HE.out 6).trans rfl
          have hz7 : wr.cell? ⟨g5, 7, none⟩ = some (.string (rd_T36 js x10).f7) := (blk_cell HE.out 7).trans rfl
          have hz8 : wr.cell? ⟨g5, 8, none⟩ = some (.slice (some ad2) (rd_T36 js x10).f8.length c8) := (blk_cell HE.out 8).trans rfl
          have hz9 : wr.cell? ⟨g5, 9, none⟩ = some (.int .u64 (rd_T36 js x10).f9) := (blk_cell HE.out 9).trans rfl
          have hA2 := cell_alc (.cells #[.int .i64 (rd_T39 (rd_T36 js x10).f8 x17).f0, .int .i64 (rd_T39 (rd_T36 js x10).f8 x17).f1, .string (rd_T39 (rd_T36 js x10).f8 x17).f2] 39) hA
          replace hz0 := cell_alc (.cells #[.int .i64 (rd_T39 (rd_T36 js x10).f8 x17).f0, .int .i64 (rd_T39 (rd_T36 js x10).f8 x17).f1, .string (rd_T39 (rd_T36 js x10).f8 x17).f2] 39) hz0
          replace hz1 := cell_alc (.cells #[.int .i64 (rd_T39 (rd_T36 js x10).f8 x17).f0, .int .i64 (rd_T39 (rd_T36 js x10).f8 x17).f1, .string (rd_T39 (rd_T36 js x10).f8 x17).f2] 39) hz1
          replace hz2 := cell_alc (.cells #[.int .i64 (rd_T39 (rd_T36 js x10).f8 x17).f0, .int .i64 (rd_T39 (rd_T36 js x10).f8 x17).f1, .string (rd_T39 (rd_T36 js x10).f8 x17).f2] 39) hz2
          replace hz3 := cell_alc (.cells #[.int .i64 (rd_T39 (rd_T36 js x10).f8 x17).f0, .int .i64 (rd_T39 (rd_T36 js x10).f8 x17).f1, .string (rd_T39 (rd_T36 js x10).f8 x17).f2] 39) hz3
          replace hz4 := cell_alc (.cells #[.int .i64 (rd_T39 (rd_T36 js x10).f8 x17).f0, .int .i64 (rd_T39 (rd_T36 js x10).f8 x17).f1, .string (rd_T39 (rd_T36 js x10).f8 x17).f2] 39) hz4
          replace hz5 := cell_alc (.cells #[.int .i64 (rd_T39 (rd_T36 js x10).f8 x17).f0, .int .i64 (rd_T39 (rd_T36 js x10).f8 x17).f1, .string (rd_T39 (rd_T36 js x10).f8 x17).f2] 39) hz5
          replace hz6 := cell_alc (.cells #[.int .i64 (rd_T39 (rd_T36 js x10).f8 x17).f0, .int .i64 (rd_T39 (rd_T36 js x10).f8 x17).f1, .string (rd_T39 (rd_T36 js x10).f8 x17).f2] 39) hz6
          replace hz7 := cell_alc (.cells #[.int .i64 (rd_T39 (rd_T36 js x10).f8 x17).f0, .int .i64 (rd_T39 (rd_T36 js x10).f8 x17).f1, .string (rd_T39 (rd_T36 js x10).f8 x17).f2] 39) hz7
          replace hz8 := cell_alc (.cells #[.int .i64 (rd_T39 (rd_T36 js x10).f8 x17).f0, .int .i64 (rd_T39 (rd_T36 js x10).f8 x17).f1, .string (rd_T39 (rd_T36 js x10).f8 x17).f2] 39) hz8
          replace hz9 := cell_alc (.cells #[.int .i64 (rd_T39 (rd_T36 js x10).f8 x17).f0, .int .i64 (rd_T39 (rd_T36 js x10).f8 x17).f1, .string (rd_T39 (rd_T36 js x10).f8 x17).f2] 39) hz9
          have c2b : decide (x17 < ((rd_T36 js x10).f8.length : Int)) = true := decide_eq_true c2
          have q2 := eq_true c2
          have C2 := Aside0.mk c2
          replace p2 := eq_true p2
          clear c2 hb2
          by_cases c3 : (rd_T39 (rd_T36 js x10).f8 x17).f0 = a
          · have c3b : ((rd_T39 (rd_T36 js x10).f8 x17).f0 == a) = true := beq_iff_eq.mpr c3
            have hjw := HJ.out _ wr _ none HJ2.out (World.grownBy_alloc wr (.cells #[.int .i64 (rd_T39 (rd_T36 js x10).f8 x17).f0, .int .i64 (rd_T39 (rd_T36 js x10).f8 x17).f1, .string (rd_T39 (rd_T36 js x10).f8 x17).f2] 39) none) (fun r e => by cases e)
            obtain ⟨fn, tmps, assign, body, hy, hR⟩ := HY.out _ ⟨rd_T36 js x10, some ad2, c8, (rd_T39 (rd_T36 js x10).f8 x17).f1⟩ _ hjw (by
              have h1 := movs_pre' R a js i (k + 1) x10 HN.out.1 C1.out (some ad2) c8 HA8.out HC8.out
              rw [mvs_yes _ _ _ _ _ k x17 HN2.out.1 C2.out c3, ← List.append_assoc] at h1
              have h2 := h1.length_le
              rw [List.length_append, List.length_singleton] at h2
              omega)
            dsimp only [Mv.enc, ev] at hy
            have C3 := Aside0.mk c3
            clear c3
            gi_wp2
            refine hR.mono ?_
            rintro e W3 (⟨rfl, hJ3, hk3⟩ | ⟨rfl, hJx3⟩)
            · gi_wp2
              go_roundw
              case rel =>
                refine ⟨_, k + 1, rfl, ⟨E2.out, by have := HN2.out; have := C2.out; omega⟩, ⟨?_⟩, ⟨(HK2.out.alloc HSZ.out.1 HSZ.out.2 _).trans hk3⟩, ⟨hk3.ents g5 _ _ (blk_alloc HE.out _)⟩⟩
                rw [mvs_yes _ _ _ _ _ k x17 HN2.out.1 C2.out C3.out, ← List.append_assoc]
                exact hJ3
              case measure =>
                have h1 := E2.out
                have h2 := HN2.out
                have h3 := C2.out
                simp only [intOf, Array.getD_eq_getD_getElem?]
                rw [h1, h2.1]
                omega
            · gi_wp2
              refine bodyPost_ret (results_none rfl _ _ _) rfl ?_
              refine ⟨⟨_, rfl⟩, .inr ⟨_, ?_, hJx3⟩⟩
              have h1 := movs_pre' R a js i (k + 1) x10 HN.out.1 C1.out (some ad2) c8 HA8.out HC8.out
              rw [mvs_yes _ _ _ _ _ k x17 HN2.out.1 C2.out C3.out, ← List.append_assoc] at h1
              exact h1
          · have c3b : ((rd_T39 (rd_T36 js x10).f8 x17).f0 == a) = false := beq_eq_false_iff_ne.mpr c3
            have hjw := HJ.out _ wr _ none HJ2.out (World.grownBy_alloc wr (.cells #[.int .i64 (rd_T39 (rd_T36 js x10).f8 x17).f0, .int .i64 (rd_T39 (rd_T36 js x10).f8 x17).f1, .string (rd_T39 (rd_T36 js x10).f8 x17).f2] 39) none) (fun r e => by cases e)
            have C3 := Aside0.mk c3
            clear c3
            gi_wp2
            refine ⟨fun _ h => (by cases h), ?_⟩
            gi_wp2
            go_roundw
            case rel =>
              refine ⟨_, k + 1, rfl, ⟨E2.out, by have := HN2.out; have := C2.out; omega⟩, ⟨?_⟩, ⟨HK2.out.alloc HSZ.out.1 HSZ.out.2 _⟩, ⟨blk_alloc HE.out _⟩⟩
              rw [mvs_no _ _ _ _ _ k x17 HN2.out.1 C2.out C3.out]
              exact hjw
            case measure =>
              have h1 := E2.out
              have h2 := HN2.out
              have h3 := C2.out
              simp only [intOf, Array.getD_eq_getD_getElem?]
              rw [h1, h2.1]
              omega
        · have c2b : decide (x17 < ((rd_T36 js x10).f8.length : Int)) = false := decide_eq_false c2
          have e1 : wrap64 (x10 + 1) = ((i + 1 : Nat) : Int) := by have := HN.out; have := HLEN.out; unfold wrap64; omega
          have E1 := Aside0.mk e1
          have C2 := Aside0.mk c2
          clear e1 c2
          gi_wp2
          go_roundw
          case rel =>
            refine ⟨_, i + 1, rfl, ⟨E1.out, by have := HN.out; have := C1.out; omega⟩, ⟨?_⟩, ⟨HK2.out⟩⟩
            rw [movs_end R a js i x10 HN.out.1 A8 c8 HA8.out HC8.out]
            have h1 := HJ2.out
            rw [List.take_of_length_le (by have := HN2.out; have := C2.out; omega)] at h1
            exact h1
          case measure =>
            have h1 := E1.out
            have h2 := HN.out
            have h3 := C1.out
            simp only [intOf, Array.getD_eq_getD_getElem?]
            rw [h1, h2.1]
            omega
    · have c1b : decide (x10 < (js.length : Int)) = false := decide_eq_false c1
      have hk : i = js.length := by have := HN.out; omega
      gi_wp2
      go_end0
      exact ⟨⟨_, rfl⟩, .inl (by have := HJs.out; rw [hk] at this; exact this)⟩

set_option maxHeartbeats 1000000 in
theorem movements_in (F : Fence) (n : Nat) (hf : F.fn 25) (hro : F.round = none) (A0 : Option Addr) (len c0 : Nat) (a : Int) (w : World) :
    CallsIn F n Try.prog 25 #[.slice A0 len c0, .int .i64 a] w fun e w' => e = .returned (.func (.func 36) #[] #[.pointer (some ⟨w.heap.size, 0, none⟩), .pointer (some ⟨w.heap.size + 1, 0, none⟩)]) ∧ w' = (w.alloc (.cells #[.slice A0 len c0] 22)).alloc (.cells #[.int .i64 a] 3) := by
  refine callsIn_of_wp Try.func25 rfl hf ?_ hro
  simp only [Try.ntmps25, List.size_toArray, List.length_cons, List.length_nil, Nat.reduceAdd, Nat.reduceSub, Array.replicate_succ, Array.replicate_zero, List.push_toArray, List.append_toArray, List.nil_append, List.cons_append]
  gi_wp2
  go_ret
  exact ⟨rfl, rfl⟩

theorem mov_stops (F : Fence) (n : Nat) (hf : F.fn 36) (hro : F.round = none) (hn : 1 ≤ n) (Bj Ba : Nat) (A0 : Option Addr) (c0 : Nat) (js : List S36) (a : Int) (R : Nat → Option Addr × Nat) (W0 : World)
    (hlen : js.length ≤ 1000000) (hlegs : ∀ x, (rd_T36 js x).f8.length ≤ 1000000) (hrow : Rows W0 A0 js R) (w : World) (hW0 : Below W0.heap.size W0 w)
    (hBj : w.cell? ⟨Bj, 0, none⟩ = some (.slice A0 js.length c0)) (hBa : w.cell? ⟨Ba, 0, none⟩ = some (.int .i64 a)) :
    SeqStopsK F n Try.prog 36 #[.pointer (some ⟨Bj, 0, none⟩), .pointer (some ⟨Ba, 0, none⟩)] Mv.enc (MKp W0.heap.size Ba) (fun ys => ys = movs R a js js.length) (fun pre => pre <+: movs R a js js.length) (movs R a js js.length).length w := fun l J Jx W hW hJ _ hY h0 =>
  mov1_in F n hf hro hn l Bj Ba A0 c0 js a R W0 hlen hlegs hrow J Jx hY W hJ ((hW.cell (World.block_lt_of_cell? w _ hBj)).trans hBj) ((hW.cell (World.block_lt_of_cell? w _ hBa)).trans hBa) (hW0.trans (hW.mono hW0.size)) h0
end Go.Proofs.Ytnilmhhidmdlnaa.PA
