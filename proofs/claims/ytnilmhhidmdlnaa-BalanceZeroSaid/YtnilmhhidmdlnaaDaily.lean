/- balance.Daily. -/
import Derived.Test.YtnilmhhidmdlnaaTurn
import Derived.Test.YtnilmhhidmdlnaaPAx2
namespace Go.Proofs.Ytnilmhhidmdlnaa.PA
open Go.RowKit Go.Shelf Go.Proofs.YtnilmhhidmdlnaaW.PrintWords Go.Proofs.YtnilmhhidmdlnaaW.PrintLast Go.Proofs.YtnilmhhidmdlnaaW.PrintMore
attribute [local go_sem] Oper.semAt_some
attribute [local go_sem] max2_int min2_int max_two min_two
set_option linter.unusedVariables false
set_option linter.unusedSimpArgs false

/-- A row of ints of the caller's own in block g. -/
abbrev IRow (W : World) (base g n c : Nat) (xs : List Int) : Prop := Kd.R (Kd.int .i64) 3 W base (fun k => k = g) (.slice (some ⟨g, 0, none⟩) n c) xs
theorem IRow.typed {W : World} {base g n c : Nat} {xs : List Int} (h : IRow W base g n c xs) : ∃ cells, W.heap[g]? = some (.cells cells 3 (0, 0)) := Kd.R_typed h g rfl
theorem IRow.kept {W W' : World} {base g n c : Nat} {xs : List Int} (h : IRow W base g n c xs) {row : Option Nat} (hg : W.grownBy W' row) (hr : ∀ r, row = some r → ∃ o : Obj, W.heap[r]? = some o ∧ o.isCells = false) : IRow W' base g n c xs := by
  refine Kd.R_grown h hg (fun k hk e => ?_)
  subst hk
  obtain ⟨o, h1, h2⟩ := hr _ e.symm
  obtain ⟨cells, hc⟩ := h.typed
  rw [hc] at h1
  cases h1
  cases h2
theorem irow_own {β : Type} (B base g n c : Nat) (f : β → List Int) : OwnFrom B (fun pre W => IRow W base g n c (f pre)) := fun s W W' row hs hg hr => hs.kept hg (fun r e => (hr r e).2)
theorem MKp.setRow {n₀ Ba g : Nat} {W : World} (hb : ∃ cells, W.heap[g]? = some (.cells cells 3 (0, 0))) (hn : n₀ ≤ g) (hne : Ba ≠ g) (j : Nat) (v : Value) : MKp n₀ Ba W (W.setCell ⟨g, j, none⟩ v) :=
  ⟨(Below.refl n₀ W).setCell (p := ⟨g, j, none⟩) hn v, Below.heap_setCell W ⟨g, j, none⟩ v Ba hne, fun k cs z hk => by
    obtain ⟨cells, hc⟩ := hb
    rw [Below.heap_setCell W ⟨g, j, none⟩ v k (fun e => by
      have e' : k = g := e
      rw [e', hc] at hk; cases hk)]
    exact hk⟩
theorem boxed_farRow {W : World} {B t g j : Nat} {u : Value} (h : Boxed W B t u) (hne : B ≠ g) (v : Value) : Boxed (W.setCell ⟨g, j, none⟩ v) B t u := (Below.heap_setCell W ⟨g, j, none⟩ v B hne).trans h
/-- make([]int, m) in the world W. -/
theorem make_row (W : World) (m : Nat) (hm : m ≤ 4000) : (Instr.makeSlice 31 (.int .i64 (m : Int)) (.int .i64 (m : Int))).run Try.prog W = .ok (.slice (some ⟨W.heap.size, 0, none⟩) m m) (W.alloc (.cells (Array.replicate m (Value.int .i64 0)) 3)) := by
  obtain ⟨i0, hi, hzz⟩ := Option.map_eq_some_iff.1 info3
  simp only [Prod.mk.injEq] at hzz
  obtain ⟨hz0, hz1, hz2⟩ := hzz
  have hr := run_make (P := Try.prog) W 31 3 i0 (.int .i64 0) Try.underlying31 hi hz0 .i64 .i64 (m : Int) (m : Int) (by omega) (by omega) (by rw [hz2]; omega) (by omega)
  simp only [Int.toNat_natCast] at hr
  rw [hz1, Nat.mul_one] at hr
  rw [hr]
  have e : madeCells (Value.int .i64 0).cells m = Array.replicate m (Value.int .i64 0) := by
    apply Array.ext'
    apply List.ext_getElem
    · simp [size_madeCells]
    · intro i h1 h2
      simp [madeCells, Value.cells, Nat.mod_one]
  rw [e]
theorem row_made {W W1 : World} {base m : Nat} (hm : m ≤ 4000) (hb : base ≤ W.heap.size) (h : W1.heap[W.heap.size]? = some (.cells (Array.replicate m (Value.int .i64 0)) 3 (0, 0))) : IRow W1 base W.heap.size m m (List.replicate m 0) :=
  Kd.R_of_own (e := 3) ⟨by simp [encs], .inr ⟨W.heap.size, m, Array.replicate m (Value.int .i64 0), by simp, hb, h, by simp, by unfold maxLen; omega, by simp, by simp [encs]⟩⟩ (fun k hk => by
    have : W.heap.size = k := by simpa [Value.ownBlock] using hk
    exact this.symm)

def da1 (a2 a3 : Int) (xs : List Int) (p : S36 × Int) : List Int := if p.1.f2 ≤ a3 then xs.set (wrap64 (mx a2 p.1.f2 - a2)).toNat (wrap64 (rd xs (wrap64 (mx a2 p.1.f2 - a2)) - p.2)) else xs
def daM (a2 a3 : Int) (m : Nat) (pre : List Mv) : List Int := (pre.map Mv.p).foldl (da1 a2 a3) (List.replicate m 0)
theorem daM_snoc (a2 a3 : Int) (m : Nat) (pre : List Mv) (x : Mv) : daM a2 a3 m (pre ++ [x]) = da1 a2 a3 (daM a2 a3 m pre) (x.x, x.am) := by simp [daM, Mv.p]
theorem da1_yes {a2 a3 v : Int} {xs : List Int} {x : S36} (h : x.f2 ≤ a3) : da1 a2 a3 xs (x, v) = xs.set (wrap64 (mx a2 x.f2 - a2)).toNat (wrap64 (rd xs (wrap64 (mx a2 x.f2 - a2)) - v)) := if_pos h
theorem da1_no {a2 a3 v : Int} {xs : List Int} {x : S36} (h : ¬ x.f2 ≤ a3) : da1 a2 a3 xs (x, v) = xs := if_neg h
theorem da1_len (a2 a3 : Int) (xs : List Int) (p : S36 × Int) : (da1 a2 a3 xs p).length = xs.length := by unfold da1; split <;> simp
theorem daM_len (a2 a3 : Int) (m : Nat) (pre : List Mv) : (daM a2 a3 m pre).length = m := by
  have : ∀ (l : List (S36 × Int)) (xs : List Int), (l.foldl (da1 a2 a3) xs).length = xs.length := by
    intro l
    induction l with
    | nil => intro xs; rfl
    | cons p l ih => intro xs; rw [List.foldl_cons, ih, da1_len]
  unfold daM
  rw [this]; simp
/-- The sums of the first n + 1 places. -/
def accD (xs : List Int) : Nat → List Int
  | 0 => xs
  | n + 1 => (accD xs n).set (n + 1) (wrap64 (rd (accD xs n) ((n + 1 : Nat) : Int) + rd (accD xs n) (n : Int)))
theorem accD_len (xs : List Int) (n : Nat) : (accD xs n).length = xs.length := by
  induction n with
  | zero => rfl
  | succ n ih => rw [accD, List.length_set, ih]
/-- Whether Daily refuses the days. -/
def daBad (a2 a3 : Int) : Bool := !(decide (0 ≤ a2) && decide (a2 ≤ 73048)) || !(decide (0 ≤ a3) && decide (a3 ≤ 73048)) || decide (a2 > a3) || decide (wrap64 (a3 - a2) ≥ 4000)
def daF (l0 : List S36) (a1 a2 a3 : Int) : List Int := accD ((moves l0 a1).foldl (da1 a2 a3) (List.replicate (a3 - a2 + 1).toNat 0)) (a3 - a2).toNat
def balance_Daily.f (l0 : List S36) (a1 a2 a3 : Int) : Option (List Int) := if okJ l0 = true then (if daBad a2 a3 = true then some [] else some (daF l0 a1 a2 a3)) else none

theorem valid_f (a : Int) : date_Valid.f a = some (decide (0 ≤ a) && decide (a ≤ 73048)) := by
  unfold date_Valid.f
  by_cases h : a ≥ 0
  · rw [if_pos h]; simp [h]
  · rw [if_neg h, decide_eq_false (p := 0 ≤ a) h]; simp
theorem boxes2 {w w1 : World} {a2 a3 : Int} (hd : Drawn0 ((w.alloc (.cells #[.int .i64 a2] 3)).alloc (.cells #[.int .i64 a3] 3)) w1) :
    w1.cell? ⟨w.heap.size, 0, none⟩ = some (.int .i64 a2) ∧ w1.cell? ⟨w.heap.size + 1, 0, none⟩ = some (.int .i64 a3) ∧ Boxed w1 w.heap.size 3 (.int .i64 a2) ∧ Boxed w1 (w.heap.size + 1) 3 (.int .i64 a3) ∧ Below w.heap.size w w1 ∧ w1.heap.size = w.heap.size + 2 := by
  obtain ⟨k, rfl⟩ := hd
  have b1 := (Boxed.new w 3 (.int .i64 a2)).alloc (.cells #[.int .i64 a3] 3)
  have b2 := Boxed.new (w.alloc (.cells #[.int .i64 a2] 3)) 3 (.int .i64 a3)
  rw [World.size_alloc] at b2
  have c1 : Boxed (((w.alloc (.cells #[.int .i64 a2] 3)).alloc (.cells #[.int .i64 a3] 3)).drewN k) w.heap.size 3 (.int .i64 a2) := blk_drewN b1 k
  have c2 : Boxed (((w.alloc (.cells #[.int .i64 a2] 3)).alloc (.cells #[.int .i64 a3] 3)).drewN k) (w.heap.size + 1) 3 (.int .i64 a3) := blk_drewN b2 k
  exact ⟨c1.cell, c2.cell, c1, c2, pw_below_drewN (((Below.refl _ w).alloc (Nat.le_refl _) _).alloc (by simp) _) k, by simp⟩
theorem drawn0_trans {a b c : World} (h : Drawn0 a b) (k : Drawn0 b c) : Drawn0 a c := by
  obtain ⟨n, rfl⟩ := k
  exact h.step n

set_option maxRecDepth 100000 in
set_option maxHeartbeats 4000000 in
theorem Daily_in (F : Fence) (hF : F = Fence.wide) (n : Nat) (hf : F.fn 13) (hf2 : F.fn 25) (hf3 : F.fn 36) (hf4 : F.fn 26) (hro : F.round = none) (hn : 3 ≤ n) (A0 : Option Addr) (c0 : Nat) (l0 : List S36) (a1 a2 a3 : Int) (R : Nat → Option Addr × Nat) (w : World) (hok : okJ l0 = true) (hrow : Rows w A0 l0 R) :
    CallsIn F n Try.prog 13 #[.slice A0 l0.length c0, .int .i64 a1, .int .i64 a2, .int .i64 a3] w fun e w' => ∃ v0_ : Value, e = .returned v0_ ∧ Kd.R (Kd.int .i64) 3 w' w.heap.size (fun _ => True) v0_ (if daBad a2 a3 = true then [] else daF l0 a1 a2 a3) ∧ Below w.heap.size w w' := by
  subst hF
  have h1 : 1 ≤ n := by omega
  refine callsIn_of_wp_marks Try.func13 rfl hf ?_ hro
  simp only [Try.ntmps13, List.size_toArray, List.length_cons, List.length_nil, Nat.reduceAdd, Nat.reduceSub, Array.replicate_succ, Array.replicate_zero, List.push_toArray, List.append_toArray, List.nil_append, List.cons_append]
  have v2 := valid_f a2
  have v3 := valid_f a3
  by_cases g1 : (decide (0 ≤ a2) && decide (a2 ≤ 73048)) = true
  · rw [g1] at v2
    have V2 := Aside0.mk v2
    clear v2
    by_cases g2 : (decide (0 ≤ a3) && decide (a3 ≤ 73048)) = true
    · rw [g2] at v3
      have V3 := Aside0.mk v3
      clear v3
      have G0 : 0 ≤ a2 ∧ a2 ≤ 73048 ∧ 0 ≤ a3 ∧ a3 ≤ 73048 := by
        rw [Bool.and_eq_true, decide_eq_true_iff, decide_eq_true_iff] at g1 g2
        exact ⟨g1.1, g1.2, g2.1, g2.2⟩
      by_cases g3 : a2 > a3
      · have hbad : daBad a2 a3 = true := by unfold daBad; rw [g1, g2, decide_eq_true g3]; rfl
        rw [if_pos hbad]
        have d3 : decide (a2 > a3) = true := decide_eq_true g3
        clear g1 g2 g3 hbad G0
        gi_wp2_with (first | (gi_at_call 26; refine (callsIn_wide.2 (date_Valid.calls a2 true _ V2.out)).mono ?_; rintro e w2 ⟨rfl, hd⟩; have HD1 := Aside0.mk hd; have hc1 := (boxes2 hd).1; have hc2 := (boxes2 hd).2.1; clear hd) | (gi_at_call 26; refine (callsIn_wide.2 (date_Valid.calls a3 true _ V3.out)).mono ?_; rintro e w2 ⟨rfl, hd⟩; have HD2 := Aside0.mk (drawn0_trans HD1.out hd); have hc3 := (boxes2 HD2.out).1; have hc4 := (boxes2 HD2.out).2.1; clear hd hc1 hc2))
        exact ⟨_, results_tmp rfl _ _ _, _, rfl, Kd.R_nil _ _ _ _ _, (boxes2 HD2.out).2.2.2.2.1⟩
      · have d3 : decide (a2 > a3) = false := decide_eq_false g3
        have hw3 : wrap64 (a3 - a2) = a3 - a2 := by unfold wrap64; omega
        by_cases g4 : wrap64 (a3 - a2) ≥ 4000
        · have hbad : daBad a2 a3 = true := by unfold daBad; rw [g1, g2, d3, decide_eq_true g4]; rfl
          rw [if_pos hbad]
          have d4 : decide (wrap64 (a3 - a2) ≥ 4000) = true := decide_eq_true g4
          clear g1 g2 g3 g4 hbad G0 hw3
          gi_wp2_with (first | (gi_at_call 26; refine (callsIn_wide.2 (date_Valid.calls a2 true _ V2.out)).mono ?_; rintro e w2 ⟨rfl, hd⟩; have HD1 := Aside0.mk hd; have hc1 := (boxes2 hd).1; have hc2 := (boxes2 hd).2.1; clear hd) | (gi_at_call 26; refine (callsIn_wide.2 (date_Valid.calls a3 true _ V3.out)).mono ?_; rintro e w2 ⟨rfl, hd⟩; have HD2 := Aside0.mk (drawn0_trans HD1.out hd); have hc3 := (boxes2 HD2.out).1; have hc4 := (boxes2 HD2.out).2.1; clear hd hc1 hc2))
          exact ⟨_, results_tmp rfl _ _ _, _, rfl, Kd.R_nil _ _ _ _ _, (boxes2 HD2.out).2.2.2.2.1⟩
        · have d4 : decide (wrap64 (a3 - a2) ≥ 4000) = false := decide_eq_false g4
          have hbad : daBad a2 a3 = false := by unfold daBad; rw [g1, g2, d3, d4]; rfl
          rw [hbad, if_neg Bool.false_ne_true]
          obtain ⟨m, hm⟩ : ∃ m : Nat, (a3 - a2 + 1) = (m : Int) := ⟨(a3 - a2 + 1).toNat, by omega⟩
          have hmm : 1 ≤ m ∧ m ≤ 4000 := by omega
          have e35 : wrap64 (wrap64 (a3 - a2) + 1) = (m : Int) := by rw [hw3, hm]; unfold wrap64; omega
          have hmk := fun W => make_row W m hmm.2
          have HG0 := Aside0.mk G0
          have HM := Aside0.mk hm
          have HMM := Aside0.mk hmm
          have HW3 := Aside0.mk hw3
          have HG3 := Aside0.mk g3
          have HG4 := Aside0.mk g4
          clear g1 g2 g3 g4 hbad G0 hw3 hm hmm
          gi_wp2_with (first | (gi_at_call 26; refine (callsIn_wide.2 (date_Valid.calls a2 true _ V2.out)).mono ?_; rintro e w2 ⟨rfl, hd⟩; have HD1 := Aside0.mk hd; have hc1 := (boxes2 hd).1; have hc2 := (boxes2 hd).2.1; clear hd) | (gi_at_call 26; refine (callsIn_wide.2 (date_Valid.calls a3 true _ V3.out)).mono ?_; rintro e w2 ⟨rfl, hd⟩; have HD2 := Aside0.mk (drawn0_trans HD1.out hd); have hc3 := (boxes2 HD2.out).1; have hc4 := (boxes2 HD2.out).2.1; clear hd hc1 hc2) | (gi_at_call 25; refine (movements_in Fence.wide (n - 1) hf2 hro _ _ _ _ _).mono ?_; rintro e w' ⟨rfl, rfl⟩))
          obtain ⟨cA2, cA3, bA2, bA3, hB2, hz2⟩ := boxes2 HD2.out
          have hg : (w2.alloc (.cells (Array.replicate m (Value.int .i64 0)) 3)).heap[w2.heap.size]? = some (.cells (Array.replicate m (Value.int .i64 0)) 3 (0, 0)) := World.alloc_heap_new _ _
          have bO := ((Boxed.new (w2.alloc (.cells (Array.replicate m (Value.int .i64 0)) 3)) 31 (.slice (some ⟨w2.heap.size, 0, none⟩) m m)).alloc (.cells #[.slice A0 l0.length c0] 22)).alloc (.cells #[.int .i64 a1] 3)
          have bJ := (Boxed.new ((w2.alloc (.cells (Array.replicate m (Value.int .i64 0)) 3)).alloc (.cells #[.slice (some ⟨w2.heap.size, 0, none⟩) m m] 31)) 22 (.slice A0 l0.length c0)).alloc (.cells #[.int .i64 a1] 3)
          have bA := Boxed.new (((w2.alloc (.cells (Array.replicate m (Value.int .i64 0)) 3)).alloc (.cells #[.slice (some ⟨w2.heap.size, 0, none⟩) m m] 31)).alloc (.cells #[.slice A0 l0.length c0] 22)) 3 (.int .i64 a1)
          have bB2 := (((bA2.alloc (.cells (Array.replicate m (Value.int .i64 0)) 3)).alloc (.cells #[.slice (some ⟨w2.heap.size, 0, none⟩) m m] 31)).alloc (.cells #[.slice A0 l0.length c0] 22)).alloc (.cells #[.int .i64 a1] 3)
          have bB3 := (((bA3.alloc (.cells (Array.replicate m (Value.int .i64 0)) 3)).alloc (.cells #[.slice (some ⟨w2.heap.size, 0, none⟩) m m] 31)).alloc (.cells #[.slice A0 l0.length c0] 22)).alloc (.cells #[.int .i64 a1] 3)
          have bR : IRow ((((w2.alloc (.cells (Array.replicate m (Value.int .i64 0)) 3)).alloc (.cells #[.slice (some ⟨w2.heap.size, 0, none⟩) m m] 31)).alloc (.cells #[.slice A0 l0.length c0] 22)).alloc (.cells #[.int .i64 a1] 3)) w.heap.size w2.heap.size m m (daM a2 a3 m []) :=
            row_made HMM.out.2 (by omega) (blk_alloc (blk_alloc (blk_alloc hg _) _) _)
          simp only [World.size_alloc] at bO bJ bA
          obtain ⟨W0, hW0⟩ : ∃ W0, (((w2.alloc (.cells (Array.replicate m (Value.int .i64 0)) 3)).alloc (.cells #[.slice (some ⟨w2.heap.size, 0, none⟩) m m] 31)).alloc (.cells #[.slice A0 l0.length c0] 22)).alloc (.cells #[.int .i64 a1] 3) = W0 := ⟨_, rfl⟩
          have hsz : W0.heap.size = w.heap.size + 6 := by rw [← hW0]; simp; omega
          have hB0 : Below w.heap.size w W0 := by rw [← hW0]; exact (((hB2.alloc (by omega) _).alloc (by simp; omega) _).alloc (by simp; omega) _).alloc (by simp; omega) _
          rw [hW0] at bO bJ bA bB2 bB3 bR ⊢
          clear hW0 cA2 cA3 bA2 bA3 hB2 hg hc3 hc4 hmk
          generalize w2.heap.size = g at *
          refine wpIn_rangeFunc_ownH hro h1 (gf := 36) (lb := #[.pointer (some ⟨g + 1 + 1, 0, none⟩), .pointer (some ⟨g + 1 + 1 + 1, 0, none⟩)]) rfl hf3 (enters_of Try.func36 (by kernel_rfl) rfl)
            (mov_stops Fence.wide (n - 1) hf3 hro (by omega) (g + 1 + 1) (g + 1 + 1 + 1) A0 c0 l0 a1 R w (okJ_len hok) (okJ_legs hok) hrow W0 hB0 bJ.cell bA.cell) MKp.trans (MKp.putObj (by omega) (by omega)) (Below.refl _ _) (fun _ => rfl)
            (fun pre W => (((IRow W w.heap.size g m m (daM a2 a3 m pre) ∧ Boxed W w.heap.size 3 (.int .i64 a2)) ∧ Boxed W (w.heap.size + 1) 3 (.int .i64 a3)) ∧ Boxed W (g + 1) 31 (.slice (some ⟨g, 0, none⟩) m m)) ∧ Below w.heap.size w W ∧ w.heap.size + 6 ≤ W.heap.size)
            (fun _ _ _ => False)
            (OwnFrom.and (OwnFrom.and (OwnFrom.and (OwnFrom.and (irow_own _ _ _ _ _ _) (Own.from (boxed_own _ _ _) _)) (Own.from (boxed_own _ _ _) _)) (Own.from (boxed_own _ _ _) _)) (OwnFrom.and (ownFrom_below (Nat.le_refl _) (by omega)) ownFrom_size))
            (fun _ _ _ _ _ hs _ _ => hs)
            ⟨⟨⟨⟨bR, bB2⟩, bB3⟩, bO⟩, hB0, by omega⟩
            (fun x a' W => ∃ Bx, w.heap.size + 5 < Bx ∧ EBox W Bx x ∧ a' = { tmps := #[.slice A0 l0.length c0, .int .i64 a1, .int .i64 a2, .int .i64 a3, undef, undef, .pointer (some ⟨w.heap.size, 0, none⟩), .pointer (some ⟨w.heap.size + 1, 0, none⟩), .slice none 0 0, .pointer (some ⟨g + 1, 0, none⟩), .pointer (some ⟨Bx, 0, none⟩), .int .i64 x.am, undef, .int .i64 a2, .bool true, .bool false, .bool false, .int .i64 a3, .bool true, .bool false, .bool false, .bool false, .int .i64 a2, .int .i64 a3, .bool false, .bool false, .bool false, .int .i64 a3, .int .i64 a2, .int .i64 (wrap64 (a3 - a2)), .bool false, .bool false, .int .i64 a3, .int .i64 a2, .int .i64 (wrap64 (a3 - a2)), .int .i64 (m : Int), .slice (some ⟨g, 0, none⟩) m m, .slice A0 l0.length c0, .int .i64 a1, .func (.func 36) #[] #[.pointer (some ⟨g + 1 + 1, 0, none⟩), .pointer (some ⟨g + 1 + 1 + 1, 0, none⟩)], ev x.x x.A x.c, .int .i64 x.am, undef, undef, undef, undef, undef, undef, undef, undef, undef, undef, undef, undef, undef, undef, undef, undef, undef, undef, undef, undef, undef, undef, undef, undef, undef, undef, undef, undef, undef, undef, undef, undef, undef, undef], defers := [] })
            (fun x a' _ X Y row hs hg hr => by obtain ⟨Bx, h1, h2, h3⟩ := hs; exact ⟨Bx, h1, h2.kept hg (fun r e => (hr r e).2), h3⟩)
            ?assign ?body ?done ?stop
          case assign =>
            have HZ2 := Aside0.mk hz2
            clear hz2
            rintro l pre x W K ⟨⟨⟨⟨bR1, bB1⟩, bV1⟩, bO1⟩, hB1, hR1⟩ hK
            have hlt : w.heap.size + 5 < W.heap.size := by omega
            have hle : w.heap.size ≤ W.heap.size := by omega
            have hba : g + 1 + 1 + 1 < W.heap.size := by have := HZ2.out; omega
            dsimp only [Mv.enc, ev]
            gi_wp2
            exact hK _ _ ((KeepsOthers.alloc _ _).from _) (MKp.alloc1 hle hba _) ⟨⟨⟨⟨Kd.R_alloc bR1 _, bB1.alloc _⟩, bV1.alloc _⟩, bO1.alloc _⟩, hB1.alloc hB1.size _, by simp; omega⟩ ⟨W.heap.size, hlt, World.alloc_heap_new _ _, rfl⟩
          case body =>
            have HZ2 := Aside0.mk hz2
            clear hz2
            rintro l pre x a' W hl ⟨r, hr⟩ ⟨⟨⟨⟨bR1, bB1⟩, bV1⟩, bO1⟩, hB1, hR1⟩ ⟨Bx, hBx, bX, rfl⟩ _
            have cB := bB1.cell
            have cV := bV1.cell
            have cO := bO1.cell
            have x2 : W.cell? ⟨Bx, 2, none⟩ = some (.int .i64 x.x.f2) := (blk_cell bX 2).trans rfl
            by_cases g1 : x.x.f2 ≤ a3
            · have d1 : decide (x.x.f2 ≤ a3) = true := decide_eq_true g1
              obtain ⟨i, hi, hi0, him, hmx⟩ : ∃ i : Int, wrap64 (mx a2 x.x.f2 - a2) = i ∧ 0 ≤ i ∧ i < (m : Int) ∧ (i = 0 ∨ a2 < x.x.f2) := by
                have h0 := HG0.out
                have h2 := HM.out
                have h3 := HG3.out
                refine ⟨_, rfl, ?_⟩
                unfold mx
                split
                · rename_i h; refine ⟨?_, ?_, .inr h⟩ <;> (unfold wrap64; omega)
                · refine ⟨?_, ?_, .inl ?_⟩ <;> (unfold wrap64; omega)
              have hcell := Kd.R_celln 0 bR1 i hi0 him
              have hput := Kd.R_putg bR1 i (wrap64 (rd (daM a2 a3 m pre) i - x.am))
              have HD : daM a2 a3 m (pre ++ [x]) = (daM a2 a3 m pre).set i.toNat (wrap64 (rd (daM a2 a3 m pre) i - x.am)) := by rw [daM_snoc, da1_yes g1, hi]
              obtain ⟨hx, hf⟩ := hcell
              have p5 := eq_true hi0
              have q5 := eq_true him
              have HPUT := Aside0.mk hput
              have HDD := Aside0.mk HD
              by_cases g5 : a2 < x.x.f2
              · have hi' : wrap64 (x.x.f2 - a2) = i := by rw [← hi, mx, if_pos g5]
                have c5 := eq_true g5
                clear g5 g1 hi hmx hi0 him hput HD
                gi_wp2
                exact ⟨(KeepsOthers.setCell _ _ _).from _, MKp.setRow bR1.typed (by have := HZ2.out; omega) (by omega) _ _, ⟨⟨⟨⟨by rw [HDD.out]; exact HPUT.out.1, boxed_farRow bB1 (by have := HZ2.out; omega) _⟩, boxed_farRow bV1 (by have := HZ2.out; omega) _⟩, boxed_farRow bO1 (by omega) _⟩, hB1.setCell (p := ⟨g, i.toNat, none⟩) (by have := HZ2.out; simp; omega) _, by simp; omega⟩⟩
              · have hi' : i = 0 := by rcases hmx with h | h; exact h; exact absurd h g5
                subst hi'
                have q6 : 0 < m := by have := HMM.out; omega
                have c5 := eq_false g5
                have hx0 : W.cell? ⟨g, 0, none⟩ = some (.int .i64 (rdOf 0 (daM a2 a3 m pre) 0)) := hx
                have hf0 : W.frozen? ⟨g, 0, none⟩ = false := hf
                clear g5 g1 hi hmx hi0 him hput HD
                gi_wp2
                exact ⟨(KeepsOthers.setCell _ _ _).from _, MKp.setRow bR1.typed (by have := HZ2.out; omega) (by omega) _ _, ⟨⟨⟨⟨by rw [HDD.out]; exact HPUT.out.1, boxed_farRow bB1 (by have := HZ2.out; omega) _⟩, boxed_farRow bV1 (by have := HZ2.out; omega) _⟩, boxed_farRow bO1 (by omega) _⟩, hB1.setCell (p := ⟨g, 0, none⟩) (by have := HZ2.out; simp; omega) _, by simp; omega⟩⟩
            · have G1 := Aside0.mk g1
              have d1 : decide (x.x.f2 ≤ a3) = false := decide_eq_false g1
              clear g1
              gi_wp2
              exact ⟨KeepsFrom.refl _ _, MKp.refl _ _ _, ⟨⟨⟨⟨by rw [daM_snoc, da1_no (by have := G1.out; omega)]; exact bR1, bB1⟩, bV1⟩, bO1⟩, hB1, hR1⟩⟩
          case done =>
            rintro D ys W hD rfl ⟨⟨⟨⟨bR1, bB1⟩, bV1⟩, bO1⟩, hB1, hR1⟩ hK
            have HDG := Aside0.mk (show g < D ∧ w.heap.size ≤ g ∧ w.heap.size ≤ D by omega)
            clear hz2 hsz hD hR1
            obtain ⟨ys, hys⟩ : ∃ ys, daM a2 a3 m (movs R a1 l0 l0.length) = ys := ⟨_, rfl⟩
            rw [hys] at bR1
            have HYS := Aside0.mk hys
            clear hys
            gi_wp2
            gi_loopw [12] (fun v wr => ∃ (x12 : Int) (k : Nat), v = .int .i64 x12 ∧ Aside0 (x12 = (k : Int) + 1 ∧ k + 1 ≤ m) ∧ Aside0 (IRow wr w.heap.size g m m (accD ys k)) ∧ Aside0 (Boxed wr (g + 1) 31 (.slice (some ⟨g, 0, none⟩) m m)) ∧ Aside0 (Below w.heap.size w wr) ∧ Aside0 (wr.heap[D]? = some (.deferred (some []))))
              (fun v _ => m + 1 - (intOf v).toNat)
            case atStart => exact ⟨1, 0, rfl, ⟨rfl, HMM.out.1⟩, ⟨bR1⟩, ⟨bO1⟩, ⟨hB1⟩, ⟨hK⟩⟩
            case round =>
              clear bR1 bB1 bV1 bO1 hB1 hK
              obtain ⟨x12, k, rfl, HN, HR, HO, HB, HK⟩ := hrel
              have cO := HO.out.cell
              by_cases c1 : x12 < (m : Int)
              · have c1b : decide (x12 < (m : Int)) = true := decide_eq_true c1
                have p1 : 0 ≤ x12 := by have := HN.out; omega
                have p2 : 0 ≤ x12 - 1 := by have := HN.out; omega
                have q2 : x12 - 1 < (m : Int) := by omega
                have e1 : wrap64 (x12 - 1) = x12 - 1 := by have := HMM.out; unfold wrap64; omega
                have e2 : wrap64 (x12 + 1) = x12 + 1 := by have := HMM.out; unfold wrap64; omega
                obtain ⟨hx, hf⟩ := Kd.R_celln 0 HR.out x12 p1 c1
                obtain ⟨hx2, hf2'⟩ := Kd.R_celln 0 HR.out (x12 - 1) p2 q2
                have P1 := eq_true p1
                have P2 := eq_true p2
                have Q1 := eq_true c1
                have Q2 := eq_true q2
                have HWK := Aside0.mk (And.intro p1 (And.intro c1 (And.intro p2 q2)))
                have e1b : IntKind.i64.wrap (x12 - 1) = x12 - 1 := by rw [IntKind.wrap_i64]; have := HMM.out; omega
                have l1 : 1 ≤ x12 := by omega
                have hx2b : wr.cell? ⟨g, x12.toNat - 1, none⟩ = some (.int .i64 (rdOf 0 (accD ys k) (x12 - 1))) := by rw [← hx2, show (x12 - 1).toNat = x12.toNat - 1 by omega]
                have hf2b : wr.frozen? ⟨g, x12.toNat - 1, none⟩ = false := by rw [← hf2', show (x12 - 1).toNat = x12.toNat - 1 by omega]
                have hmix : Try.prog.follows Departure.mixedOrders = true := by kernel_rfl
                clear p1 p2
                gi_wp2
                gi_region_o
                have HPUT := Kd.R_putg HR.out x12 (wrap64 (rd (accD ys k) x12 + rd (accD ys k) (x12 - 1)))
                have hne : g < wr.heap.size := by obtain ⟨cells, hc⟩ := HR.out.typed; exact (Array.getElem?_eq_some_iff.1 hc).1
                gi_wp2
                go_roundw
                case rel =>
                  refine ⟨_, k + 1, rfl, ⟨by have := HN.out; omega, by have := HN.out; omega⟩, ⟨?_⟩, ⟨blk_drew (boxed_farRow HO.out (by omega) _)⟩, ⟨(HB.out.setCell (p := ⟨g, x12.toNat, none⟩) HDG.out.2.1 _).drew⟩, ⟨?_⟩⟩
                  · have hx12 : x12 = ((k + 1 : Nat) : Int) := by have := HN.out; omega
                    have hacc : accD ys (k + 1) = (accD ys k).set x12.toNat (wrap64 (rd (accD ys k) x12 + rd (accD ys k) (x12 - 1))) := by
                      rw [accD, hx12, show (((k + 1 : Nat) : Int) - 1) = (k : Int) by omega, Int.toNat_natCast]
                    rw [hacc]
                    exact Kd.R_drew HPUT.1
                  · exact (Below.heap_setCell wr ⟨g, x12.toNat, none⟩ _ D (by have := HDG.out.1; simp; omega)).trans HK.out
                case measure =>
                  have h2 := HN.out
                  simp only [intOf, Array.getD_eq_getD_getElem?]
                  omega
              · have c1b : decide (x12 < (m : Int)) = false := decide_eq_false c1
                have hkm : k = (a3 - a2).toNat := by have := HN.out; have := HM.out; omega
                gi_wp2
                refine ⟨by simp, .inl ⟨_, _, rfl, run_takeDeferred HK.out, ?_⟩⟩
                refine ⟨_, results_tmp rfl _ _ _, _, rfl, ?_, HB.out.trans (belowK_b (w := w) (Nat.le_refl _) wr D _ _ HDG.out.2.2 HK.out rfl rfl)⟩
                have hr := HR.out.kept (grownBy_putObj' wr D (.deferred none)) (fun r e => by cases e; exact ⟨_, HK.out, rfl⟩)
                have hfin : accD ys k = daF l0 a1 a2 a3 := by
                  rw [← HYS.out, daM, movs_moves, daF, hkm, show (a3 - a2 + 1).toNat = m by have := HM.out; omega]
                rw [← hfin]
                exact Kd.R_mono hr (fun _ _ => trivial)
          case stop =>
            rintro D c pre W _ _ h _
            exact h.elim
    · have g2' := eq_false_of_ne_true g2
      rw [g2'] at v3
      have V3 := Aside0.mk v3
      clear v3
      have hbad : daBad a2 a3 = true := by unfold daBad; rw [g1, g2']; rfl
      rw [if_pos hbad]
      clear g1 g2 g2' hbad
      gi_wp2_with (first | (gi_at_call 26; refine (callsIn_wide.2 (date_Valid.calls a2 true _ V2.out)).mono ?_; rintro e w2 ⟨rfl, hd⟩; have HD1 := Aside0.mk hd; have hc1 := (boxes2 hd).1; have hc2 := (boxes2 hd).2.1; clear hd) | (gi_at_call 26; refine (callsIn_wide.2 (date_Valid.calls a3 false _ V3.out)).mono ?_; rintro e w2 ⟨rfl, hd⟩; have HD2 := Aside0.mk (drawn0_trans HD1.out hd); have hc3 := (boxes2 HD2.out).1; have hc4 := (boxes2 HD2.out).2.1; clear hd hc1 hc2))
      exact ⟨_, results_tmp rfl _ _ _, _, rfl, Kd.R_nil _ _ _ _ _, (boxes2 HD2.out).2.2.2.2.1⟩
  · have g1' := eq_false_of_ne_true g1
    rw [g1'] at v2
    have hbad : daBad a2 a3 = true := by unfold daBad; rw [g1']; rfl
    rw [if_pos hbad]
    clear g1 g1' hbad v3
    have V2 := Aside0.mk v2
    clear v2
    gi_wp2_with (gi_at_call 26; refine (callsIn_wide.2 (date_Valid.calls a2 false _ V2.out)).mono ?_; rintro e w' ⟨rfl, hd⟩)
    exact ⟨_, results_tmp rfl _ _ _, _, rfl, Kd.R_nil _ _ _ _ _, (boxes2 hd).2.2.2.2.1⟩

theorem balance_Daily.calls (A0 : Option Addr) (c0 : Nat) (l0 : List (S36)) (a1 : Int) (a2 : Int) (a3 : Int) (r : List Int) (w : World) (hr0 : Kd.C k36 w A0 l0.length l0) (hc0 : l0.length ≤ c0) (h : balance_Daily.f l0 a1 a2 a3 = some r) :
    Calls Try.prog 13 #[.slice A0 l0.length c0, .int .i64 a1, .int .i64 a2, .int .i64 a3] w fun e w' => ∃ v0_ : Value, e = .returned (v0_) ∧ Kd.R (Kd.int .i64) 3 w' w.heap.size (fun _ => True) v0_ r ∧ Below w.heap.size w w' := by
  unfold balance_Daily.f at h
  split at h
  · rename_i hok
    obtain ⟨R, hR⟩ := rows_of hr0
    have h3 := (callsIn_wide (n := 3)).1 (Daily_in Fence.wide rfl 3 trivial trivial trivial trivial rfl (by omega) A0 c0 l0 a1 a2 a3 R w hok hR)
    have hr : (if daBad a2 a3 = true then [] else daF l0 a1 a2 a3) = r := by
      by_cases hb : daBad a2 a3 = true
      · rw [if_pos hb] at h ⊢; exact Option.some.inj h
      · rw [if_neg hb] at h ⊢; exact Option.some.inj h
    rw [hr] at h3
    exact h3
  · cases h
end Go.Proofs.Ytnilmhhidmdlnaa.PA
