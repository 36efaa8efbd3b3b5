/- balance.Moves. -/
import Derived.Test.YtnilmhhidmdlnaaDaily
import Derived.Test.YtnilmhhidmdlnaaRowSort
namespace Go.Proofs.Ytnilmhhidmdlnaa.PA
open Go.RowKit Go.Shelf Go.Proofs.YtnilmhhidmdlnaaW.PrintWords Go.Proofs.YtnilmhhidmdlnaaW.PrintLast Go.Proofs.YtnilmhhidmdlnaaW.PrintMore
attribute [local go_sem] Oper.semAt_some
set_option linter.unusedVariables false
set_option linter.unusedSimpArgs false

theorem MKp.grown {n₀ Ba : Nat} {W W' : World} {row : Option Nat} (hg : W.grownBy W' row) (hn : n₀ ≤ W.heap.size) (hb : Ba < W.heap.size) (hr : ∀ k, row = some k → n₀ ≤ k ∧ k ≠ Ba ∧ ∃ cells, W.heap[k]? = some (.cells cells 3 (0, 0))) : MKp n₀ Ba W W' :=
  ⟨(Below.refl n₀ W).grown hg hn (fun k e => (hr k e).1), hg.block Ba hb (fun e => (hr _ e.symm).2.1 rfl), fun k cs z hk => by
    rw [hg.block k (Array.getElem?_eq_some_iff.1 hk).1 (fun e => by
      obtain ⟨cells, hc⟩ := (hr k e.symm).2.2
      rw [hc] at hk; cases hk)]
    exact hk⟩
theorem MKp.setCell31 {n₀ Ba b t : Nat} {W : World} {u : Value} (hb : Boxed W b t u) (ht : t ≠ 36) (hn : n₀ ≤ b) (hne : Ba ≠ b) (v : Value) : MKp n₀ Ba W (W.setCell ⟨b, 0, none⟩ v) :=
  ⟨(Below.refl n₀ W).setCell (p := ⟨b, 0, none⟩) hn v, Below.heap_setCell W ⟨b, 0, none⟩ v Ba hne, fun k cs z hk => by
    rw [Below.heap_setCell W ⟨b, 0, none⟩ v k (fun e => by
      have hb' : W.heap[b]? = _ := hb
      have e' : k = b := e
      rw [e', hb'] at hk; cases hk; exact ht rfl)]
    exact hk⟩

/-- The value dates that came, in their order. -/
def vals (pre : List Mv) : List Int := pre.map (fun m => m.x.f2)
theorem vals_snoc (pre : List Mv) (x : Mv) : vals (pre ++ [x]) = vals pre ++ [x.x.f2] := by simp [vals]
theorem ownsRow_lower {W : World} {b b' e size n : Nat} {v : Value} {xs : List Value} (h : W.ownsRow b e size v n xs) (hb : b' ≤ b) : W.ownsRow b' e size v n xs := by
  obtain ⟨h1, h2 | ⟨g, cap, cur, h3, h4, h5⟩⟩ := h
  · exact ⟨h1, .inl h2⟩
  · exact ⟨h1, .inr ⟨g, cap, cur, h3, Nat.le_trans hb h4, h5⟩⟩
theorem row_block {W : World} {b n : Nat} {v : Value} {xs : List Value} (h : W.ownsRow b 3 1 v n xs) (k : Nat) (hk : v.ownBlock = some k) : b ≤ k ∧ ∃ cells, W.heap[k]? = some (.cells cells 3 (0, 0)) := by
  obtain ⟨h1, ⟨rfl, _⟩ | ⟨g, cap, cur, rfl, h4, h5, _⟩⟩ := h
  · simp [Value.ownBlock] at hk
  · have : g = k := by simpa [Value.ownBlock] using hk
    subst this
    exact ⟨h4, cur, h5⟩

set_option maxRecDepth 100000 in
set_option maxHeartbeats 4000000 in
theorem Moves_in (F : Fence) (hF : F = Fence.wide) (n : Nat) (hf : F.fn 20) (hf2 : F.fn 25) (hf3 : F.fn 36) (hf4 : F.fn 33) (hf5 : F.fn 34) (hro : F.round = none) (hn : 3 ≤ n) (A0 : Option Addr) (c0 : Nat) (l0 : List S36) (a1 : Int) (R : Nat → Option Addr × Nat) (w : World) (hok : okJ l0 = true) (hlen : (moves l0 a1).length ≤ 4096) (hrow : Rows w A0 l0 R) :
    CallsIn F n Try.prog 20 #[.slice A0 l0.length c0, .int .i64 a1] w fun e w' => ∃ v0_ : Value, e = .returned v0_ ∧ Kd.R (Kd.int .i64) 3 w' w.heap.size (fun _ => True) v0_ (Lib.compact (sortI ((moves l0 a1).map (fun p => p.1.f2)))) ∧ Below w.heap.size w w' := by
  subst hF
  have h1 : 1 ≤ n := by omega
  obtain ⟨i0, hi, hz0, hz1, hz2⟩ := info_parts info3
  refine callsIn_of_wp_marks Try.func20 rfl hf ?_ hro
  simp only [Try.ntmps20, List.size_toArray, List.length_cons, List.length_nil, Nat.reduceAdd, Nat.reduceSub, Array.replicate_succ, Array.replicate_zero, List.push_toArray, List.append_toArray, List.nil_append, List.cons_append]
  gi_wp2_with (gi_at_call 25; refine (movements_in Fence.wide (n - 1) hf2 hro _ _ _ _ _).mono ?_; rintro e w' ⟨rfl, rfl⟩)
  have bO := ((Boxed.new w 31 (.slice none 0 0)).alloc (.cells #[.slice A0 l0.length c0] 22)).alloc (.cells #[.int .i64 a1] 3)
  have bJ := (Boxed.new (w.alloc (.cells #[.slice none 0 0] 31)) 22 (.slice A0 l0.length c0)).alloc (.cells #[.int .i64 a1] 3)
  have bA := Boxed.new ((w.alloc (.cells #[.slice none 0 0] 31)).alloc (.cells #[.slice A0 l0.length c0] 22)) 3 (.int .i64 a1)
  simp only [World.size_alloc] at bO bJ bA
  obtain ⟨W0, hW0⟩ : ∃ W0, ((w.alloc (.cells #[.slice none 0 0] 31)).alloc (.cells #[.slice A0 l0.length c0] 22)).alloc (.cells #[.int .i64 a1] 3) = W0 := ⟨_, rfl⟩
  have hsz : W0.heap.size = w.heap.size + 3 := by rw [← hW0]; simp
  have hB0 : Below w.heap.size w W0 := by rw [← hW0]; exact (((Below.refl _ w).alloc (Nat.le_refl _) _).alloc (by simp) _).alloc (by simp; omega) _
  rw [hW0] at bO bJ bA ⊢
  clear hW0
  refine wpIn_rangeFunc_ownH hro h1 (gf := 36) (lb := #[.pointer (some ⟨w.heap.size + 1, 0, none⟩), .pointer (some ⟨w.heap.size + 1 + 1, 0, none⟩)]) rfl hf3 (enters_of Try.func36 (by kernel_rfl) rfl)
    (mov_stops Fence.wide (n - 1) hf3 hro (by omega) (w.heap.size + 1) (w.heap.size + 1 + 1) A0 c0 l0 a1 R w (okJ_len hok) (okJ_legs hok) hrow W0 hB0 bJ.cell bA.cell) MKp.trans (MKp.putObj (by omega) (by omega)) (Below.refl _ _) (fun _ => rfl)
    (fun pre W => (∃ v, Boxed W w.heap.size 31 v ∧ W.ownsRow (w.heap.size + 3) 3 1 v (vals pre).length ((vals pre).map (Value.int .i64)) ∧ True) ∧ Below w.heap.size w W ∧ w.heap.size + 3 ≤ W.heap.size)
    (fun _ _ _ => False)
    (OwnFrom.and (Own.from (holdsRow_own (w.heap.size + 3) w.heap.size 31 3 1 (fun pre => (vals pre).length) (fun pre => (vals pre).map (Value.int .i64)) (fun pre v => True)) _) (OwnFrom.and (ownFrom_below (Nat.le_refl _) (by omega)) ownFrom_size))
    (fun _ _ _ _ _ hs _ _ => hs)
    ⟨⟨_, bO, World.ownsRow_nil _ _ _ _, trivial⟩, hB0, by omega⟩
    (fun x a' W => ∃ Bx, w.heap.size + 2 < Bx ∧ EBox W Bx x ∧ a' = { tmps := #[.slice A0 l0.length c0, .int .i64 a1, undef, undef, .slice none 0 0, .pointer (some ⟨w.heap.size, 0, none⟩), .pointer (some ⟨Bx, 0, none⟩), .slice A0 l0.length c0, .int .i64 a1, .func (.func 36) #[] #[.pointer (some ⟨w.heap.size + 1, 0, none⟩), .pointer (some ⟨w.heap.size + 1 + 1, 0, none⟩)], ev x.x x.A x.c, .int .i64 x.am, undef, undef, undef, undef, undef, undef, undef, undef, undef], defers := [] })
    (fun x a' _ X Y row hs hg hr => by obtain ⟨Bx, h1, h2, h3⟩ := hs; exact ⟨Bx, h1, h2.kept hg (fun r e => (hr r e).2), h3⟩)
    ?assign ?body ?done ?stop
  case assign =>
    rintro l pre x W K ⟨⟨v, bO1, hrow1, _⟩, hB1, hR1⟩ hK
    have hlt : w.heap.size + 2 < W.heap.size := by omega
    dsimp only [Mv.enc, ev]
    gi_wp2
    exact hK _ _ ((KeepsOthers.alloc _ _).from _) (MKp.alloc1 (by omega) (by omega) _) ⟨⟨v, bO1.alloc _, hrow1.alloc _, trivial⟩, hB1.alloc hB1.size _, by simp; omega⟩ ⟨W.heap.size, hlt, World.alloc_heap_new _ _, rfl⟩
  case body =>
    rintro l pre x a' W hl ⟨r, hr⟩ ⟨⟨v, bO1, hrow1, _⟩, hB1, hR1⟩ ⟨Bx, hBx, bX, rfl⟩ hlt
    have cO := bO1.cell
    have x2 : W.cell? ⟨Bx, 2, none⟩ = some (.int .i64 x.x.f2) := (blk_cell bX 2).trans rfl
    have hpl : (vals pre).length + 1 ≤ 4096 := by rw [movs_len] at hlt; simp only [vals, List.length_map]; omega
    gi_wp2_with (gi_at_builtin; refine wpListIn_append_own _ rfl _ _ 31 rfl (w.heap.size + 3) 3 i0 (.int .i64 0) 1 8 Try.underlying31 hi hz0 hz1 hz2 rfl (by decide) _ _ _ rfl (hrow1.alloc _) ⟨W.heap.size, 0, none⟩ 1 1 [.int .i64 x.x.f2] rfl rfl (cell_one_new _ _ _) (by simp [Value.oneCell']) (by unfold maxLen; omega) (by omega) (by simp; omega) ?_; intro v' w1 hown' hgrow _; obtain ⟨g', cap', rfl⟩ := ownsRow_succ hown'; obtain ⟨hv1, hv2, hr2, hk2, hb2⟩ := bO1.appended (by decide) (ownsRow_lower hrow1 (by omega)) hB1.size (Nat.le_refl _) (ownsRow_lower hown' (by omega)) hgrow; have hc1 := hv1.cell; have hf1 := hv1.frozen)
    have hrl := row_block (hrow1.alloc (.cells #[.int .i64 x.x.f2] 3))
    have hsz1 : W.heap.size + 1 ≤ w1.heap.size := by have := hgrow.size; rw [World.size_alloc] at this; exact this
    have hK1 : MKp w.heap.size (w.heap.size + 1 + 1) W w1 := (MKp.alloc1 (by omega) (by omega) _).trans (MKp.grown hgrow (by simp; omega) (by simp; omega) (fun k e => by have := hrl k e; exact ⟨by omega, by omega, this.2⟩))
    have hr3 := hown'.kept (grownBy_setCell' w1 w.heap.size (.slice (some ⟨g', 0, none⟩) ((vals pre).length + 1) cap')) (.inr (hv1.not_row (by decide) hown').symm)
    exact ⟨hk2.from _, hK1.trans (MKp.setCell31 hv1 (by decide) (Nat.le_refl _) (by omega) _), ⟨⟨_, hv2, by rw [vals_snoc]; simpa using hr3, trivial⟩, hB1.trans hb2, by simp; omega⟩⟩
  case done =>
    rintro D ys W hD rfl ⟨⟨v, bO1, hrow1, _⟩, hB1, hR1⟩ hK
    have cO := bO1.cell
    have hlv : (vals (movs R a1 l0 l0.length)).length ≤ 4096 := by rw [← movs_len R] at hlen; simp only [vals, List.length_map]; exact hlen
    obtain ⟨ys, hys⟩ : ∃ ys, vals (movs R a1 l0 l0.length) = ys := ⟨_, rfl⟩
    rw [hys] at hrow1 hlv
    have HYS := Aside0.mk hys
    have hbO2 := bO1.not_row (by decide) hrow1
    have hvD : some D ≠ v.ownBlock := fun e => by
      obtain ⟨_, cells, hc⟩ := row_block hrow1 D e.symm
      rw [hc] at hK; cases hK
    gi_wp2_with (first | (gi_at_call 33; refine (callsIn_wide.2 (sort_own W _ v ys hrow1 hlv)).mono ?_; rintro e W2 ⟨rfl, hr2, hg2⟩; have bO2 := bO1.kept hg2 hbO2; have cO2 := bO2.cell; have hK2 := (hg2.block D (Array.getElem?_eq_some_iff.1 hK).1 hvD).trans hK) | (gi_at_call 34; refine (callsIn_wide.2 (compact_own W2 _ v (sortI ys) hr2 (by rw [sortI_len]; exact hlv))).mono ?_; rintro e W3 ⟨v', rfl, hr3, hg3⟩; have hK3 := (hg3.block D (Array.getElem?_eq_some_iff.1 hK2).1 hvD).trans hK2))
    refine ⟨by simp, .inl ⟨_, _, rfl, run_takeDeferred hK3, ?_⟩⟩
    have hrb := row_block hrow1
    have hB2 : Below w.heap.size w W2 := hB1.grown hg2 hB1.size (fun k e => by have := (hrb k e).1; omega)
    have hB3 : Below w.heap.size w W3 := hB2.grown hg3 hB2.size (fun k e => by have := (hrb k e).1; omega)
    have hr4 := ownsRow_putObj hr3 (.deferred none) hK3 rfl
    exact ⟨_, results_tmp rfl _ _ _, v', rfl, by rw [← HYS.out, show vals (movs R a1 l0 l0.length) = (moves l0 a1).map (fun p => p.1.f2) by rw [← movs_moves R, List.map_map]; rfl] at hr4; exact Kd.R_of_own (ownsRow_lower hr4 (by omega)) (fun _ _ => trivial), hB3.trans (belowK_b (w := w) (Nat.le_refl _) W3 D _ _ (by omega) hK3 rfl rfl)⟩
  case stop =>
    rintro D c pre W _ _ h _
    exact h.elim

def balance_Moves.f (l0 : List S36) (a1 : Int) : Option (List Int) := if (okJ l0 && decide ((moves l0 a1).length ≤ 4096)) = true then some (Lib.compact (sortI ((moves l0 a1).map (fun p => p.1.f2)))) else none
theorem balance_Moves.calls (A0 : Option Addr) (c0 : Nat) (l0 : List (S36)) (a1 : Int) (r : List Int) (w : World) (hr0 : Kd.C k36 w A0 l0.length l0) (hc0 : l0.length ≤ c0) (h : balance_Moves.f l0 a1 = some r) :
    Calls Try.prog 20 #[.slice A0 l0.length c0, .int .i64 a1] w fun e w' => ∃ v0_ : Value, e = .returned (v0_) ∧ Kd.R (Kd.int .i64) 3 w' w.heap.size (fun _ => True) v0_ r ∧ Below w.heap.size w w' := by
  unfold balance_Moves.f at h
  split at h
  · rename_i hok
    cases h
    rw [Bool.and_eq_true, decide_eq_true_iff] at hok
    obtain ⟨R, hR⟩ := rows_of hr0
    exact (callsIn_wide (n := 3)).1 (Moves_in Fence.wide rfl 3 trivial trivial trivial trivial trivial rfl (by omega) A0 c0 l0 a1 R w hok.1 hok.2 hR)
  · cases h
end Go.Proofs.Ytnilmhhidmdlnaa.PA
