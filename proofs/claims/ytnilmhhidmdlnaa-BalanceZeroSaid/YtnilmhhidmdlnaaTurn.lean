/- balance.Turnover. -/
import Derived.Test.YtnilmhhidmdlnaaAt
namespace Go.Proofs.Ytnilmhhidmdlnaa.PA
open Go.RowKit Go.Shelf Go.Proofs.YtnilmhhidmdlnaaW.PrintWords Go.Proofs.YtnilmhhidmdlnaaW.PrintLast Go.Proofs.YtnilmhhidmdlnaaW.PrintMore
attribute [local go_sem] Oper.semAt_some
set_option linter.unusedVariables false
set_option linter.unusedSimpArgs false

def tu1 (b v : Int) (n : Int × Int) (p : S36 × Int) : Int × Int := if p.1.f1 < b ∨ p.1.f1 > v then n else if p.2 > 0 then (wrap64 (n.1 + p.2), n.2) else (n.1, wrap64 (n.2 - p.2))
def balance_Turnover.f (l0 : List S36) (a1 a2 a3 : Int) : Option (Int × Int) := if okJ l0 = true then some ((moves l0 a1).foldl (tu1 a2 a3) (0, 0)) else none
def tuM (a2 a3 : Int) (pre : List Mv) : Int × Int := (pre.map Mv.p).foldl (tu1 a2 a3) (0, 0)
theorem tuM_snoc (a2 a3 : Int) (pre : List Mv) (x : Mv) : tuM a2 a3 (pre ++ [x]) = tu1 a2 a3 (tuM a2 a3 pre) (x.x, x.am) := by simp [tuM, Mv.p]
theorem tu1_lt {a2 a3 m : Int} {n : Int × Int} {x : S36} (h1 : x.f1 < a2) : tu1 a2 a3 n (x, m) = n := if_pos (.inl h1)
theorem tu1_gt {a2 a3 m : Int} {n : Int × Int} {x : S36} (h1 : x.f1 > a3) : tu1 a2 a3 n (x, m) = n := if_pos (.inr h1)
theorem tu1_pos {a2 a3 m : Int} {n : Int × Int} {x : S36} (h1 : ¬ x.f1 < a2) (h2 : ¬ x.f1 > a3) (h3 : m > 0) : tu1 a2 a3 n (x, m) = (wrap64 (n.1 + m), n.2) := by
  unfold tu1; rw [if_neg (by rintro (h | h); exact h1 h; exact h2 h), if_pos h3]
theorem tu1_neg {a2 a3 m : Int} {n : Int × Int} {x : S36} (h1 : ¬ x.f1 < a2) (h2 : ¬ x.f1 > a3) (h3 : ¬ m > 0) : tu1 a2 a3 n (x, m) = (n.1, wrap64 (n.2 - m)) := by
  unfold tu1; rw [if_neg (by rintro (h | h); exact h1 h; exact h2 h), if_neg h3]

set_option maxRecDepth 100000 in
set_option maxHeartbeats 4000000 in
theorem Turnover_in (F : Fence) (hF : F = Fence.wide) (n : Nat) (hf : F.fn 12) (hf2 : F.fn 25) (hf3 : F.fn 36) (hro : F.round = none) (hn : 3 ≤ n) (A0 : Option Addr) (c0 : Nat) (l0 : List S36) (a1 a2 a3 : Int) (R : Nat → Option Addr × Nat) (w : World) (hok : okJ l0 = true) (hrow : Rows w A0 l0 R) :
    CallsIn F n Try.prog 12 #[.slice A0 l0.length c0, .int .i64 a1, .int .i64 a2, .int .i64 a3] w fun e w' => e = .returned (.tuple #[.int .i64 ((moves l0 a1).foldl (tu1 a2 a3) (0, 0)).1, .int .i64 ((moves l0 a1).foldl (tu1 a2 a3) (0, 0)).2]) ∧ Below w.heap.size w w' := by
  subst hF
  have h1 : 1 ≤ n := by omega
  refine callsIn_of_wp_marks Try.func12 rfl hf ?_ hro
  simp only [Try.ntmps12, List.size_toArray, List.length_cons, List.length_nil, Nat.reduceAdd, Nat.reduceSub, Array.replicate_succ, Array.replicate_zero, List.push_toArray, List.append_toArray, List.nil_append, List.cons_append]
  gi_wp2_with (gi_at_call 25; refine (movements_in Fence.wide (n - 1) hf2 hro _ _ _ _ _).mono ?_; rintro e w' ⟨rfl, rfl⟩)
  have bB := (((((Boxed.new w 3 (.int .i64 a2)).alloc (.cells #[.int .i64 a3] 3)).alloc (.cells #[.int .i64 0] 3)).alloc (.cells #[.int .i64 0] 3)).alloc (.cells #[.slice A0 l0.length c0] 22)).alloc (.cells #[.int .i64 a1] 3)
  have bV := ((((Boxed.new (w.alloc (.cells #[.int .i64 a2] 3)) 3 (.int .i64 a3)).alloc (.cells #[.int .i64 0] 3)).alloc (.cells #[.int .i64 0] 3)).alloc (.cells #[.slice A0 l0.length c0] 22)).alloc (.cells #[.int .i64 a1] 3)
  have bD := (((Boxed.new ((w.alloc (.cells #[.int .i64 a2] 3)).alloc (.cells #[.int .i64 a3] 3)) 3 (.int .i64 0)).alloc (.cells #[.int .i64 0] 3)).alloc (.cells #[.slice A0 l0.length c0] 22)).alloc (.cells #[.int .i64 a1] 3)
  have bC := ((Boxed.new (((w.alloc (.cells #[.int .i64 a2] 3)).alloc (.cells #[.int .i64 a3] 3)).alloc (.cells #[.int .i64 0] 3)) 3 (.int .i64 0)).alloc (.cells #[.slice A0 l0.length c0] 22)).alloc (.cells #[.int .i64 a1] 3)
  have bJ := (Boxed.new ((((w.alloc (.cells #[.int .i64 a2] 3)).alloc (.cells #[.int .i64 a3] 3)).alloc (.cells #[.int .i64 0] 3)).alloc (.cells #[.int .i64 0] 3)) 22 (.slice A0 l0.length c0)).alloc (.cells #[.int .i64 a1] 3)
  have bA := Boxed.new (((((w.alloc (.cells #[.int .i64 a2] 3)).alloc (.cells #[.int .i64 a3] 3)).alloc (.cells #[.int .i64 0] 3)).alloc (.cells #[.int .i64 0] 3)).alloc (.cells #[.slice A0 l0.length c0] 22)) 3 (.int .i64 a1)
  simp only [World.size_alloc] at bB bV bD bC bJ bA
  obtain ⟨W0, hW0⟩ : ∃ W0, ((((((w.alloc (.cells #[.int .i64 a2] 3)).alloc (.cells #[.int .i64 a3] 3)).alloc (.cells #[.int .i64 0] 3)).alloc (.cells #[.int .i64 0] 3)).alloc (.cells #[.slice A0 l0.length c0] 22)).alloc (.cells #[.int .i64 a1] 3)) = W0 := ⟨_, rfl⟩
  have hsz : W0.heap.size = w.heap.size + 6 := by rw [← hW0]; simp
  have hB0 : Below w.heap.size w W0 := by rw [← hW0]; exact ((((((Below.refl _ w).alloc (Nat.le_refl _) _).alloc (by simp) _).alloc (by simp; omega) _).alloc (by simp; omega) _).alloc (by simp; omega) _).alloc (by simp; omega) _
  rw [hW0] at bB bV bD bC bJ bA ⊢
  clear hW0
  refine wpIn_rangeFunc_ownH hro h1 (gf := 36) (lb := #[.pointer (some ⟨w.heap.size + 1 + 1 + 1 + 1, 0, none⟩), .pointer (some ⟨w.heap.size + 1 + 1 + 1 + 1 + 1, 0, none⟩)]) rfl hf3 (enters_of Try.func36 (by kernel_rfl) rfl)
    (mov_stops Fence.wide (n - 1) hf3 hro (by omega) (w.heap.size + 1 + 1 + 1 + 1) (w.heap.size + 1 + 1 + 1 + 1 + 1) A0 c0 l0 a1 R w (okJ_len hok) (okJ_legs hok) hrow W0 hB0 bJ.cell bA.cell) MKp.trans (MKp.putObj (by omega) (by omega)) (Below.refl _ _) (fun _ => rfl)
    (fun pre W => ((((Boxed W (w.heap.size + 1 + 1) 3 (.int .i64 (tuM a2 a3 pre).1) ∧ Boxed W (w.heap.size + 1 + 1 + 1) 3 (.int .i64 (tuM a2 a3 pre).2)) ∧ Boxed W w.heap.size 3 (.int .i64 a2)) ∧ Boxed W (w.heap.size + 1) 3 (.int .i64 a3)) ∧ Below w.heap.size w W ∧ w.heap.size + 6 ≤ W.heap.size))
    (fun _ _ _ => False)
    (OwnFrom.and (OwnFrom.and (OwnFrom.and (OwnFrom.and (Own.from (boxed_own _ _ _) _) (Own.from (boxed_own _ _ _) _)) (Own.from (boxed_own _ _ _) _)) (Own.from (boxed_own _ _ _) _)) (OwnFrom.and (ownFrom_below (Nat.le_refl _) (by omega)) ownFrom_size))
    (fun _ _ _ _ _ hs _ _ => hs)
    ⟨⟨⟨⟨bD, bC⟩, bB⟩, bV⟩, hB0, by omega⟩
    (fun x a' W => ∃ Bx, w.heap.size + 5 < Bx ∧ EBox W Bx x ∧ a' = { tmps := #[.slice A0 l0.length c0, .int .i64 a1, .int .i64 a2, .int .i64 a3, undef, undef, .pointer (some ⟨w.heap.size, 0, none⟩), .pointer (some ⟨w.heap.size + 1, 0, none⟩), .int .i64 0, .int .i64 0, .pointer (some ⟨w.heap.size + 1 + 1, 0, none⟩), .pointer (some ⟨w.heap.size + 1 + 1 + 1, 0, none⟩), .pointer (some ⟨Bx, 0, none⟩), .int .i64 x.am, .slice A0 l0.length c0, .int .i64 a1, .func (.func 36) #[] #[.pointer (some ⟨w.heap.size + 1 + 1 + 1 + 1, 0, none⟩), .pointer (some ⟨w.heap.size + 1 + 1 + 1 + 1 + 1, 0, none⟩)], ev x.x x.A x.c, .int .i64 x.am, undef, undef, undef, undef, undef, undef, undef, undef, undef, undef, undef, undef, undef, undef, undef, undef, undef, undef, undef, undef, undef, undef], defers := [] })
    (fun x a' _ X Y row hs hg hr => by obtain ⟨Bx, h1, h2, h3⟩ := hs; exact ⟨Bx, h1, h2.kept hg (fun r e => (hr r e).2), h3⟩)
    ?assign ?body ?done ?stop
  case assign =>
    rintro l pre x W K ⟨⟨⟨⟨bD1, bC1⟩, bB1⟩, bV1⟩, hB1, hR1⟩ hK
    have hlt : w.heap.size + 5 < W.heap.size := by omega
    dsimp only [Mv.enc, ev]
    gi_wp2
    exact hK _ _ ((KeepsOthers.alloc _ _).from _) (MKp.alloc1 (by omega) (by omega) _) ⟨⟨⟨⟨bD1.alloc _, bC1.alloc _⟩, bB1.alloc _⟩, bV1.alloc _⟩, hB1.alloc hB1.size _, by simp; omega⟩ ⟨W.heap.size, hlt, World.alloc_heap_new _ _, rfl⟩
  case body =>
    rintro l pre x a' W hl ⟨r, hr⟩ ⟨⟨⟨⟨bD1, bC1⟩, bB1⟩, bV1⟩, hB1, hR1⟩ ⟨Bx, hBx, bX, rfl⟩ _
    have cD := bD1.cell
    have fD := bD1.frozen
    have cC := bC1.cell
    have fC := bC1.frozen
    have cB := bB1.cell
    have cV := bV1.cell
    have x1 : W.cell? ⟨Bx, 1, none⟩ = some (.int .i64 x.x.f1) := (blk_cell bX 1).trans rfl
    by_cases g1 : x.x.f1 < a2
    · have G1 := Aside0.mk g1
      have d1 : decide (x.x.f1 < a2) = true := decide_eq_true g1
      clear g1
      gi_wp2
      exact ⟨KeepsFrom.refl _ _, MKp.refl _ _ _, ⟨⟨⟨⟨by rw [tuM_snoc, tu1_lt G1.out]; exact bD1, by rw [tuM_snoc, tu1_lt G1.out]; exact bC1⟩, bB1⟩, bV1⟩, hB1, hR1⟩⟩
    · have G1 := Aside0.mk (show x.x.f1 < a2 → False from g1)
      have d1 : decide (x.x.f1 < a2) = false := decide_eq_false g1
      clear g1
      by_cases g2 : x.x.f1 > a3
      · have G2 := Aside0.mk g2
        have d2 : decide (x.x.f1 > a3) = true := decide_eq_true g2
        clear g2
        gi_wp2
        exact ⟨KeepsFrom.refl _ _, MKp.refl _ _ _, ⟨⟨⟨⟨by rw [tuM_snoc, tu1_gt G2.out]; exact bD1, by rw [tuM_snoc, tu1_gt G2.out]; exact bC1⟩, bB1⟩, bV1⟩, hB1, hR1⟩⟩
      · have G2 := Aside0.mk (show x.x.f1 > a3 → False from g2)
        have d2 : decide (x.x.f1 > a3) = false := decide_eq_false g2
        clear g2
        by_cases g3 : x.am > 0
        · have G3 := Aside0.mk g3
          have d3 : decide (x.am > 0) = true := decide_eq_true g3
          clear g3
          gi_wp2
          exact ⟨(KeepsOthers.setCell _ _ _).from _, MKp.setCell bD1 (by omega) (by omega) _, ⟨⟨⟨⟨by rw [tuM_snoc, tu1_pos (x := x.x) G1.out G2.out G3.out]; exact bD1.set _, by rw [tuM_snoc, tu1_pos (x := x.x) G1.out G2.out G3.out]; exact bC1.other (by omega) _⟩, bB1.other (by omega) _⟩, bV1.other (by omega) _⟩, hB1.setCell (p := ⟨w.heap.size + 1 + 1, 0, none⟩) (by simp; omega) _, by simp; omega⟩⟩
        · have G3 := Aside0.mk (show x.am > 0 → False from g3)
          have d3 : decide (x.am > 0) = false := decide_eq_false g3
          clear g3
          gi_wp2
          exact ⟨(KeepsOthers.setCell _ _ _).from _, MKp.setCell bC1 (by omega) (by omega) _, ⟨⟨⟨⟨by rw [tuM_snoc, tu1_neg (x := x.x) G1.out G2.out G3.out]; exact bD1.other (by omega) _, by rw [tuM_snoc, tu1_neg (x := x.x) G1.out G2.out G3.out]; exact bC1.set _⟩, bB1.other (by omega) _⟩, bV1.other (by omega) _⟩, hB1.setCell (p := ⟨w.heap.size + 1 + 1 + 1, 0, none⟩) (by simp; omega) _, by simp; omega⟩⟩
  case done =>
    rintro D ys W hD rfl ⟨⟨⟨⟨bD1, bC1⟩, bB1⟩, bV1⟩, hB1, hR1⟩ hK
    have cD := bD1.cell
    have cC := bC1.cell
    gi_wp2
    gi_quiet (fail)
    have hK2 := blk_drewN hK nq
    gi_wp2
    refine ⟨by simp, .inl ⟨_, _, rfl, run_takeDeferred hK2, ?_⟩⟩
    have hb2 : Below w.heap.size w ((W.drewN nq).putObj D (.deferred none)) := (pw_below_drewN hB1 nq).trans (belowK_b (w := w) (Nat.le_refl _) (W.drewN nq) D _ _ (by omega) hK2 rfl rfl)
    have hv : tuM a2 a3 (movs R a1 l0 l0.length) = (moves l0 a1).foldl (tu1 a2 a3) (0, 0) := by rw [tuM, movs_moves]
    rw [← hv]
    exact ⟨.tuple #[.int .i64 (tuM a2 a3 (movs R a1 l0 l0.length)).1, .int .i64 (tuM a2 a3 (movs R a1 l0 l0.length)).2], by simp [results, Try.f12, go_sem], rfl, hb2⟩
  case stop =>
    rintro D c pre W _ _ h _
    exact h.elim

theorem balance_Turnover.calls (A0 : Option Addr) (c0 : Nat) (l0 : List (S36)) (a1 : Int) (a2 : Int) (a3 : Int) (r1 : Int) (r2 : Int) (w : World) (hr0 : Kd.C k36 w A0 l0.length l0) (hc0 : l0.length ≤ c0) (h : balance_Turnover.f l0 a1 a2 a3 = some (r1, r2)) :
    Calls Try.prog 12 #[.slice A0 l0.length c0, .int .i64 a1, .int .i64 a2, .int .i64 a3] w fun e w' => e = .returned (.tuple #[.int .i64 r1, .int .i64 r2]) ∧ Below w.heap.size w w' := by
  unfold balance_Turnover.f at h
  split at h
  · rename_i hok
    have h2 := Option.some.inj h
    obtain ⟨R, hR⟩ := rows_of hr0
    have := (callsIn_wide (n := 3)).1 (Turnover_in Fence.wide rfl 3 trivial trivial trivial rfl (by omega) A0 c0 l0 a1 a2 a3 R w hok hR)
    rw [h2] at this
    exact this
  · cases h
end Go.Proofs.Ytnilmhhidmdlnaa.PA
