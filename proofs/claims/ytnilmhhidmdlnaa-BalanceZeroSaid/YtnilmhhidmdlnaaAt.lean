/- balance.At. -/
import Derived.Test.YtnilmhhidmdlnaaOf
namespace Go.Proofs.Ytnilmhhidmdlnaa.PA
open Go.RowKit Go.Shelf Go.Proofs.YtnilmhhidmdlnaaW.PrintWords Go.Proofs.YtnilmhhidmdlnaaW.PrintLast Go.Proofs.YtnilmhhidmdlnaaW.PrintMore
attribute [local go_sem] Oper.semAt_some
set_option linter.unusedVariables false
set_option linter.unusedSimpArgs false

/-- The cells of an entry. -/
def ecs (x : S36) (A : Option Addr) (c : Nat) : Array Value := #[.int .i64 x.f0, .int .i64 x.f1, .int .i64 x.f2, .int .i64 x.f3, .int .i64 x.f4, .int .i64 x.f5, .string x.f6, .string x.f7, .slice A x.f8.length c, .int .u64 x.f9]
/-- The loop variable of a round lies in its own block. -/
def EBox (W : World) (B : Nat) (m : Mv) : Prop := W.heap[B]? = some (.cells (ecs m.x m.A m.c) 36 (0, 0))
theorem EBox.kept {W W' : World} {B : Nat} {m : Mv} (h : EBox W B m) {row : Option Nat} (hg : W.grownBy W' row) (hr : ∀ r, row = some r → ∃ o : Obj, W.heap[r]? = some o ∧ o.isCells = false) : EBox W' B m := by
  refine (hg.block B (Array.getElem?_eq_some_iff.1 h).1 (fun e => ?_)).trans h
  obtain ⟨o, h1, h2⟩ := hr B e.symm
  rw [show W.heap[B]? = _ from h] at h1
  cases h1
  cases h2
theorem MKp.alloc1 {n₀ Ba : Nat} {W : World} (hn : n₀ ≤ W.heap.size) (hb : Ba < W.heap.size) (o : Obj) : MKp n₀ Ba W (W.alloc o) := (MKp.refl n₀ Ba W).alloc hn hb o

theorem ownFrom_size {β : Type} {B N : Nat} : OwnFrom (β := β) B (fun _ W => N ≤ W.heap.size) := fun _ _ _ _ hs hg _ => Nat.le_trans hs hg.size

def at1 (b v n : Int) (p : S36 × Int) : Int := if p.1.f1 ≤ b ∧ p.1.f2 ≤ v then wrap64 (n - p.2) else n
def balance_At.f (l0 : List S36) (a1 a2 a3 : Int) : Option Int := if okJ l0 = true then some ((moves l0 a1).foldl (at1 a2 a3) 0) else none
def atM (a2 a3 : Int) (pre : List Mv) : Int := (pre.map Mv.p).foldl (at1 a2 a3) 0
theorem atM_snoc (a2 a3 : Int) (pre : List Mv) (x : Mv) : atM a2 a3 (pre ++ [x]) = at1 a2 a3 (atM a2 a3 pre) (x.x, x.am) := by simp [atM, Mv.p]
theorem at1_yes {a2 a3 n m : Int} {x : S36} (h1 : x.f1 ≤ a2) (h2 : x.f2 ≤ a3) : at1 a2 a3 n (x, m) = wrap64 (n - m) := if_pos ⟨h1, h2⟩
theorem at1_no1 {a2 a3 n m : Int} {x : S36} (h1 : ¬ x.f1 ≤ a2) : at1 a2 a3 n (x, m) = n := if_neg (fun h => h1 h.1)
theorem at1_no2 {a2 a3 n m : Int} {x : S36} (h1 : ¬ x.f2 ≤ a3) : at1 a2 a3 n (x, m) = n := if_neg (fun h => h1 h.2)

set_option maxRecDepth 100000 in
set_option maxHeartbeats 4000000 in
theorem At_in (F : Fence) (n : Nat) (hf : F.fn 11) (hf2 : F.fn 25) (hf3 : F.fn 36) (hro : F.round = none) (hn : 3 ≤ n) (A0 : Option Addr) (c0 : Nat) (l0 : List S36) (a1 a2 a3 : Int) (R : Nat → Option Addr × Nat) (w : World) (hok : okJ l0 = true) (hrow : Rows w A0 l0 R) :
    CallsIn F n Try.prog 11 #[.slice A0 l0.length c0, .int .i64 a1, .int .i64 a2, .int .i64 a3] w fun e w' => e = .returned (.int .i64 ((moves l0 a1).foldl (at1 a2 a3) 0)) ∧ Below w.heap.size w w' := by
  have h1 : 1 ≤ n := by omega
  refine callsIn_of_wp_marks Try.func11 rfl hf ?_ hro
  simp only [Try.ntmps11, List.size_toArray, List.length_cons, List.length_nil, Nat.reduceAdd, Nat.reduceSub, Array.replicate_succ, Array.replicate_zero, List.push_toArray, List.append_toArray, List.nil_append, List.cons_append]
  gi_wp2_with (gi_at_call 25; refine (movements_in F (n - 1) hf2 hro _ _ _ _ _).mono ?_; rintro e w' ⟨rfl, rfl⟩)
  have bB := ((((Boxed.new w 3 (.int .i64 a2)).alloc (.cells #[.int .i64 a3] 3)).alloc (.cells #[.int .i64 0] 3)).alloc (.cells #[.slice A0 l0.length c0] 22)).alloc (.cells #[.int .i64 a1] 3)
  have bV := (((Boxed.new (w.alloc (.cells #[.int .i64 a2] 3)) 3 (.int .i64 a3)).alloc (.cells #[.int .i64 0] 3)).alloc (.cells #[.slice A0 l0.length c0] 22)).alloc (.cells #[.int .i64 a1] 3)
  have bN := ((Boxed.new ((w.alloc (.cells #[.int .i64 a2] 3)).alloc (.cells #[.int .i64 a3] 3)) 3 (.int .i64 0)).alloc (.cells #[.slice A0 l0.length c0] 22)).alloc (.cells #[.int .i64 a1] 3)
  have bJ := (Boxed.new (((w.alloc (.cells #[.int .i64 a2] 3)).alloc (.cells #[.int .i64 a3] 3)).alloc (.cells #[.int .i64 0] 3)) 22 (.slice A0 l0.length c0)).alloc (.cells #[.int .i64 a1] 3)
  have bA := Boxed.new ((((w.alloc (.cells #[.int .i64 a2] 3)).alloc (.cells #[.int .i64 a3] 3)).alloc (.cells #[.int .i64 0] 3)).alloc (.cells #[.slice A0 l0.length c0] 22)) 3 (.int .i64 a1)
  simp only [World.size_alloc] at bB bV bN bJ bA
  obtain ⟨W0, hW0⟩ : ∃ W0, ((((w.alloc (.cells #[.int .i64 a2] 3)).alloc (.cells #[.int .i64 a3] 3)).alloc (.cells #[.int .i64 0] 3)).alloc (.cells #[.slice A0 l0.length c0] 22)).alloc (.cells #[.int .i64 a1] 3) = W0 := ⟨_, rfl⟩
  have hsz : W0.heap.size = w.heap.size + 5 := by rw [← hW0]; simp
  have hB0 : Below w.heap.size w W0 := by rw [← hW0]; exact (((((Below.refl _ w).alloc (Nat.le_refl _) _).alloc (by simp) _).alloc (by simp; omega) _).alloc (by simp; omega) _).alloc (by simp; omega) _
  rw [hW0] at bB bV bN bJ bA ⊢
  clear hW0
  refine wpIn_rangeFunc_ownH hro h1 (gf := 36) (lb := #[.pointer (some ⟨w.heap.size + 1 + 1 + 1, 0, none⟩), .pointer (some ⟨w.heap.size + 1 + 1 + 1 + 1, 0, none⟩)]) rfl hf3 (enters_of Try.func36 (by kernel_rfl) rfl)
    (mov_stops F (n - 1) hf3 hro (by omega) (w.heap.size + 1 + 1 + 1) (w.heap.size + 1 + 1 + 1 + 1) A0 c0 l0 a1 R w (okJ_len hok) (okJ_legs hok) hrow W0 hB0 bJ.cell bA.cell) MKp.trans (MKp.putObj (by omega) (by omega)) (Below.refl _ _) (fun _ => rfl)
    (fun pre W => ((Boxed W (w.heap.size + 1 + 1) 3 (.int .i64 (atM a2 a3 pre)) ∧ Boxed W w.heap.size 3 (.int .i64 a2)) ∧ Boxed W (w.heap.size + 1) 3 (.int .i64 a3)) ∧ Below w.heap.size w W ∧ w.heap.size + 5 ≤ W.heap.size)
    (fun _ _ _ => False)
    (OwnFrom.and (OwnFrom.and (OwnFrom.and (Own.from (boxed_own _ _ _) _) (Own.from (boxed_own _ _ _) _)) (Own.from (boxed_own _ _ _) _)) (OwnFrom.and (ownFrom_below (Nat.le_refl _) (by omega)) ownFrom_size))
    (fun _ _ _ _ _ hs _ _ => hs)
    ⟨⟨⟨bN, bB⟩, bV⟩, hB0, by omega⟩
    (fun x a' W => ∃ Bx, w.heap.size + 4 < Bx ∧ EBox W Bx x ∧ a' = { tmps := #[.slice A0 l0.length c0, .int .i64 a1, .int .i64 a2, .int .i64 a3, undef, undef, .pointer (some ⟨w.heap.size, 0, none⟩), .pointer (some ⟨w.heap.size + 1, 0, none⟩), .int .i64 0, .pointer (some ⟨w.heap.size + 1 + 1, 0, none⟩), .pointer (some ⟨Bx, 0, none⟩), .int .i64 x.am, .slice A0 l0.length c0, .int .i64 a1, .func (.func 36) #[] #[.pointer (some ⟨w.heap.size + 1 + 1 + 1, 0, none⟩), .pointer (some ⟨w.heap.size + 1 + 1 + 1 + 1, 0, none⟩)], ev x.x x.A x.c, .int .i64 x.am, undef, undef, undef, undef, undef, undef, undef, undef, undef, undef, undef, undef, undef, undef], defers := [] })
    (fun x a' _ X Y row hs hg hr => by obtain ⟨Bx, h1, h2, h3⟩ := hs; exact ⟨Bx, h1, h2.kept hg (fun r e => (hr r e).2), h3⟩)
    ?assign ?body ?done ?stop
  case assign =>
    rintro l pre x W K ⟨⟨⟨bN1, bB1⟩, bV1⟩, hB1, hR1⟩ hK
    have hlt : w.heap.size + 4 < W.heap.size := by omega
    dsimp only [Mv.enc, ev]
    gi_wp2
    exact hK _ _ ((KeepsOthers.alloc _ _).from _) (MKp.alloc1 (by omega) (by omega) _) ⟨⟨⟨bN1.alloc _, bB1.alloc _⟩, bV1.alloc _⟩, hB1.alloc hB1.size _, by simp; omega⟩ ⟨W.heap.size, hlt, World.alloc_heap_new _ _, rfl⟩
  case body =>
    rintro l pre x a' W hl ⟨r, hr⟩ ⟨⟨⟨bN1, bB1⟩, bV1⟩, hB1, hR1⟩ ⟨Bx, hBx, bX, rfl⟩ _
    have cN := bN1.cell
    have fN := bN1.frozen
    have cB := bB1.cell
    have cV := bV1.cell
    have x1 : W.cell? ⟨Bx, 1, none⟩ = some (.int .i64 x.x.f1) := (blk_cell bX 1).trans rfl
    have x2 : W.cell? ⟨Bx, 2, none⟩ = some (.int .i64 x.x.f2) := (blk_cell bX 2).trans rfl
    by_cases g1 : x.x.f1 ≤ a2
    · have G1 := Aside0.mk g1
      have d1 : decide (x.x.f1 ≤ a2) = true := decide_eq_true g1
      clear g1
      by_cases g2 : x.x.f2 ≤ a3
      · have G2 := Aside0.mk g2
        have d2 : decide (x.x.f2 ≤ a3) = true := decide_eq_true g2
        clear g2
        gi_wp2
        exact ⟨(KeepsOthers.setCell _ _ _).from _, MKp.setCell bN1 (by omega) (by omega) _, ⟨⟨⟨by rw [atM_snoc, at1_yes G1.out G2.out]; exact bN1.set _, bB1.other (by omega) _⟩, bV1.other (by omega) _⟩, hB1.setCell (p := ⟨w.heap.size + 1 + 1, 0, none⟩) (by simp; omega) _, by simp; omega⟩⟩
      · have G2 := Aside0.mk g2
        have d2 : decide (x.x.f2 ≤ a3) = false := decide_eq_false g2
        clear g2
        gi_wp2
        exact ⟨KeepsFrom.refl _ _, MKp.refl _ _ _, ⟨⟨⟨by rw [atM_snoc, at1_no2 (Int.not_le.2 G2.out)]; exact bN1, bB1⟩, bV1⟩, hB1, hR1⟩⟩
    · have G1 := Aside0.mk g1
      have d1 : decide (x.x.f1 ≤ a2) = false := decide_eq_false g1
      clear g1
      gi_wp2
      exact ⟨KeepsFrom.refl _ _, MKp.refl _ _ _, ⟨⟨⟨by rw [atM_snoc, at1_no1 (Int.not_le.2 G1.out)]; exact bN1, bB1⟩, bV1⟩, hB1, hR1⟩⟩
  case done =>
    rintro D ys W hD rfl ⟨⟨⟨bN1, bB1⟩, bV1⟩, hB1, hR1⟩ hK
    have cN := bN1.cell
    gi_wp2
    refine ⟨by simp, .inl ⟨_, _, rfl, run_takeDeferred hK, ?_⟩⟩
    exact ⟨_, results_tmp rfl _ _ _, by rw [atM, movs_moves]; rfl, hB1.trans (belowK_b (w := w) (Nat.le_refl _) W D _ _ (by omega) hK rfl rfl)⟩
  case stop =>
    rintro D c pre W _ _ h _
    exact h.elim

theorem balance_At.calls (A0 : Option Addr) (c0 : Nat) (l0 : List (S36)) (a1 : Int) (a2 : Int) (a3 : Int) (r : Int) (w : World) (hr0 : Kd.C k36 w A0 l0.length l0) (hc0 : l0.length ≤ c0) (h : balance_At.f l0 a1 a2 a3 = some r) :
    Calls Try.prog 11 #[.slice A0 l0.length c0, .int .i64 a1, .int .i64 a2, .int .i64 a3] w fun e w' => e = .returned (.int .i64 r) ∧ Below w.heap.size w w' := by
  unfold balance_At.f at h
  split at h
  · rename_i hok
    cases h
    obtain ⟨R, hR⟩ := rows_of hr0
    exact (callsIn_wide (n := 3)).1 (At_in Fence.wide 3 trivial trivial trivial rfl (by omega) A0 c0 l0 a1 a2 a3 R w hok hR)
  · cases h
end Go.Proofs.Ytnilmhhidmdlnaa.PA
