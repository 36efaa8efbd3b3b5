/- balance.Of. -/
import Derived.Test.YtnilmhhidmdlnaaMov
namespace Go.Proofs.Ytnilmhhidmdlnaa.PA
open Go.RowKit Go.Shelf Go.Proofs.YtnilmhhidmdlnaaW.PrintWords Go.Proofs.YtnilmhhidmdlnaaW.PrintLast Go.Proofs.YtnilmhhidmdlnaaW.PrintMore
attribute [local go_sem] Oper.semAt_some
set_option linter.unusedVariables false
set_option linter.unusedSimpArgs false

/-- The lists that the contracts speak of. -/
def okJ (l : List S36) : Bool := decide (l.length ≤ 1000000) && l.all (fun x => decide (x.f8.length ≤ 1000000))
/-- The movements of an account: the entry and the amount. -/
def moves (l : List S36) (a : Int) : List (S36 × Int) := l.flatMap fun x => x.f8.flatMap fun y => if y.f0 = a then [(x, y.f1)] else []
def Mv.p (m : Mv) : S36 × Int := (m.x, m.am)
theorem okJ_len {l : List S36} (h : okJ l = true) : l.length ≤ 1000000 := by
  unfold okJ at h
  rw [Bool.and_eq_true, decide_eq_true_iff] at h
  exact h.1
theorem okJ_legs {l : List S36} (h : okJ l = true) (x : Int) : (rd_T36 l x).f8.length ≤ 1000000 := by
  unfold okJ at h
  rw [Bool.and_eq_true, List.all_eq_true] at h
  unfold rd_T36
  rw [List.getD_eq_getElem?_getD]
  by_cases hx : x.toNat < l.length
  · rw [List.getElem?_eq_getElem hx]
    exact of_decide_eq_true (h.2 _ (List.getElem_mem hx))
  · rw [List.getElem?_eq_none (by omega)]
    simp [z36]
theorem rd_range (l : List S36) : (List.range l.length).map (fun (i : Nat) => rd_T36 l (i : Int)) = l := by
  apply List.ext_getElem
  · simp
  · intro i h1 h2
    simp [rd_T36, h2]
theorem movs_moves (R : Nat → Option Addr × Nat) (a : Int) (l : List S36) : (movs R a l l.length).map Mv.p = moves l a := by
  have e : moves l a = ((List.range l.length).map (fun (i : Nat) => rd_T36 l (i : Int))).flatMap fun x => x.f8.flatMap fun y => if y.f0 = a then [(x, y.f1)] else [] := by rw [rd_range]; rfl
  rw [e, movs, List.map_flatMap, List.flatMap_map]
  congr 1
  funext i
  rw [mvs, List.map_flatMap]
  congr 1
  funext y
  split <;> rfl
theorem movs_len (R : Nat → Option Addr × Nat) (a : Int) (l : List S36) : (movs R a l l.length).length = (moves l a).length := by rw [← movs_moves R a l, List.length_map]

def sub1 (n : Int) (p : S36 × Int) : Int := wrap64 (n - p.2)
def balance_Of.f (l0 : List S36) (a1 : Int) : Option Int := if okJ l0 = true then some ((moves l0 a1).foldl sub1 0) else none

def ofM (pre : List Mv) : Int := (pre.map Mv.p).foldl sub1 0
theorem ofM_snoc (pre : List Mv) (x : Mv) : ofM (pre ++ [x]) = wrap64 (ofM pre - x.am) := by simp [ofM, sub1, Mv.p]

/-- A store into a box of the caller's own. -/
theorem MKp.setCell {n₀ Ba b : Nat} {W : World} {u : Value} (hb : Boxed W b 3 u) (hn : n₀ ≤ b) (hne : Ba ≠ b) (v : Value) : MKp n₀ Ba W (W.setCell ⟨b, 0, none⟩ v) :=
  ⟨(Below.refl n₀ W).setCell (p := ⟨b, 0, none⟩) hn v, Below.heap_setCell W ⟨b, 0, none⟩ v Ba hne, fun k cs z hk => by
    rw [Below.heap_setCell W ⟨b, 0, none⟩ v k (fun e => by
      have hb' : W.heap[b]? = _ := hb
      have e' : k = b := e
      rw [e', hb'] at hk; cases hk)]
    exact hk⟩

set_option maxRecDepth 100000 in
set_option maxHeartbeats 4000000 in
theorem Of_in (F : Fence) (n : Nat) (hf : F.fn 10) (hf2 : F.fn 25) (hf3 : F.fn 36) (hro : F.round = none) (hn : 3 ≤ n) (A0 : Option Addr) (c0 : Nat) (l0 : List S36) (a1 : Int) (R : Nat → Option Addr × Nat) (w : World) (hok : okJ l0 = true) (hrow : Rows w A0 l0 R) :
    CallsIn F n Try.prog 10 #[.slice A0 l0.length c0, .int .i64 a1] w fun e w' => e = .returned (.int .i64 ((moves l0 a1).foldl sub1 0)) ∧ Below w.heap.size w w' := by
  have h1 : 1 ≤ n := by omega
  refine callsIn_of_wp_marks Try.func10 rfl hf ?_ hro
  simp only [Try.ntmps10, List.size_toArray, List.length_cons, List.length_nil, Nat.reduceAdd, Nat.reduceSub, Array.replicate_succ, Array.replicate_zero, List.push_toArray, List.append_toArray, List.nil_append, List.cons_append]
  gi_wp2_with (gi_at_call 25; refine (movements_in F (n - 1) hf2 hro _ _ _ _ _).mono ?_; rintro e w' ⟨rfl, rfl⟩)
  have bN := ((Boxed.new w 3 (.int .i64 0)).alloc (.cells #[.slice A0 l0.length c0] 22)).alloc (.cells #[.int .i64 a1] 3)
  have bJ := (Boxed.new (w.alloc (.cells #[.int .i64 0] 3)) 22 (.slice A0 l0.length c0)).alloc (.cells #[.int .i64 a1] 3)
  have bA := Boxed.new ((w.alloc (.cells #[.int .i64 0] 3)).alloc (.cells #[.slice A0 l0.length c0] 22)) 3 (.int .i64 a1)
  simp only [World.size_alloc] at bJ bA
  have hB0 : Below w.heap.size w (((w.alloc (.cells #[.int .i64 0] 3)).alloc (.cells #[.slice A0 l0.length c0] 22)).alloc (.cells #[.int .i64 a1] 3)) := (((Below.refl _ w).alloc (Nat.le_refl _) _).alloc (by simp) _).alloc (by simp; omega) _
  have hsz : (((w.alloc (.cells #[.int .i64 0] 3)).alloc (.cells #[.slice A0 l0.length c0] 22)).alloc (.cells #[.int .i64 a1] 3)).heap.size = w.heap.size + 3 := by simp
  obtain ⟨W0, hW0⟩ : ∃ W0, ((w.alloc (.cells #[.int .i64 0] 3)).alloc (.cells #[.slice A0 l0.length c0] 22)).alloc (.cells #[.int .i64 a1] 3) = W0 := ⟨_, rfl⟩
  rw [hW0] at bN bJ bA hB0 hsz ⊢
  clear hW0
  refine wpIn_rangeFunc_ownF hro h1 (gf := 36) (lb := #[.pointer (some ⟨w.heap.size + 1, 0, none⟩), .pointer (some ⟨w.heap.size + 1 + 1, 0, none⟩)]) rfl hf3 (enters_of Try.func36 (by kernel_rfl) rfl)
    (mov_stops F (n - 1) hf3 hro (by omega) (w.heap.size + 1) (w.heap.size + 1 + 1) A0 c0 l0 a1 R w (okJ_len hok) (okJ_legs hok) hrow W0 hB0 bJ.cell bA.cell) MKp.trans (MKp.putObj (by omega) (by omega)) (Below.refl _ _) (fun _ => rfl)
    (fun pre W => Boxed W w.heap.size 3 (.int .i64 (ofM pre)) ∧ Below w.heap.size w W)
    (fun _ _ _ => False)
    (OwnFrom.and (Own.from (boxed_own _ _ _) _) (ownFrom_below (Nat.le_refl _) (by omega)))
    (fun _ _ _ _ _ hs _ _ => hs)
    ⟨bN, hB0⟩
    (fun x => { tmps := #[.slice A0 l0.length c0, .int .i64 a1, undef, undef, .int .i64 0, .pointer (some ⟨w.heap.size, 0, none⟩), undef, .int .i64 x.am, .slice A0 l0.length c0, .int .i64 a1, .func (.func 36) #[] #[.pointer (some ⟨w.heap.size + 1, 0, none⟩), .pointer (some ⟨w.heap.size + 1 + 1, 0, none⟩)], ev x.x x.A x.c, .int .i64 x.am, undef, undef, undef, undef], defers := [] }) ?assign ?body ?done ?stop
  case assign =>
    intro l x W K hK
    dsimp only [Mv.enc]
    gi_wp2
    exact hK
  case body =>
    rintro l pre x W ⟨bN1, hB1⟩ _
    have cN := bN1.cell
    have fN := bN1.frozen
    gi_wp2
    exact ⟨KeepsOthers.setCell _ _ _, MKp.setCell bN1 (Nat.le_refl _) (by omega) _, by rw [ofM_snoc]; exact bN1.set _, hB1.setCell (p := ⟨w.heap.size, 0, none⟩) (Nat.le_refl _) _⟩
  case done =>
    rintro D ys W hD rfl ⟨bN1, hB1⟩ hK
    have cN := bN1.cell
    gi_wp2
    refine ⟨by simp, .inl ⟨_, _, rfl, run_takeDeferred hK, ?_⟩⟩
    exact ⟨_, results_tmp rfl _ _ _, by rw [ofM, movs_moves]; rfl, hB1.trans (belowK_b (w := w) (Nat.le_refl _) W D _ _ (by omega) hK rfl rfl)⟩
  case stop =>
    rintro D c pre W _ _ h _
    exact h.elim

theorem balance_Of.calls (A0 : Option Addr) (c0 : Nat) (l0 : List (S36)) (a1 : Int) (r : Int) (w : World) (hr0 : Kd.C k36 w A0 l0.length l0) (hc0 : l0.length ≤ c0) (h : balance_Of.f l0 a1 = some r) :
    Calls Try.prog 10 #[.slice A0 l0.length c0, .int .i64 a1] w fun e w' => e = .returned (.int .i64 r) ∧ Below w.heap.size w w' := by
  unfold balance_Of.f at h
  split at h
  · rename_i hok
    cases h
    obtain ⟨R, hR⟩ := rows_of hr0
    exact (callsIn_wide (n := 3)).1 (Of_in Fence.wide 3 trivial trivial trivial rfl (by omega) A0 c0 l0 a1 R w hok hR)
  · cases h
end Go.Proofs.Ytnilmhhidmdlnaa.PA
