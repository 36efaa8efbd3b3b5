/- Contracts of the Go functions and their plain Lean functions, written by a program of this session out of the translation. -/
import Derived.Test.YtdieblejeeojhaaPAx0
namespace Go.Proofs.Ytdieblejeeojhaa.PA
open Go.RowKit Go.Proofs.YtdieblejeeojhaaW.PrintWords Go.Proofs.YtdieblejeeojhaaW.PrintLast Go.Proofs.YtdieblejeeojhaaW.PrintMore
attribute [local go_sem] max2_int min2_int max_two min_two max_three min_three max_four min_four   -- for this text's walks alone
set_option linter.unusedVariables false
set_option linter.unusedSimpArgs false

/-! ### reconcile_Items: function 25 -/
mutual
def reconcile_Items.l0 : Nat → Int → Int → Int → List (S40) → List (S71) → Int → Int → Option ((List (S40)))
  | 0, _, _, _, _, _, _, _ => none
  | k + 1, x1, x2, x3, x9, x14, x15, x16 => if x16 < x15 then (if 0 ≤ x16 then (if x16 < (x14.length : Int) then (if ((rd_T71 x14 x16).f1) < x2 then (reconcile_Items.j1 k x1 x2 x3 x9 x14 x15 x16 true ((rd_T71 x14 x16).f0) ((rd_T71 x14 x16).f1) ((rd_T71 x14 x16).f2) ((rd_T71 x14 x16).f3) ((rd_T71 x14 x16).f4) ((rd_T71 x14 x16).f5) ((rd_T71 x14 x16).f6) ((rd_T71 x14 x16).f7) ((rd_T71 x14 x16).f8) ((rd_T71 x14 x16).f9)) else (reconcile_Items.j1 k x1 x2 x3 x9 x14 x15 x16 (decide (((rd_T71 x14 x16).f1) > x3)) ((rd_T71 x14 x16).f0) ((rd_T71 x14 x16).f1) ((rd_T71 x14 x16).f2) ((rd_T71 x14 x16).f3) ((rd_T71 x14 x16).f4) ((rd_T71 x14 x16).f5) ((rd_T71 x14 x16).f6) ((rd_T71 x14 x16).f7) ((rd_T71 x14 x16).f8) ((rd_T71 x14 x16).f9))) else (none)) else (none)) else (some x9)
def reconcile_Items.j1 : Nat → Int → Int → Int → List (S40) → List (S71) → Int → Int → Bool → Int → Int → Int → Int → Int → Int → ByteArray → ByteArray → List (S73) → Int → Option ((List (S40)))
  | 0, _, _, _, _, _, _, _, _, _, _, _, _, _, _, _, _, _, _ => none
  | k + 1, x1, x2, x3, x9, x14, x15, x16, x29, x352000, x352001, x352002, x352003, x352004, x352005, x352006, x352007, x352008, x352009 => if x29 = true then (reconcile_Items.l0 k x1 x2 x3 x9 x14 x15 (wrap64 (x16 + 1))) else (reconcile_Items.l1 k x1 x2 x3 x9 x14 x15 x16 x352008 (x352008.length : Int) 0 x352000 x352001 x352002 x352003 x352004 x352005 x352006 x352007 x352008 x352009)
def reconcile_Items.l1 : Nat → Int → Int → Int → List (S40) → List (S71) → Int → Int → List (S73) → Int → Int → Int → Int → Int → Int → Int → Int → ByteArray → ByteArray → List (S73) → Int → Option ((List (S40)))
  | 0, _, _, _, _, _, _, _, _, _, _, _, _, _, _, _, _, _, _, _, _ => none
  | k + 1, x1, x2, x3, x9, x14, x15, x16, x31, x32, x33, x352000, x352001, x352002, x352003, x352004, x352005, x352006, x352007, x352008, x352009 => if x33 < x32 then (if 0 ≤ x33 then (if x33 < (x31.length : Int) then (if ((rd_T73 x31 x33).f0) = x1 then (if x9.length < 4398046511104 then (reconcile_Items.l1 k x1 x2 x3 (x9 ++ [(⟨x352006, x352002, wrap64 (-((rd_T73 x31 x33).f1))⟩ : S40)]) x14 x15 x16 x31 x32 (wrap64 (x33 + 1)) x352000 x352001 x352002 x352003 x352004 x352005 x352006 x352007 x352008 x352009) else (none)) else (reconcile_Items.l1 k x1 x2 x3 x9 x14 x15 x16 x31 x32 (wrap64 (x33 + 1)) x352000 x352001 x352002 x352003 x352004 x352005 x352006 x352007 x352008 x352009)) else (none)) else (none)) else (reconcile_Items.l0 k x1 x2 x3 x9 x14 x15 (wrap64 (x16 + 1)))
end
def reconcile_Items.f (k : Nat) (l0 : List (S71)) (a1 : Int) (a2 : Int) (a3 : Int) : Option ((List (S40))) := reconcile_Items.l0 k a1 a2 a3 ([] : List (S40)) l0 (l0.length : Int) 0
theorem reconcile_Items.mono_l : ∀ k, (∀ y0 y1 y2 y3 y4 y5 y6, LeO (reconcile_Items.l0 k y0 y1 y2 y3 y4 y5 y6) (reconcile_Items.l0 (k + 1) y0 y1 y2 y3 y4 y5 y6)) ∧ (∀ y0 y1 y2 y3 y4 y5 y6 y7 y8 y9 y10 y11 y12 y13 y14 y15 y16 y17, LeO (reconcile_Items.j1 k y0 y1 y2 y3 y4 y5 y6 y7 y8 y9 y10 y11 y12 y13 y14 y15 y16 y17) (reconcile_Items.j1 (k + 1) y0 y1 y2 y3 y4 y5 y6 y7 y8 y9 y10 y11 y12 y13 y14 y15 y16 y17)) ∧ (∀ y0 y1 y2 y3 y4 y5 y6 y7 y8 y9 y10 y11 y12 y13 y14 y15 y16 y17 y18 y19, LeO (reconcile_Items.l1 k y0 y1 y2 y3 y4 y5 y6 y7 y8 y9 y10 y11 y12 y13 y14 y15 y16 y17 y18 y19) (reconcile_Items.l1 (k + 1) y0 y1 y2 y3 y4 y5 y6 y7 y8 y9 y10 y11 y12 y13 y14 y15 y16 y17 y18 y19))
  | 0 => ⟨fun _ _ _ _ _ _ _ r h => by simp [reconcile_Items.l0] at h, fun _ _ _ _ _ _ _ _ _ _ _ _ _ _ _ _ _ _ r h => by simp [reconcile_Items.j1] at h, fun _ _ _ _ _ _ _ _ _ _ _ _ _ _ _ _ _ _ _ _ r h => by simp [reconcile_Items.l1] at h⟩
  | k + 1 => by
    obtain ⟨ih0, ih1, ih2⟩ := reconcile_Items.mono_l k
    refine ⟨?_, ?_, ?_⟩
    · intro y0 y1 y2 y3 y4 y5 y6
      unfold reconcile_Items.l0
      repeat' first
      | (with_reducible exact ih0 _ _ _ _ _ _ _)
      | (with_reducible exact ih1 _ _ _ _ _ _ _ _ _ _ _ _ _ _ _ _ _ _)
      | (with_reducible exact ih2 _ _ _ _ _ _ _ _ _ _ _ _ _ _ _ _ _ _ _ _)
      | (with_reducible exact LeO.refl _)
      | (with_reducible exact LeO.none _)
      | (with_reducible refine LeO.ite ?_ ?_)
      | (with_reducible refine LeO.bind ?_ (fun _ => ?_))
      | exact ih0 _ _ _ _ _ _ _
      | exact ih1 _ _ _ _ _ _ _ _ _ _ _ _ _ _ _ _ _ _
      | exact ih2 _ _ _ _ _ _ _ _ _ _ _ _ _ _ _ _ _ _ _ _
      | exact LeO.none _
      | refine LeO.ite ?_ ?_
      | refine LeO.bind ?_ (fun _ => ?_)
    · intro y0 y1 y2 y3 y4 y5 y6 y7 y8 y9 y10 y11 y12 y13 y14 y15 y16 y17
      unfold reconcile_Items.j1
      repeat' first
      | (with_reducible exact ih0 _ _ _ _ _ _ _)
      | (with_reducible exact ih1 _ _ _ _ _ _ _ _ _ _ _ _ _ _ _ _ _ _)
      | (with_reducible exact ih2 _ _ _ _ _ _ _ _ _ _ _ _ _ _ _ _ _ _ _ _)
      | (with_reducible exact LeO.refl _)
      | (with_reducible exact LeO.none _)
      | (with_reducible refine LeO.ite ?_ ?_)
      | (with_reducible refine LeO.bind ?_ (fun _ => ?_))
      | exact ih0 _ _ _ _ _ _ _
      | exact ih1 _ _ _ _ _ _ _ _ _ _ _ _ _ _ _ _ _ _
      | exact ih2 _ _ _ _ _ _ _ _ _ _ _ _ _ _ _ _ _ _ _ _
      | exact LeO.none _
      | refine LeO.ite ?_ ?_
      | refine LeO.bind ?_ (fun _ => ?_)
    · intro y0 y1 y2 y3 y4 y5 y6 y7 y8 y9 y10 y11 y12 y13 y14 y15 y16 y17 y18 y19
      unfold reconcile_Items.l1
      repeat' first
      | (with_reducible exact ih0 _ _ _ _ _ _ _)
      | (with_reducible exact ih1 _ _ _ _ _ _ _ _ _ _ _ _ _ _ _ _ _ _)
      | (with_reducible exact ih2 _ _ _ _ _ _ _ _ _ _ _ _ _ _ _ _ _ _ _ _)
      | (with_reducible exact LeO.refl _)
      | (with_reducible exact LeO.none _)
      | (with_reducible refine LeO.ite ?_ ?_)
      | (with_reducible refine LeO.bind ?_ (fun _ => ?_))
      | exact ih0 _ _ _ _ _ _ _
      | exact ih1 _ _ _ _ _ _ _ _ _ _ _ _ _ _ _ _ _ _
      | exact ih2 _ _ _ _ _ _ _ _ _ _ _ _ _ _ _ _ _ _ _ _
      | exact LeO.none _
      | refine LeO.ite ?_ ?_
      | refine LeO.bind ?_ (fun _ => ?_)
theorem reconcile_Items.mono : ∀ a0 a1 a2 a3 k, LeO (reconcile_Items.f k a0 a1 a2 a3) (reconcile_Items.f (k + 1) a0 a1 a2 a3) := by
  intro a0 a1 a2 a3 k
  obtain ⟨ih0, ih1, ih2⟩ := reconcile_Items.mono_l k
  unfold reconcile_Items.f
  repeat' first
      | (with_reducible exact ih0 _ _ _ _ _ _ _)
      | (with_reducible exact ih1 _ _ _ _ _ _ _ _ _ _ _ _ _ _ _ _ _ _)
      | (with_reducible exact ih2 _ _ _ _ _ _ _ _ _ _ _ _ _ _ _ _ _ _ _ _)
      | (with_reducible exact LeO.refl _)
      | (with_reducible exact LeO.none _)
      | (with_reducible refine LeO.ite ?_ ?_)
      | (with_reducible refine LeO.bind ?_ (fun _ => ?_))
      | exact ih0 _ _ _ _ _ _ _
      | exact ih1 _ _ _ _ _ _ _ _ _ _ _ _ _ _ _ _ _ _
      | exact ih2 _ _ _ _ _ _ _ _ _ _ _ _ _ _ _ _ _ _ _ _
      | exact LeO.none _
      | refine LeO.ite ?_ ?_
      | refine LeO.bind ?_ (fun _ => ?_)
set_option maxHeartbeats 8000000 in
set_option maxRecDepth 100000 in
theorem reconcile_Items.calls (k : Nat) (A0 : Option Addr) (c0 : Nat) (l0 : List (S71)) (a1 : Int) (a2 : Int) (a3 : Int) (r : List (S40)) (w : World) (hr0 : Kd.C k71 w A0 l0.length l0) (hc0 : l0.length ≤ c0) (h : reconcile_Items.f k l0 a1 a2 a3 = some r) :
    Calls Try.prog 25 #[.slice A0 l0.length c0, .int .i64 a1, .int .i64 a2, .int .i64 a3] w fun e w' => ∃ v0_ : Value, e = .returned (v0_) ∧ Kd.R k40 40 w' w.heap.size (fun _ => True) v0_ r ∧ Below w.heap.size w w' := by
  have hu71 := Try.underlying71
  have hu73 := Try.underlying73
  have hu40 := Try.underlying40
  have HR0 := Aside0.mk hr0
  have HC0 := Aside0.mk hc0
  clear hr0 hc0
  have HB := Aside0.mk (Below.refl w.heap.size w)
  have H : (reconcile_Items.l0 k a1 a2 a3 ([] : List (S40)) l0 (l0.length : Int) 0) = some r := h
  clear h
  have H' := Aside0.mk H
  clear H
  go_enter Try.func25, Try.ntmps25
  go_wp2
  go_loopg [9, 16] k (fun kq v9 v16 w' => ∃ (x9_1 : List (S40)) (x16_1 : Int), v16 = .int .i64 x16_1 ∧ Aside0 (reconcile_Items.l0 kq a1 a2 a3 x9_1 l0 (l0.length : Int) x16_1 = some r) ∧ Aside0 (kq ≤ k) ∧ Aside0 (Kd.R k40 40 w' w.heap.size (fun _ => True) v9 x9_1) ∧ Aside0 (Below w.heap.size w w'))
  case atStart => exact ⟨(([] : List (S40))), (0), (by first | rfl | (simp; done) | (simp [*]; done)), H', ⟨Nat.le_refl _⟩, ⟨by first | exact Kd.R_nil _ _ _ _ _ | exact Kd.N_nil _ _ _ _ _ | exact Kd.V_nil _ _ _ _ _ | exact Kd.Q_nil _ _ _ _ _ | exact Kd.S_nil _ _ _ _ _⟩, ⟨bE⟩⟩
  case round =>
    clear H'
    try clear c2
    try clear p2
    obtain ⟨x9_1, x16_1, rfl, HA, HK1, HO_9, HB⟩ := hrel
    cases gk with
    | zero => exact absurd HA.out (by simp [reconcile_Items.l0])
    | succ k1 =>
      have H := HA.out
      clear HA
      simp only [reconcile_Items.l0] at H
      by_cases c5 : x16_1 < (l0.length : Int)
      · rw [if_pos c5] at H
        have c5b0 : decide (x16_1 < (l0.length : Int)) = true := decide_eq_true c5
        clear c5
        by_cases c6 : 0 ≤ x16_1
        · rw [if_pos c6] at H
          have c6b0 : decide (0 ≤ x16_1) = true := decide_eq_true c6
          clear c6
          by_cases c7 : x16_1 < (l0.length : Int)
          · rw [if_pos c7] at H
            have c7b0 : decide (x16_1 < (l0.length : Int)) = true := decide_eq_true c7
            clear c7
            have HC8 := Aside0.mk H
            clear H
            have p350 : 0 ≤ (x16_1 : Int) := of_decide_eq_true (by first | (with_reducible assumption) | assumption)
            have q350 : x16_1 < (l0.length : Int) := of_decide_eq_true (by first | (with_reducible assumption) | assumption)
            obtain ⟨ad350, A350_8, c350_8, e350, hx350_0, hx350_1, hx350_2, hx350_3, hx350_4, hx350_5, hx350_6, hx350_7, hx350_8, hx350_9, hl350_8, hi350_8⟩ := at_T71 HR0.out x16_1 p350 q350
            cases e350
            replace hx350_0 := (HB.out.cell (World.block_lt_of_cell? w _ hx350_0)).trans hx350_0
            replace hx350_1 := (HB.out.cell (World.block_lt_of_cell? w _ hx350_1)).trans hx350_1
            replace hx350_2 := (HB.out.cell (World.block_lt_of_cell? w _ hx350_2)).trans hx350_2
            replace hx350_3 := (HB.out.cell (World.block_lt_of_cell? w _ hx350_3)).trans hx350_3
            replace hx350_4 := (HB.out.cell (World.block_lt_of_cell? w _ hx350_4)).trans hx350_4
            replace hx350_5 := (HB.out.cell (World.block_lt_of_cell? w _ hx350_5)).trans hx350_5
            replace hx350_6 := (HB.out.cell (World.block_lt_of_cell? w _ hx350_6)).trans hx350_6
            replace hx350_7 := (HB.out.cell (World.block_lt_of_cell? w _ hx350_7)).trans hx350_7
            replace hx350_8 := (HB.out.cell (World.block_lt_of_cell? w _ hx350_8)).trans hx350_8
            replace hx350_9 := (HB.out.cell (World.block_lt_of_cell? w _ hx350_9)).trans hx350_9
            have HR350_8 := Aside0.mk hi350_8
            have HC350_8 := Aside0.mk hl350_8
            clear hi350_8 hl350_8
            replace p350 := eq_true p350
            replace q350 := eq_true q350
            go_upto_region 5 with (first | ((with_reducible refine gate_dst (N := 11) rfl ?_); refine box_event ?hg (N := 11) ?hd (cs := #[.int .i64 0, .int .i64 0, .int .i64 0, .int .i64 0, .int .i64 0, .int .i64 0, .string (⟨#[]⟩ : ByteArray), .string (⟨#[]⟩ : ByteArray), .slice none 0 0, .int .u64 0]) (t := 71) ?hr ?_; (case hd => rfl); (case hg => rfl); (case hr => first | (go_simp; done) | (go_simp; rfl)); intro gb351 hg w9 hbox hb; have n0_ := Aside0.mk (Kd.R_below (by (with_reducible repeat (first | apply Kd.R_alloc | apply Kd.R_drewN | apply Kd.R_drew)); exact HO_9.out) hb); have nn_ := bT hb hg; have n1_ := Aside0.mk nn_.1; have n2_ := Aside0.mk (hbox); have n3_ := Aside0.mk nn_.2; clear nn_; have n4_ := n3_; clear HO_9; clear HB; have HO_9 := n0_; have HB := n1_; have BK351 := n2_; have GW351 := n3_; have GE351 := n4_; clear n0_ n1_ n2_ n3_ n4_; clear hb hbox hg; have hcz10_0 : w9.cell? ⟨gb351, 0, none⟩ = some (.int .i64 0) := (blk_cell BK351.out 0).trans rfl; have hcz10_1 : w9.cell? ⟨gb351, 1, none⟩ = some (.int .i64 0) := (blk_cell BK351.out 1).trans rfl; have hcz10_2 : w9.cell? ⟨gb351, 2, none⟩ = some (.int .i64 0) := (blk_cell BK351.out 2).trans rfl; have hcz10_3 : w9.cell? ⟨gb351, 3, none⟩ = some (.int .i64 0) := (blk_cell BK351.out 3).trans rfl; have hcz10_4 : w9.cell? ⟨gb351, 4, none⟩ = some (.int .i64 0) := (blk_cell BK351.out 4).trans rfl; have hcz10_5 : w9.cell? ⟨gb351, 5, none⟩ = some (.int .i64 0) := (blk_cell BK351.out 5).trans rfl; have hcz10_6 : w9.cell? ⟨gb351, 6, none⟩ = some (.string (⟨#[]⟩ : ByteArray)) := (blk_cell BK351.out 6).trans rfl; have hcz10_7 : w9.cell? ⟨gb351, 7, none⟩ = some (.string (⟨#[]⟩ : ByteArray)) := (blk_cell BK351.out 7).trans rfl; have hcz10_8 : w9.cell? ⟨gb351, 8, none⟩ = some (.slice none 0 0) := (blk_cell BK351.out 8).trans rfl; have hcz10_9 : w9.cell? ⟨gb351, 9, none⟩ = some (.int .u64 0) := (blk_cell BK351.out 9).trans rfl; have hfz10_0 := blk_frozen BK351.out 0; have hfz10_1 := blk_frozen BK351.out 1; have hfz10_2 := blk_frozen BK351.out 2; have hfz10_3 := blk_frozen BK351.out 3; have hfz10_4 := blk_frozen BK351.out 4; have hfz10_5 := blk_frozen BK351.out 5; have hfz10_6 := blk_frozen BK351.out 6; have hfz10_7 := blk_frozen BK351.out 7; have hfz10_8 := blk_frozen BK351.out 8; have hfz10_9 := blk_frozen BK351.out 9))
            (try simp only [Act.put, List.setIfInBounds_toArray, List.set_cons_zero, List.set_cons_succ])
            go_cut [29] (fun v29 wc => ∃ (kq : Nat) (x29_7 : Bool), v29 = .bool x29_7 ∧ Aside0 (reconcile_Items.j1 kq a1 a2 a3 x9_1 l0 (l0.length : Int) x16_1 x29_7 ((rd_T71 l0 x16_1).f0) ((rd_T71 l0 x16_1).f1) ((rd_T71 l0 x16_1).f2) ((rd_T71 l0 x16_1).f3) ((rd_T71 l0 x16_1).f4) ((rd_T71 l0 x16_1).f5) ((rd_T71 l0 x16_1).f6) ((rd_T71 l0 x16_1).f7) ((rd_T71 l0 x16_1).f8) ((rd_T71 l0 x16_1).f9) = some r) ∧ Aside0 (kq ≤ k1) ∧ Aside0 (Kd.R k40 40 wc w.heap.size (fun _ => True) u9 x9_1) ∧ Aside0 (wc.heap[gb351]? = some (.cells #[.int .i64 ((rd_T71 l0 x16_1).f0), .int .i64 ((rd_T71 l0 x16_1).f1), .int .i64 ((rd_T71 l0 x16_1).f2), .int .i64 ((rd_T71 l0 x16_1).f3), .int .i64 ((rd_T71 l0 x16_1).f4), .int .i64 ((rd_T71 l0 x16_1).f5), .string ((rd_T71 l0 x16_1).f6), .string ((rd_T71 l0 x16_1).f7), (.slice A350_8 ((rd_T71 l0 x16_1).f8).length c350_8), .int .u64 ((rd_T71 l0 x16_1).f9)] 71 (0, 0))) ∧ Aside0 (Below w.heap.size w wc))
            case first =>
              have H := HC8.out
              clear HC8
              by_cases c11 : ((rd_T71 l0 x16_1).f1) < a2
              · rw [if_pos c11] at H
                have c11b0 : decide (((rd_T71 l0 x16_1).f1) < a2) = true := decide_eq_true c11
                clear c11
                (first | rw [c11b0] | (simp only [i64_w, i32_w]; rw [c11b0]) | skip)
                have H' := Aside0.mk H
                clear H
                have hcz12_0 : w9.cell? ⟨gb351, 0, none⟩ = some (.int .i64 0) := (blk_cell BK351.out 0).trans rfl
                have hcz12_1 : w9.cell? ⟨gb351, 1, none⟩ = some (.int .i64 0) := (blk_cell BK351.out 1).trans rfl
                have hcz12_2 : w9.cell? ⟨gb351, 2, none⟩ = some (.int .i64 0) := (blk_cell BK351.out 2).trans rfl
                have hcz12_3 : w9.cell? ⟨gb351, 3, none⟩ = some (.int .i64 0) := (blk_cell BK351.out 3).trans rfl
                have hcz12_4 : w9.cell? ⟨gb351, 4, none⟩ = some (.int .i64 0) := (blk_cell BK351.out 4).trans rfl
                have hcz12_5 : w9.cell? ⟨gb351, 5, none⟩ = some (.int .i64 0) := (blk_cell BK351.out 5).trans rfl
                have hcz12_6 : w9.cell? ⟨gb351, 6, none⟩ = some (.string (⟨#[]⟩ : ByteArray)) := (blk_cell BK351.out 6).trans rfl
                have hcz12_7 : w9.cell? ⟨gb351, 7, none⟩ = some (.string (⟨#[]⟩ : ByteArray)) := (blk_cell BK351.out 7).trans rfl
                have hcz12_8 : w9.cell? ⟨gb351, 8, none⟩ = some (.slice none 0 0) := (blk_cell BK351.out 8).trans rfl
                have hcz12_9 : w9.cell? ⟨gb351, 9, none⟩ = some (.int .u64 0) := (blk_cell BK351.out 9).trans rfl
                have hfz12_0 := blk_frozen BK351.out 0
                have hfz12_1 := blk_frozen BK351.out 1
                have hfz12_2 := blk_frozen BK351.out 2
                have hfz12_3 := blk_frozen BK351.out 3
                have hfz12_4 := blk_frozen BK351.out 4
                have hfz12_5 := blk_frozen BK351.out 5
                have hfz12_6 := blk_frozen BK351.out 6
                have hfz12_7 := blk_frozen BK351.out 7
                have hfz12_8 := blk_frozen BK351.out 8
                have hfz12_9 := blk_frozen BK351.out 9
                go_wp2
                go_meet
                case rel => exact ⟨_, (true), (by first | rfl | (simp; done) | (simp [*]; done)), H', ⟨by have := HK1.out; first | omega | exact Nat.le_refl _⟩, ⟨by (with_reducible repeat (first | apply Kd.R_alloc | apply Kd.R_drewN | apply Kd.R_drew)); exact Kd.R_mono (Kd.R_far (p := ⟨gb351, 9, none⟩) (Kd.R_far (p := ⟨gb351, 8, none⟩) (Kd.R_far (p := ⟨gb351, 7, none⟩) (Kd.R_far (p := ⟨gb351, 6, none⟩) (Kd.R_far (p := ⟨gb351, 5, none⟩) (Kd.R_far (p := ⟨gb351, 4, none⟩) (Kd.R_far (p := ⟨gb351, 3, none⟩) (Kd.R_far (p := ⟨gb351, 2, none⟩) (Kd.R_far (p := ⟨gb351, 1, none⟩) (Kd.R_far (p := ⟨gb351, 0, none⟩) (Kd.R_types HO_9.out BK351.out (by decide)) (fun _ hk => hk.2) (.int .i64 ((rd_T71 l0 x16_1).f0))) (fun _ hk => hk.2) (.int .i64 ((rd_T71 l0 x16_1).f1))) (fun _ hk => hk.2) (.int .i64 ((rd_T71 l0 x16_1).f2))) (fun _ hk => hk.2) (.int .i64 ((rd_T71 l0 x16_1).f3))) (fun _ hk => hk.2) (.int .i64 ((rd_T71 l0 x16_1).f4))) (fun _ hk => hk.2) (.int .i64 ((rd_T71 l0 x16_1).f5))) (fun _ hk => hk.2) (.string ((rd_T71 l0 x16_1).f6))) (fun _ hk => hk.2) (.string ((rd_T71 l0 x16_1).f7))) (fun _ hk => hk.2) (.slice A350_8 ((rd_T71 l0 x16_1).f8).length c350_8)) (fun _ hk => hk.2) (.int .u64 ((rd_T71 l0 x16_1).f9))) (fun _ hk => trivial)⟩, ⟨by (with_reducible repeat (first | refine blk_drewN ?_ _ | refine blk_drew ?_ | refine blk_alloc ?_ _)); refine blk_put (cs := #[.int .i64 ((rd_T71 l0 x16_1).f0), .int .i64 ((rd_T71 l0 x16_1).f1), .int .i64 ((rd_T71 l0 x16_1).f2), .int .i64 ((rd_T71 l0 x16_1).f3), .int .i64 ((rd_T71 l0 x16_1).f4), .int .i64 ((rd_T71 l0 x16_1).f5), .string ((rd_T71 l0 x16_1).f6), .string ((rd_T71 l0 x16_1).f7), .slice A350_8 ((rd_T71 l0 x16_1).f8).length c350_8, .int .u64 0]) ?_ 9 _ rfl; (with_reducible repeat (first | refine blk_drewN ?_ _ | refine blk_drew ?_ | refine blk_alloc ?_ _)); refine blk_put (cs := #[.int .i64 ((rd_T71 l0 x16_1).f0), .int .i64 ((rd_T71 l0 x16_1).f1), .int .i64 ((rd_T71 l0 x16_1).f2), .int .i64 ((rd_T71 l0 x16_1).f3), .int .i64 ((rd_T71 l0 x16_1).f4), .int .i64 ((rd_T71 l0 x16_1).f5), .string ((rd_T71 l0 x16_1).f6), .string ((rd_T71 l0 x16_1).f7), .slice none 0 0, .int .u64 0]) ?_ 8 _ rfl; (with_reducible repeat (first | refine blk_drewN ?_ _ | refine blk_drew ?_ | refine blk_alloc ?_ _)); refine blk_put (cs := #[.int .i64 ((rd_T71 l0 x16_1).f0), .int .i64 ((rd_T71 l0 x16_1).f1), .int .i64 ((rd_T71 l0 x16_1).f2), .int .i64 ((rd_T71 l0 x16_1).f3), .int .i64 ((rd_T71 l0 x16_1).f4), .int .i64 ((rd_T71 l0 x16_1).f5), .string ((rd_T71 l0 x16_1).f6), .string (⟨#[]⟩ : ByteArray), .slice none 0 0, .int .u64 0]) ?_ 7 _ rfl; (with_reducible repeat (first | refine blk_drewN ?_ _ | refine blk_drew ?_ | refine blk_alloc ?_ _)); refine blk_put (cs := #[.int .i64 ((rd_T71 l0 x16_1).f0), .int .i64 ((rd_T71 l0 x16_1).f1), .int .i64 ((rd_T71 l0 x16_1).f2), .int .i64 ((rd_T71 l0 x16_1).f3), .int .i64 ((rd_T71 l0 x16_1).f4), .int .i64 ((rd_T71 l0 x16_1).f5), .string (⟨#[]⟩ : ByteArray), .string (⟨#[]⟩ : ByteArray), .slice none 0 0, .int .u64 0]) ?_ 6 _ rfl; (with_reducible repeat (first | refine blk_drewN ?_ _ | refine blk_drew ?_ | refine blk_alloc ?_ _)); refine blk_put (cs := #[.int .i64 ((rd_T71 l0 x16_1).f0), .int .i64 ((rd_T71 l0 x16_1).f1), .int .i64 ((rd_T71 l0 x16_1).f2), .int .i64 ((rd_T71 l0 x16_1).f3), .int .i64 ((rd_T71 l0 x16_1).f4), .int .i64 0, .string (⟨#[]⟩ : ByteArray), .string (⟨#[]⟩ : ByteArray), .slice none 0 0, .int .u64 0]) ?_ 5 _ rfl; (with_reducible repeat (first | refine blk_drewN ?_ _ | refine blk_drew ?_ | refine blk_alloc ?_ _)); refine blk_put (cs := #[.int .i64 ((rd_T71 l0 x16_1).f0), .int .i64 ((rd_T71 l0 x16_1).f1), .int .i64 ((rd_T71 l0 x16_1).f2), .int .i64 ((rd_T71 l0 x16_1).f3), .int .i64 0, .int .i64 0, .string (⟨#[]⟩ : ByteArray), .string (⟨#[]⟩ : ByteArray), .slice none 0 0, .int .u64 0]) ?_ 4 _ rfl; (with_reducible repeat (first | refine blk_drewN ?_ _ | refine blk_drew ?_ | refine blk_alloc ?_ _)); refine blk_put (cs := #[.int .i64 ((rd_T71 l0 x16_1).f0), .int .i64 ((rd_T71 l0 x16_1).f1), .int .i64 ((rd_T71 l0 x16_1).f2), .int .i64 0, .int .i64 0, .int .i64 0, .string (⟨#[]⟩ : ByteArray), .string (⟨#[]⟩ : ByteArray), .slice none 0 0, .int .u64 0]) ?_ 3 _ rfl; (with_reducible repeat (first | refine blk_drewN ?_ _ | refine blk_drew ?_ | refine blk_alloc ?_ _)); refine blk_put (cs := #[.int .i64 ((rd_T71 l0 x16_1).f0), .int .i64 ((rd_T71 l0 x16_1).f1), .int .i64 0, .int .i64 0, .int .i64 0, .int .i64 0, .string (⟨#[]⟩ : ByteArray), .string (⟨#[]⟩ : ByteArray), .slice none 0 0, .int .u64 0]) ?_ 2 _ rfl; (with_reducible repeat (first | refine blk_drewN ?_ _ | refine blk_drew ?_ | refine blk_alloc ?_ _)); refine blk_put (cs := #[.int .i64 ((rd_T71 l0 x16_1).f0), .int .i64 0, .int .i64 0, .int .i64 0, .int .i64 0, .int .i64 0, .string (⟨#[]⟩ : ByteArray), .string (⟨#[]⟩ : ByteArray), .slice none 0 0, .int .u64 0]) ?_ 1 _ rfl; (with_reducible repeat (first | refine blk_drewN ?_ _ | refine blk_drew ?_ | refine blk_alloc ?_ _)); refine blk_put (cs := #[.int .i64 0, .int .i64 0, .int .i64 0, .int .i64 0, .int .i64 0, .int .i64 0, .string (⟨#[]⟩ : ByteArray), .string (⟨#[]⟩ : ByteArray), .slice none 0 0, .int .u64 0]) ?_ 0 _ rfl; (with_reducible repeat (first | refine blk_drewN ?_ _ | refine blk_drew ?_ | refine blk_alloc ?_ _)); exact BK351.out⟩, ⟨bE⟩⟩
              · rw [if_neg c11] at H
                have c11b0 : decide (((rd_T71 l0 x16_1).f1) < a2) = false := decide_eq_false c11
                clear c11
                (first | rw [c11b0] | (simp only [i64_w, i32_w]; rw [c11b0]) | skip)
                have H' := Aside0.mk H
                clear H
                have hcz13_0 : w9.cell? ⟨gb351, 0, none⟩ = some (.int .i64 0) := (blk_cell BK351.out 0).trans rfl
                have hcz13_1 : w9.cell? ⟨gb351, 1, none⟩ = some (.int .i64 0) := (blk_cell BK351.out 1).trans rfl
                have hcz13_2 : w9.cell? ⟨gb351, 2, none⟩ = some (.int .i64 0) := (blk_cell BK351.out 2).trans rfl
                have hcz13_3 : w9.cell? ⟨gb351, 3, none⟩ = some (.int .i64 0) := (blk_cell BK351.out 3).trans rfl
                have hcz13_4 : w9.cell? ⟨gb351, 4, none⟩ = some (.int .i64 0) := (blk_cell BK351.out 4).trans rfl
                have hcz13_5 : w9.cell? ⟨gb351, 5, none⟩ = some (.int .i64 0) := (blk_cell BK351.out 5).trans rfl
                have hcz13_6 : w9.cell? ⟨gb351, 6, none⟩ = some (.string (⟨#[]⟩ : ByteArray)) := (blk_cell BK351.out 6).trans rfl
                have hcz13_7 : w9.cell? ⟨gb351, 7, none⟩ = some (.string (⟨#[]⟩ : ByteArray)) := (blk_cell BK351.out 7).trans rfl
                have hcz13_8 : w9.cell? ⟨gb351, 8, none⟩ = some (.slice none 0 0) := (blk_cell BK351.out 8).trans rfl
                have hcz13_9 : w9.cell? ⟨gb351, 9, none⟩ = some (.int .u64 0) := (blk_cell BK351.out 9).trans rfl
                have hfz13_0 := blk_frozen BK351.out 0
                have hfz13_1 := blk_frozen BK351.out 1
                have hfz13_2 := blk_frozen BK351.out 2
                have hfz13_3 := blk_frozen BK351.out 3
                have hfz13_4 := blk_frozen BK351.out 4
                have hfz13_5 := blk_frozen BK351.out 5
                have hfz13_6 := blk_frozen BK351.out 6
                have hfz13_7 := blk_frozen BK351.out 7
                have hfz13_8 := blk_frozen BK351.out 8
                have hfz13_9 := blk_frozen BK351.out 9
                go_wp2
                go_meet
                case rel => exact ⟨_, (decide (((rd_T71 l0 x16_1).f1) > a3)), (by first | rfl | (simp; done) | (simp [*]; done)), H', ⟨by have := HK1.out; first | omega | exact Nat.le_refl _⟩, ⟨by (with_reducible repeat (first | apply Kd.R_alloc | apply Kd.R_drewN | apply Kd.R_drew)); exact Kd.R_mono (Kd.R_far (p := ⟨gb351, 9, none⟩) (Kd.R_far (p := ⟨gb351, 8, none⟩) (Kd.R_far (p := ⟨gb351, 7, none⟩) (Kd.R_far (p := ⟨gb351, 6, none⟩) (Kd.R_far (p := ⟨gb351, 5, none⟩) (Kd.R_far (p := ⟨gb351, 4, none⟩) (Kd.R_far (p := ⟨gb351, 3, none⟩) (Kd.R_far (p := ⟨gb351, 2, none⟩) (Kd.R_far (p := ⟨gb351, 1, none⟩) (Kd.R_far (p := ⟨gb351, 0, none⟩) (Kd.R_types HO_9.out BK351.out (by decide)) (fun _ hk => hk.2) (.int .i64 ((rd_T71 l0 x16_1).f0))) (fun _ hk => hk.2) (.int .i64 ((rd_T71 l0 x16_1).f1))) (fun _ hk => hk.2) (.int .i64 ((rd_T71 l0 x16_1).f2))) (fun _ hk => hk.2) (.int .i64 ((rd_T71 l0 x16_1).f3))) (fun _ hk => hk.2) (.int .i64 ((rd_T71 l0 x16_1).f4))) (fun _ hk => hk.2) (.int .i64 ((rd_T71 l0 x16_1).f5))) (fun _ hk => hk.2) (.string ((rd_T71 l0 x16_1).f6))) (fun _ hk => hk.2) (.string ((rd_T71 l0 x16_1).f7))) (fun _ hk => hk.2) (.slice A350_8 ((rd_T71 l0 x16_1).f8).length c350_8)) (fun _ hk => hk.2) (.int .u64 ((rd_T71 l0 x16_1).f9))) (fun _ hk => trivial)⟩, ⟨by (with_reducible repeat (first | refine blk_drewN ?_ _ | refine blk_drew ?_ | refine blk_alloc ?_ _)); refine blk_put (cs := #[.int .i64 ((rd_T71 l0 x16_1).f0), .int .i64 ((rd_T71 l0 x16_1).f1), .int .i64 ((rd_T71 l0 x16_1).f2), .int .i64 ((rd_T71 l0 x16_1).f3), .int .i64 ((rd_T71 l0 x16_1).f4), .int .i64 ((rd_T71 l0 x16_1).f5), .string ((rd_T71 l0 x16_1).f6), .string ((rd_T71 l0 x16_1).f7), .slice A350_8 ((rd_T71 l0 x16_1).f8).length c350_8, .int .u64 0]) ?_ 9 _ rfl; (with_reducible repeat (first | refine blk_drewN ?_ _ | refine blk_drew ?_ | refine blk_alloc ?_ _)); refine blk_put (cs := #[.int .i64 ((rd_T71 l0 x16_1).f0), .int .i64 ((rd_T71 l0 x16_1).f1), .int .i64 ((rd_T71 l0 x16_1).f2), .int .i64 ((rd_T71 l0 x16_1).f3), .int .i64 ((rd_T71 l0 x16_1).f4), .int .i64 ((rd_T71 l0 x16_1).f5), .string ((rd_T71 l0 x16_1).f6), .string ((rd_T71 l0 x16_1).f7), .slice none 0 0, .int .u64 0]) ?_ 8 _ rfl; (with_reducible repeat (first | refine blk_drewN ?_ _ | refine blk_drew ?_ | refine blk_alloc ?_ _)); refine blk_put (cs := #[.int .i64 ((rd_T71 l0 x16_1).f0), .int .i64 ((rd_T71 l0 x16_1).f1), .int .i64 ((rd_T71 l0 x16_1).f2), .int .i64 ((rd_T71 l0 x16_1).f3), .int .i64 ((rd_T71 l0 x16_1).f4), .int .i64 ((rd_T71 l0 x16_1).f5), .string ((rd_T71 l0 x16_1).f6), .string (⟨#[]⟩ : ByteArray), .slice none 0 0, .int .u64 0]) ?_ 7 _ rfl; (with_reducible repeat (first | refine blk_drewN ?_ _ | refine blk_drew ?_ | refine blk_alloc ?_ _)); refine blk_put (cs := #[.int .i64 ((rd_T71 l0 x16_1).f0), .int .i64 ((rd_T71 l0 x16_1).f1), .int .i64 ((rd_T71 l0 x16_1).f2), .int .i64 ((rd_T71 l0 x16_1).f3), .int .i64 ((rd_T71 l0 x16_1).f4), .int .i64 ((rd_T71 l0 x16_1).f5), .string (⟨#[]⟩ : ByteArray), .string (⟨#[]⟩ : ByteArray), .slice none 0 0, .int .u64 0]) ?_ 6 _ rfl; (with_reducible repeat (first | refine blk_drewN ?_ _ | refine blk_drew ?_ | refine blk_alloc ?_ _)); refine blk_put (cs := #[.int .i64 ((rd_T71 l0 x16_1).f0), .int .i64 ((rd_T71 l0 x16_1).f1), .int .i64 ((rd_T71 l0 x16_1).f2), .int .i64 ((rd_T71 l0 x16_1).f3), .int .i64 ((rd_T71 l0 x16_1).f4), .int .i64 0, .string (⟨#[]⟩ : ByteArray), .string (⟨#[]⟩ : ByteArray), .slice none 0 0, .int .u64 0]) ?_ 5 _ rfl; (with_reducible repeat (first | refine blk_drewN ?_ _ | refine blk_drew ?_ | refine blk_alloc ?_ _)); refine blk_put (cs := #[.int .i64 ((rd_T71 l0 x16_1).f0), .int .i64 ((rd_T71 l0 x16_1).f1), .int .i64 ((rd_T71 l0 x16_1).f2), .int .i64 ((rd_T71 l0 x16_1).f3), .int .i64 0, .int .i64 0, .string (⟨#[]⟩ : ByteArray), .string (⟨#[]⟩ : ByteArray), .slice none 0 0, .int .u64 0]) ?_ 4 _ rfl; (with_reducible repeat (first | refine blk_drewN ?_ _ | refine blk_drew ?_ | refine blk_alloc ?_ _)); refine blk_put (cs := #[.int .i64 ((rd_T71 l0 x16_1).f0), .int .i64 ((rd_T71 l0 x16_1).f1), .int .i64 ((rd_T71 l0 x16_1).f2), .int .i64 0, .int .i64 0, .int .i64 0, .string (⟨#[]⟩ : ByteArray), .string (⟨#[]⟩ : ByteArray), .slice none 0 0, .int .u64 0]) ?_ 3 _ rfl; (with_reducible repeat (first | refine blk_drewN ?_ _ | refine blk_drew ?_ | refine blk_alloc ?_ _)); refine blk_put (cs := #[.int .i64 ((rd_T71 l0 x16_1).f0), .int .i64 ((rd_T71 l0 x16_1).f1), .int .i64 0, .int .i64 0, .int .i64 0, .int .i64 0, .string (⟨#[]⟩ : ByteArray), .string (⟨#[]⟩ : ByteArray), .slice none 0 0, .int .u64 0]) ?_ 2 _ rfl; (with_reducible repeat (first | refine blk_drewN ?_ _ | refine blk_drew ?_ | refine blk_alloc ?_ _)); refine blk_put (cs := #[.int .i64 ((rd_T71 l0 x16_1).f0), .int .i64 0, .int .i64 0, .int .i64 0, .int .i64 0, .int .i64 0, .string (⟨#[]⟩ : ByteArray), .string (⟨#[]⟩ : ByteArray), .slice none 0 0, .int .u64 0]) ?_ 1 _ rfl; (with_reducible repeat (first | refine blk_drewN ?_ _ | refine blk_drew ?_ | refine blk_alloc ?_ _)); refine blk_put (cs := #[.int .i64 0, .int .i64 0, .int .i64 0, .int .i64 0, .int .i64 0, .int .i64 0, .string (⟨#[]⟩ : ByteArray), .string (⟨#[]⟩ : ByteArray), .slice none 0 0, .int .u64 0]) ?_ 0 _ rfl; (with_reducible repeat (first | refine blk_drewN ?_ _ | refine blk_drew ?_ | refine blk_alloc ?_ _)); exact BK351.out⟩, ⟨bE⟩⟩
            case rest =>
              clear HC8
              try clear c1
              try clear c2
              try clear p2
              try clear c3
              try clear p3
              try clear q3
              try clear hx3
              try clear c5
              try clear c5b0
              try clear c6
              try clear c6b0
              try clear c7
              try clear c7b0
              try clear c11
              try clear c11b0
              try clear hcz10_0
              try clear hcz10_1
              try clear hcz10_2
              try clear hcz10_3
              try clear hcz10_4
              try clear hcz10_5
              try clear hcz10_6
              try clear hcz10_7
              try clear hcz10_8
              try clear hcz10_9
              try clear hcz12_0
              try clear hcz12_1
              try clear hcz12_2
              try clear hcz12_3
              try clear hcz12_4
              try clear hcz12_5
              try clear hcz12_6
              try clear hcz12_7
              try clear hcz12_8
              try clear hcz12_9
              try clear hcz13_0
              try clear hcz13_1
              try clear hcz13_2
              try clear hcz13_3
              try clear hcz13_4
              try clear hcz13_5
              try clear hcz13_6
              try clear hcz13_7
              try clear hcz13_8
              try clear hcz13_9
              try clear hfz10_0
              try clear hfz10_1
              try clear hfz10_2
              try clear hfz10_3
              try clear hfz10_4
              try clear hfz10_5
              try clear hfz10_6
              try clear hfz10_7
              try clear hfz10_8
              try clear hfz10_9
              try clear hfz12_0
              try clear hfz12_1
              try clear hfz12_2
              try clear hfz12_3
              try clear hfz12_4
              try clear hfz12_5
              try clear hfz12_6
              try clear hfz12_7
              try clear hfz12_8
              try clear hfz12_9
              try clear hfz13_0
              try clear hfz13_1
              try clear hfz13_2
              try clear hfz13_3
              try clear hfz13_4
              try clear hfz13_5
              try clear hfz13_6
              try clear hfz13_7
              try clear hfz13_8
              try clear hfz13_9
              try clear hx350_0
              try clear hx350_1
              try clear hx350_2
              try clear hx350_3
              try clear hx350_4
              try clear hx350_5
              try clear hx350_6
              try clear hx350_7
              try clear hx350_8
              try clear hx350_9
              try clear p2
              try clear p350
              try clear q350
              obtain ⟨kq, x29_7, rfl, HA, HJ7, HO_9, BK351, HB⟩ := hcut
              cases kq with
              | zero => exact absurd HA.out (by simp [reconcile_Items.j1])
              | succ kj7 =>
                have H := HA.out
                clear HA
                simp only [reconcile_Items.j1] at H
                by_cases c14 : x29_7 = true
                · subst c14
                  have H1 : (reconcile_Items.l0 kj7 a1 a2 a3 x9_1 l0 (l0.length : Int) (wrap64 (x16_1 + 1))) = some r := by rw [if_pos rfl] at H; exact H
                  clear H
                  have H := H1
                  clear H1
                  have H' := Aside0.mk H
                  clear H
                  go_wp2
                  go_roundg kj7
                  case measure => have := HK1.out; have := HJ7.out; omega
                  case rel => exact ⟨(x9_1), (wrap64 (x16_1 + 1)), (by first | rfl | (simp; done) | (simp [*]; done)), H', ⟨by have := HK1.out; have := HJ7.out; omega⟩, ⟨by (with_reducible repeat (first | apply Kd.R_alloc | apply Kd.R_drewN | apply Kd.R_drew)); exact HO_9.out⟩, ⟨bE⟩⟩
                · replace c14 := Bool.eq_false_iff.mpr c14
                  subst c14
                  have H1 : (reconcile_Items.l1 kj7 a1 a2 a3 x9_1 l0 (l0.length : Int) x16_1 ((rd_T71 l0 x16_1).f8) (((rd_T71 l0 x16_1).f8).length : Int) 0 ((rd_T71 l0 x16_1).f0) ((rd_T71 l0 x16_1).f1) ((rd_T71 l0 x16_1).f2) ((rd_T71 l0 x16_1).f3) ((rd_T71 l0 x16_1).f4) ((rd_T71 l0 x16_1).f5) ((rd_T71 l0 x16_1).f6) ((rd_T71 l0 x16_1).f7) ((rd_T71 l0 x16_1).f8) ((rd_T71 l0 x16_1).f9)) = some r := by rw [if_neg (show ¬ (false = true) by decide)] at H; exact H
                  clear H
                  have H := H1
                  clear H1
                  have H' := Aside0.mk H
                  clear H
                  have hcz15_0 : wc.cell? ⟨gb351, 0, none⟩ = some (.int .i64 ((rd_T71 l0 x16_1).f0)) := (blk_cell BK351.out 0).trans rfl
                  have hcz15_1 : wc.cell? ⟨gb351, 1, none⟩ = some (.int .i64 ((rd_T71 l0 x16_1).f1)) := (blk_cell BK351.out 1).trans rfl
                  have hcz15_2 : wc.cell? ⟨gb351, 2, none⟩ = some (.int .i64 ((rd_T71 l0 x16_1).f2)) := (blk_cell BK351.out 2).trans rfl
                  have hcz15_3 : wc.cell? ⟨gb351, 3, none⟩ = some (.int .i64 ((rd_T71 l0 x16_1).f3)) := (blk_cell BK351.out 3).trans rfl
                  have hcz15_4 : wc.cell? ⟨gb351, 4, none⟩ = some (.int .i64 ((rd_T71 l0 x16_1).f4)) := (blk_cell BK351.out 4).trans rfl
                  have hcz15_5 : wc.cell? ⟨gb351, 5, none⟩ = some (.int .i64 ((rd_T71 l0 x16_1).f5)) := (blk_cell BK351.out 5).trans rfl
                  have hcz15_6 : wc.cell? ⟨gb351, 6, none⟩ = some (.string ((rd_T71 l0 x16_1).f6)) := (blk_cell BK351.out 6).trans rfl
                  have hcz15_7 : wc.cell? ⟨gb351, 7, none⟩ = some (.string ((rd_T71 l0 x16_1).f7)) := (blk_cell BK351.out 7).trans rfl
                  have hcz15_8 : wc.cell? ⟨gb351, 8, none⟩ = some (.slice A350_8 ((rd_T71 l0 x16_1).f8).length c350_8) := (blk_cell BK351.out 8).trans rfl
                  have hcz15_9 : wc.cell? ⟨gb351, 9, none⟩ = some (.int .u64 ((rd_T71 l0 x16_1).f9)) := (blk_cell BK351.out 9).trans rfl
                  have hfz15_0 := blk_frozen BK351.out 0
                  have hfz15_1 := blk_frozen BK351.out 1
                  have hfz15_2 := blk_frozen BK351.out 2
                  have hfz15_3 := blk_frozen BK351.out 3
                  have hfz15_4 := blk_frozen BK351.out 4
                  have hfz15_5 := blk_frozen BK351.out 5
                  have hfz15_6 := blk_frozen BK351.out 6
                  have hfz15_7 := blk_frozen BK351.out 7
                  have hfz15_8 := blk_frozen BK351.out 8
                  have hfz15_9 := blk_frozen BK351.out 9
                  go_wp2
                  go_loopg [9, 33] kj7 (fun kq v9 v33 w' => ∃ (x9_3 : List (S40)) (x33_3 : Int), v33 = .int .i64 x33_3 ∧ Aside0 (reconcile_Items.l1 kq a1 a2 a3 x9_3 l0 (l0.length : Int) x16_1 ((rd_T71 l0 x16_1).f8) (((rd_T71 l0 x16_1).f8).length : Int) x33_3 ((rd_T71 l0 x16_1).f0) ((rd_T71 l0 x16_1).f1) ((rd_T71 l0 x16_1).f2) ((rd_T71 l0 x16_1).f3) ((rd_T71 l0 x16_1).f4) ((rd_T71 l0 x16_1).f5) ((rd_T71 l0 x16_1).f6) ((rd_T71 l0 x16_1).f7) ((rd_T71 l0 x16_1).f8) ((rd_T71 l0 x16_1).f9) = some r) ∧ Aside0 (kq ≤ kj7) ∧ Aside0 (Kd.R k40 40 w' w.heap.size (fun _ => True) v9 x9_3) ∧ Aside0 (w'.heap[gb351]? = some (.cells #[.int .i64 ((rd_T71 l0 x16_1).f0), .int .i64 ((rd_T71 l0 x16_1).f1), .int .i64 ((rd_T71 l0 x16_1).f2), .int .i64 ((rd_T71 l0 x16_1).f3), .int .i64 ((rd_T71 l0 x16_1).f4), .int .i64 ((rd_T71 l0 x16_1).f5), .string ((rd_T71 l0 x16_1).f6), .string ((rd_T71 l0 x16_1).f7), (.slice A350_8 ((rd_T71 l0 x16_1).f8).length c350_8), .int .u64 ((rd_T71 l0 x16_1).f9)] 71 (0, 0))) ∧ Aside0 (Below w.heap.size w w'))
                  case atStart => exact ⟨(x9_1), (0), (by first | rfl | (simp; done) | (simp [*]; done)), H', ⟨Nat.le_refl _⟩, ⟨by (with_reducible repeat (first | apply Kd.R_alloc | apply Kd.R_drewN | apply Kd.R_drew)); exact HO_9.out⟩, ⟨by (with_reducible repeat (first | refine blk_drewN ?_ _ | refine blk_drew ?_ | refine blk_alloc ?_ _)); exact BK351.out⟩, ⟨bE⟩⟩
                  case round =>
                    clear H'
                    try clear c1
                    try clear c2
                    try clear p2
                    try clear c3
                    try clear p3
                    try clear q3
                    try clear hx3
                    try clear c5
                    try clear c5b0
                    try clear c6
                    try clear c6b0
                    try clear p6
                    try clear c7
                    try clear c7b0
                    try clear c11
                    try clear c11b0
                    try clear c14
                    try clear hcz10_0
                    try clear hcz10_1
                    try clear hcz10_2
                    try clear hcz10_3
                    try clear hcz10_4
                    try clear hcz10_5
                    try clear hcz10_6
                    try clear hcz10_7
                    try clear hcz10_8
                    try clear hcz10_9
                    try clear hcz12_0
                    try clear hcz12_1
                    try clear hcz12_2
                    try clear hcz12_3
                    try clear hcz12_4
                    try clear hcz12_5
                    try clear hcz12_6
                    try clear hcz12_7
                    try clear hcz12_8
                    try clear hcz12_9
                    try clear hcz13_0
                    try clear hcz13_1
                    try clear hcz13_2
                    try clear hcz13_3
                    try clear hcz13_4
                    try clear hcz13_5
                    try clear hcz13_6
                    try clear hcz13_7
                    try clear hcz13_8
                    try clear hcz13_9
                    try clear hcz15_0
                    try clear hcz15_1
                    try clear hcz15_2
                    try clear hcz15_3
                    try clear hcz15_4
                    try clear hcz15_5
                    try clear hcz15_6
                    try clear hcz15_7
                    try clear hcz15_8
                    try clear hcz15_9
                    try clear hfz10_0
                    try clear hfz10_1
                    try clear hfz10_2
                    try clear hfz10_3
                    try clear hfz10_4
                    try clear hfz10_5
                    try clear hfz10_6
                    try clear hfz10_7
                    try clear hfz10_8
                    try clear hfz10_9
                    try clear hfz12_0
                    try clear hfz12_1
                    try clear hfz12_2
                    try clear hfz12_3
                    try clear hfz12_4
                    try clear hfz12_5
                    try clear hfz12_6
                    try clear hfz12_7
                    try clear hfz12_8
                    try clear hfz12_9
                    try clear hfz13_0
                    try clear hfz13_1
                    try clear hfz13_2
                    try clear hfz13_3
                    try clear hfz13_4
                    try clear hfz13_5
                    try clear hfz13_6
                    try clear hfz13_7
                    try clear hfz13_8
                    try clear hfz13_9
                    try clear hfz15_0
                    try clear hfz15_1
                    try clear hfz15_2
                    try clear hfz15_3
                    try clear hfz15_4
                    try clear hfz15_5
                    try clear hfz15_6
                    try clear hfz15_7
                    try clear hfz15_8
                    try clear hfz15_9
                    try clear hx350_0
                    try clear hx350_1
                    try clear hx350_2
                    try clear hx350_3
                    try clear hx350_4
                    try clear hx350_5
                    try clear hx350_6
                    try clear hx350_7
                    try clear hx350_8
                    try clear hx350_9
                    try clear p2
                    try clear p3
                    try clear p350
                    try clear q3
                    try clear q350
                    obtain ⟨x9_3, x33_3, rfl, HA, HK3, HO_9, BK351, HB⟩ := hrel
                    cases gk with
                    | zero => exact absurd HA.out (by simp [reconcile_Items.l1])
                    | succ k3 =>
                      have H := HA.out
                      clear HA
                      simp only [reconcile_Items.l1] at H
                      by_cases c16 : x33_3 < (((rd_T71 l0 x16_1).f8).length : Int)
                      · rw [if_pos c16] at H
                        have c16b0 : decide (x33_3 < (((rd_T71 l0 x16_1).f8).length : Int)) = true := decide_eq_true c16
                        clear c16
                        by_cases c17 : 0 ≤ x33_3
                        · rw [if_pos c17] at H
                          have c17b0 : decide (0 ≤ x33_3) = true := decide_eq_true c17
                          clear c17
                          by_cases c18 : x33_3 < (((rd_T71 l0 x16_1).f8).length : Int)
                          · rw [if_pos c18] at H
                            have c18b0 : decide (x33_3 < (((rd_T71 l0 x16_1).f8).length : Int)) = true := decide_eq_true c18
                            clear c18
                            by_cases c19 : ((rd_T73 ((rd_T71 l0 x16_1).f8) x33_3).f0) = a1
                            · rw [if_pos c19] at H
                              have c19b0 : (((rd_T73 ((rd_T71 l0 x16_1).f8) x33_3).f0) == a1) = true := beq_iff_eq.mpr c19
                              have c19b1 : (((rd_T73 ((rd_T71 l0 x16_1).f8) x33_3).f0) != a1) = false := bne_eq_false_iff_eq.mpr c19
                              clear c19
                              by_cases c20 : x9_3.length < 4398046511104
                              · rw [if_pos c20] at H
                                have LMc20 := Aside0.mk c20
                                clear c20
                                obtain ⟨y354, hy354⟩ : ∃ y_ : List (S40), y_ = (x9_3 ++ [(⟨((rd_T71 l0 x16_1).f6), ((rd_T71 l0 x16_1).f2), wrap64 (-((rd_T73 ((rd_T71 l0 x16_1).f8) x33_3).f1))⟩ : S40)]) := ⟨_, rfl⟩
                                replace H : (reconcile_Items.l1 k3 a1 a2 a3 y354 l0 (l0.length : Int) x16_1 ((rd_T71 l0 x16_1).f8) (((rd_T71 l0 x16_1).f8).length : Int) (wrap64 (x33_3 + 1)) ((rd_T71 l0 x16_1).f0) ((rd_T71 l0 x16_1).f1) ((rd_T71 l0 x16_1).f2) ((rd_T71 l0 x16_1).f3) ((rd_T71 l0 x16_1).f4) ((rd_T71 l0 x16_1).f5) ((rd_T71 l0 x16_1).f6) ((rd_T71 l0 x16_1).f7) ((rd_T71 l0 x16_1).f8) ((rd_T71 l0 x16_1).f9)) = some r := by first | (rw [hy354]; with_reducible exact H) | (have H2_ := (Option.bind_some _ _).symm.trans H; rw [hy354]; with_reducible exact H2_) | (have H2_ := (Option.bind_some _ _).symm.trans H; with_reducible exact H2_) | with_reducible exact H | (rw [hy354]; exact H) | exact H
                                have Ny354 := Aside0.mk hy354
                                clear hy354
                                have H' := Aside0.mk H
                                clear H
                                have p352 : 0 ≤ (x33_3 : Int) := of_decide_eq_true (by first | (with_reducible assumption) | assumption)
                                have q352 : x33_3 < (((rd_T71 l0 x16_1).f8).length : Int) := of_decide_eq_true (by first | (with_reducible assumption) | assumption)
                                obtain ⟨ad352, e352, hx352_0, hx352_1, hx352_2⟩ := at_T73 HR350_8.out x33_3 p352 q352
                                cases e352
                                replace hx352_0 := (HB.out.cell (World.block_lt_of_cell? w _ hx352_0)).trans hx352_0
                                replace hx352_1 := (HB.out.cell (World.block_lt_of_cell? w _ hx352_1)).trans hx352_1
                                replace hx352_2 := (HB.out.cell (World.block_lt_of_cell? w _ hx352_2)).trans hx352_2
                                replace p352 := eq_true p352
                                replace q352 := eq_true q352
                                go_wp2_with (first | ((with_reducible refine gate_dst (N := 13) rfl ?_); refine box_event ?hg (N := 13) ?hd (cs := #[.int .i64 0, .int .i64 0, .string (⟨#[]⟩ : ByteArray)]) (t := 73) ?hr ?_; (case hd => rfl); (case hg => rfl); (case hr => first | (go_simp; done) | (go_simp; rfl)); intro gb353 hg w21 hbox hb; have n0_ := Aside0.mk (Kd.R_below (by (with_reducible repeat (first | apply Kd.R_alloc | apply Kd.R_drewN | apply Kd.R_drew)); exact HO_9.out) hb); have n1_ := Aside0.mk (bK BK351 hb); have nn_ := bT hb hg; have n2_ := Aside0.mk nn_.1; have n3_ := Aside0.mk (hbox); have n4_ := Aside0.mk nn_.2; clear nn_; have n5_ := n4_; have n6_ := Aside0.mk ((by rw [hg]; exact Nat.ne_of_lt (blk_lt (g := gb351) (o := .cells #[.int .i64 ((rd_T71 l0 x16_1).f0), .int .i64 ((rd_T71 l0 x16_1).f1), .int .i64 ((rd_T71 l0 x16_1).f2), .int .i64 ((rd_T71 l0 x16_1).f3), .int .i64 ((rd_T71 l0 x16_1).f4), .int .i64 ((rd_T71 l0 x16_1).f5), .string ((rd_T71 l0 x16_1).f6), .string ((rd_T71 l0 x16_1).f7), .slice (some ad352) ((rd_T71 l0 x16_1).f8).length c350_8, .int .u64 ((rd_T71 l0 x16_1).f9)] 71 (0, 0)) (by (with_reducible repeat (first | refine blk_drewN ?_ _ | refine blk_drew ?_ | refine blk_alloc ?_ _)); exact BK351.out)) : gb351 ≠ gb353)); have n7_ := Aside0.mk ((by rw [hg]; exact Nat.ne_of_gt (blk_lt (g := gb351) (o := .cells #[.int .i64 ((rd_T71 l0 x16_1).f0), .int .i64 ((rd_T71 l0 x16_1).f1), .int .i64 ((rd_T71 l0 x16_1).f2), .int .i64 ((rd_T71 l0 x16_1).f3), .int .i64 ((rd_T71 l0 x16_1).f4), .int .i64 ((rd_T71 l0 x16_1).f5), .string ((rd_T71 l0 x16_1).f6), .string ((rd_T71 l0 x16_1).f7), .slice (some ad352) ((rd_T71 l0 x16_1).f8).length c350_8, .int .u64 ((rd_T71 l0 x16_1).f9)] 71 (0, 0)) (by (with_reducible repeat (first | refine blk_drewN ?_ _ | refine blk_drew ?_ | refine blk_alloc ?_ _)); exact BK351.out)) : gb353 ≠ gb351)); clear HO_9; clear BK351; clear HB; have HO_9 := n0_; have BK351 := n1_; have HB := n2_; have BK353 := n3_; have GW353 := n4_; have GE353 := n5_; have NB351_353 := n6_; have NB353_351 := n7_; clear n0_ n1_ n2_ n3_ n4_ n5_ n6_ n7_; clear hb hbox hg; have hnb22 := NB353_351.out; have hnc22 := NB351_353.out; have hcz23_0 : w21.cell? ⟨gb353, 0, none⟩ = some (.int .i64 0) := (blk_cell BK353.out 0).trans rfl; have hcz23_1 : w21.cell? ⟨gb353, 1, none⟩ = some (.int .i64 0) := (blk_cell BK353.out 1).trans rfl; have hcz23_2 : w21.cell? ⟨gb353, 2, none⟩ = some (.string (⟨#[]⟩ : ByteArray)) := (blk_cell BK353.out 2).trans rfl; have hfz23_0 := blk_frozen BK353.out 0; have hfz23_1 := blk_frozen BK353.out 1; have hfz23_2 := blk_frozen BK353.out 2; have hcz24_0 : w21.cell? ⟨gb351, 0, none⟩ = some (.int .i64 ((rd_T71 l0 x16_1).f0)) := (blk_cell BK351.out 0).trans rfl; have hcz24_1 : w21.cell? ⟨gb351, 1, none⟩ = some (.int .i64 ((rd_T71 l0 x16_1).f1)) := (blk_cell BK351.out 1).trans rfl; have hcz24_2 : w21.cell? ⟨gb351, 2, none⟩ = some (.int .i64 ((rd_T71 l0 x16_1).f2)) := (blk_cell BK351.out 2).trans rfl; have hcz24_3 : w21.cell? ⟨gb351, 3, none⟩ = some (.int .i64 ((rd_T71 l0 x16_1).f3)) := (blk_cell BK351.out 3).trans rfl; have hcz24_4 : w21.cell? ⟨gb351, 4, none⟩ = some (.int .i64 ((rd_T71 l0 x16_1).f4)) := (blk_cell BK351.out 4).trans rfl; have hcz24_5 : w21.cell? ⟨gb351, 5, none⟩ = some (.int .i64 ((rd_T71 l0 x16_1).f5)) := (blk_cell BK351.out 5).trans rfl; have hcz24_6 : w21.cell? ⟨gb351, 6, none⟩ = some (.string ((rd_T71 l0 x16_1).f6)) := (blk_cell BK351.out 6).trans rfl; have hcz24_7 : w21.cell? ⟨gb351, 7, none⟩ = some (.string ((rd_T71 l0 x16_1).f7)) := (blk_cell BK351.out 7).trans rfl; have hcz24_8 : w21.cell? ⟨gb351, 8, none⟩ = some (.slice (some ad352) ((rd_T71 l0 x16_1).f8).length c350_8) := (blk_cell BK351.out 8).trans rfl; have hcz24_9 : w21.cell? ⟨gb351, 9, none⟩ = some (.int .u64 ((rd_T71 l0 x16_1).f9)) := (blk_cell BK351.out 9).trans rfl; have hfz24_0 := blk_frozen BK351.out 0; have hfz24_1 := blk_frozen BK351.out 1; have hfz24_2 := blk_frozen BK351.out 2; have hfz24_3 := blk_frozen BK351.out 3; have hfz24_4 := blk_frozen BK351.out 4; have hfz24_5 := blk_frozen BK351.out 5; have hfz24_6 := blk_frozen BK351.out 6; have hfz24_7 := blk_frozen BK351.out 7; have hfz24_8 := blk_frozen BK351.out 8; have hfz24_9 := blk_frozen BK351.out 9) | ((with_reducible refine gate_builtin (b := .append) (xs := #[.tmp 41, .tmp 50]) rfl ?_); at_builtin; refine Kd.R_append k40 (w0 := w) w.heap.size rfl (.tmp 41) (.tmp 50) 22 40 (.agg #[(.string ⟨#[]⟩), (.int .i64 0), (.int .i64 0)]) 32 rfl Try.underlying22 info40 rfl (by decide) (by omega) u9 x9_3 (⟨((rd_T71 l0 x16_1).f6), ((rd_T71 l0 x16_1).f2), wrap64 (-((rd_T73 ((rd_T71 l0 x16_1).f8) x33_3).f1))⟩ : S40) [.string ((rd_T71 l0 x16_1).f6), .int .i64 ((rd_T71 l0 x16_1).f2), .int .i64 (wrap64 (-((rd_T73 ((rd_T71 l0 x16_1).f8) x33_3).f1)))] (fun _ => True) (fun _ => False) rfl (by first | (go_simp; done) | (go_simp; rfl)) ?aP (fun _ hk => hk.elim) ?aF ?aO ?aB ?aS ?aL ?_; (case aP => exact k40_mkM _ _ _ (⟨((rd_T71 l0 x16_1).f6), ((rd_T71 l0 x16_1).f2), wrap64 (-((rd_T73 ((rd_T71 l0 x16_1).f8) x33_3).f1))⟩ : S40)); (case aB => exact (bE)); (case aF => exact (fun _ _ => trivial)); (case aO => exact (by (with_reducible repeat (first | apply Kd.R_alloc | apply Kd.R_drewN | apply Kd.R_drew)); exact Kd.R_mono (Kd.R_far (p := ⟨gb353, 2, none⟩) (Kd.R_far (p := ⟨gb353, 1, none⟩) (Kd.R_far (p := ⟨gb353, 0, none⟩) (Kd.R_types HO_9.out BK353.out (by decide)) (fun _ hk => hk.2) (.int .i64 ((rd_T73 ((rd_T71 l0 x16_1).f8) x33_3).f0))) (fun _ hk => hk.2) (.int .i64 ((rd_T73 ((rd_T71 l0 x16_1).f8) x33_3).f1))) (fun _ hk => hk.2) (.string ((rd_T73 ((rd_T71 l0 x16_1).f8) x33_3).f2))) (fun _ hk => trivial))); (case aS => exact (below_size (bE))); (case aL => have := LMc20.out; omega); intro v355 w25 ho hb hg hat; rw [← Ny354.out] at ho; have n0_ := Aside0.mk (blk_grown (g := gb351) (o := .cells #[.int .i64 ((rd_T71 l0 x16_1).f0), .int .i64 ((rd_T71 l0 x16_1).f1), .int .i64 ((rd_T71 l0 x16_1).f2), .int .i64 ((rd_T71 l0 x16_1).f3), .int .i64 ((rd_T71 l0 x16_1).f4), .int .i64 ((rd_T71 l0 x16_1).f5), .string ((rd_T71 l0 x16_1).f6), .string ((rd_T71 l0 x16_1).f7), .slice (some ad352) ((rd_T71 l0 x16_1).f8).length c350_8, .int .u64 ((rd_T71 l0 x16_1).f9)] 71 (0, 0)) (by (with_reducible repeat (first | refine blk_drewN ?_ _ | refine blk_drew ?_ | refine blk_alloc ?_ _)); refine blk_far ?_ NB351_353.out _; (with_reducible repeat (first | refine blk_drewN ?_ _ | refine blk_drew ?_ | refine blk_alloc ?_ _)); refine blk_far ?_ NB351_353.out _; (with_reducible repeat (first | refine blk_drewN ?_ _ | refine blk_drew ?_ | refine blk_alloc ?_ _)); refine blk_far ?_ NB351_353.out _; (with_reducible repeat (first | refine blk_drewN ?_ _ | refine blk_drew ?_ | refine blk_alloc ?_ _)); exact BK351.out) hg (Kd.R_ne HO_9.out BK351.out (by decide))); have n1_ := Aside0.mk (blk_grown (g := gb353) (o := .cells #[.int .i64 ((rd_T73 ((rd_T71 l0 x16_1).f8) x33_3).f0), .int .i64 ((rd_T73 ((rd_T71 l0 x16_1).f8) x33_3).f1), .string ((rd_T73 ((rd_T71 l0 x16_1).f8) x33_3).f2)] 73 (0, 0)) (by (with_reducible repeat (first | refine blk_drewN ?_ _ | refine blk_drew ?_ | refine blk_alloc ?_ _)); refine blk_put (cs := #[.int .i64 ((rd_T73 ((rd_T71 l0 x16_1).f8) x33_3).f0), .int .i64 ((rd_T73 ((rd_T71 l0 x16_1).f8) x33_3).f1), .string (⟨#[]⟩ : ByteArray)]) ?_ 2 _ rfl; (with_reducible repeat (first | refine blk_drewN ?_ _ | refine blk_drew ?_ | refine blk_alloc ?_ _)); refine blk_put (cs := #[.int .i64 ((rd_T73 ((rd_T71 l0 x16_1).f8) x33_3).f0), .int .i64 0, .string (⟨#[]⟩ : ByteArray)]) ?_ 1 _ rfl; (with_reducible repeat (first | refine blk_drewN ?_ _ | refine blk_drew ?_ | refine blk_alloc ?_ _)); refine blk_put (cs := #[.int .i64 0, .int .i64 0, .string (⟨#[]⟩ : ByteArray)]) ?_ 0 _ rfl; (with_reducible repeat (first | refine blk_drewN ?_ _ | refine blk_drew ?_ | refine blk_alloc ?_ _)); exact BK353.out) hg (Kd.R_ne HO_9.out BK353.out (by decide))); have n2_ := Aside0.mk (hb); have n3_ := Aside0.mk (ho); clear BK351; clear BK353; clear HB; clear HO_9; have BK351 := n0_; have BK353 := n1_; have HB := n2_; have HO356 := n3_; clear n0_ n1_ n2_ n3_; clear ho hb hg hat))
                                go_roundg k3
                                case measure => have := HK1.out; have := HJ7.out; have := HK3.out; omega
                                case rel => exact ⟨(y354), (wrap64 (x33_3 + 1)), (by first | rfl | (simp; done) | (simp [*]; done)), H', ⟨by have := HK1.out; have := HJ7.out; have := HK3.out; omega⟩, ⟨by (with_reducible repeat (first | apply Kd.R_alloc | apply Kd.R_drewN | apply Kd.R_drew)); exact HO356.out⟩, ⟨by (with_reducible repeat (first | refine blk_drewN ?_ _ | refine blk_drew ?_ | refine blk_alloc ?_ _)); exact BK351.out⟩, ⟨bE⟩⟩
                              · rw [if_neg c20] at H
                                exact absurd H (by simp)
                            · rw [if_neg c19] at H
                              have c19b0 : (((rd_T73 ((rd_T71 l0 x16_1).f8) x33_3).f0) == a1) = false := beq_eq_false_iff_ne.mpr c19
                              have c19b1 : (((rd_T73 ((rd_T71 l0 x16_1).f8) x33_3).f0) != a1) = true := bne_iff_ne.mpr c19
                              have H' := Aside0.mk H
                              clear H
                              have p352 : 0 ≤ (x33_3 : Int) := of_decide_eq_true (by first | (with_reducible assumption) | assumption)
                              have q352 : x33_3 < (((rd_T71 l0 x16_1).f8).length : Int) := of_decide_eq_true (by first | (with_reducible assumption) | assumption)
                              obtain ⟨ad352, e352, hx352_0, hx352_1, hx352_2⟩ := at_T73 HR350_8.out x33_3 p352 q352
                              cases e352
                              replace hx352_0 := (HB.out.cell (World.block_lt_of_cell? w _ hx352_0)).trans hx352_0
                              replace hx352_1 := (HB.out.cell (World.block_lt_of_cell? w _ hx352_1)).trans hx352_1
                              replace hx352_2 := (HB.out.cell (World.block_lt_of_cell? w _ hx352_2)).trans hx352_2
                              replace p352 := eq_true p352
                              replace q352 := eq_true q352
                              go_wp2_with (first | ((with_reducible refine gate_dst (N := 13) rfl ?_); refine box_event ?hg (N := 13) ?hd (cs := #[.int .i64 0, .int .i64 0, .string (⟨#[]⟩ : ByteArray)]) (t := 73) ?hr ?_; (case hd => rfl); (case hg => rfl); (case hr => first | (go_simp; done) | (go_simp; rfl)); intro gb353 hg w26 hbox hb; have n0_ := Aside0.mk (Kd.R_below (by (with_reducible repeat (first | apply Kd.R_alloc | apply Kd.R_drewN | apply Kd.R_drew)); exact HO_9.out) hb); have n1_ := Aside0.mk (bK BK351 hb); have nn_ := bT hb hg; have n2_ := Aside0.mk nn_.1; have n3_ := Aside0.mk (hbox); have n4_ := Aside0.mk nn_.2; clear nn_; have n5_ := n4_; have n6_ := Aside0.mk ((by rw [hg]; exact Nat.ne_of_lt (blk_lt (g := gb351) (o := .cells #[.int .i64 ((rd_T71 l0 x16_1).f0), .int .i64 ((rd_T71 l0 x16_1).f1), .int .i64 ((rd_T71 l0 x16_1).f2), .int .i64 ((rd_T71 l0 x16_1).f3), .int .i64 ((rd_T71 l0 x16_1).f4), .int .i64 ((rd_T71 l0 x16_1).f5), .string ((rd_T71 l0 x16_1).f6), .string ((rd_T71 l0 x16_1).f7), .slice (some ad352) ((rd_T71 l0 x16_1).f8).length c350_8, .int .u64 ((rd_T71 l0 x16_1).f9)] 71 (0, 0)) (by (with_reducible repeat (first | refine blk_drewN ?_ _ | refine blk_drew ?_ | refine blk_alloc ?_ _)); exact BK351.out)) : gb351 ≠ gb353)); have n7_ := Aside0.mk ((by rw [hg]; exact Nat.ne_of_gt (blk_lt (g := gb351) (o := .cells #[.int .i64 ((rd_T71 l0 x16_1).f0), .int .i64 ((rd_T71 l0 x16_1).f1), .int .i64 ((rd_T71 l0 x16_1).f2), .int .i64 ((rd_T71 l0 x16_1).f3), .int .i64 ((rd_T71 l0 x16_1).f4), .int .i64 ((rd_T71 l0 x16_1).f5), .string ((rd_T71 l0 x16_1).f6), .string ((rd_T71 l0 x16_1).f7), .slice (some ad352) ((rd_T71 l0 x16_1).f8).length c350_8, .int .u64 ((rd_T71 l0 x16_1).f9)] 71 (0, 0)) (by (with_reducible repeat (first | refine blk_drewN ?_ _ | refine blk_drew ?_ | refine blk_alloc ?_ _)); exact BK351.out)) : gb353 ≠ gb351)); clear HO_9; clear BK351; clear HB; have HO_9 := n0_; have BK351 := n1_; have HB := n2_; have BK353 := n3_; have GW353 := n4_; have GE353 := n5_; have NB351_353 := n6_; have NB353_351 := n7_; clear n0_ n1_ n2_ n3_ n4_ n5_ n6_ n7_; clear hb hbox hg; have hnb27 := NB353_351.out; have hnc27 := NB351_353.out; have hcz28_0 : w26.cell? ⟨gb353, 0, none⟩ = some (.int .i64 0) := (blk_cell BK353.out 0).trans rfl; have hcz28_1 : w26.cell? ⟨gb353, 1, none⟩ = some (.int .i64 0) := (blk_cell BK353.out 1).trans rfl; have hcz28_2 : w26.cell? ⟨gb353, 2, none⟩ = some (.string (⟨#[]⟩ : ByteArray)) := (blk_cell BK353.out 2).trans rfl; have hfz28_0 := blk_frozen BK353.out 0; have hfz28_1 := blk_frozen BK353.out 1; have hfz28_2 := blk_frozen BK353.out 2))
                              go_roundg k3
                              case measure => have := HK1.out; have := HJ7.out; have := HK3.out; omega
                              case rel => exact ⟨(x9_3), (wrap64 (x33_3 + 1)), (by first | rfl | (simp; done) | (simp [*]; done)), H', ⟨by have := HK1.out; have := HJ7.out; have := HK3.out; omega⟩, ⟨by (with_reducible repeat (first | apply Kd.R_alloc | apply Kd.R_drewN | apply Kd.R_drew)); exact Kd.R_mono (Kd.R_far (p := ⟨gb353, 2, none⟩) (Kd.R_far (p := ⟨gb353, 1, none⟩) (Kd.R_far (p := ⟨gb353, 0, none⟩) (Kd.R_types HO_9.out BK353.out (by decide)) (fun _ hk => hk.2) (.int .i64 ((rd_T73 ((rd_T71 l0 x16_1).f8) x33_3).f0))) (fun _ hk => hk.2) (.int .i64 ((rd_T73 ((rd_T71 l0 x16_1).f8) x33_3).f1))) (fun _ hk => hk.2) (.string ((rd_T73 ((rd_T71 l0 x16_1).f8) x33_3).f2))) (fun _ hk => trivial)⟩, ⟨by (with_reducible repeat (first | refine blk_drewN ?_ _ | refine blk_drew ?_ | refine blk_alloc ?_ _)); refine blk_far ?_ NB351_353.out _; (with_reducible repeat (first | refine blk_drewN ?_ _ | refine blk_drew ?_ | refine blk_alloc ?_ _)); refine blk_far ?_ NB351_353.out _; (with_reducible repeat (first | refine blk_drewN ?_ _ | refine blk_drew ?_ | refine blk_alloc ?_ _)); refine blk_far ?_ NB351_353.out _; (with_reducible repeat (first | refine blk_drewN ?_ _ | refine blk_drew ?_ | refine blk_alloc ?_ _)); exact BK351.out⟩, ⟨bE⟩⟩
                          · rw [if_neg c18] at H
                            exact absurd H (by simp)
                        · rw [if_neg c17] at H
                          exact absurd H (by simp)
                      · rw [if_neg c16] at H
                        have c16b0 : decide (x33_3 < (((rd_T71 l0 x16_1).f8).length : Int)) = false := decide_eq_false c16
                        clear c16
                        have H' := Aside0.mk H
                        clear H
                        go_wp2
                        go_roundg k3
                        case measure => have := HK1.out; have := HJ7.out; have := HK3.out; omega
                        case rel => exact ⟨(x9_3), (wrap64 (x16_1 + 1)), (by first | rfl | (simp; done) | (simp [*]; done)), H', ⟨by have := HK1.out; have := HJ7.out; have := HK3.out; omega⟩, ⟨by (with_reducible repeat (first | apply Kd.R_alloc | apply Kd.R_drewN | apply Kd.R_drew)); exact HO_9.out⟩, ⟨bE⟩⟩
          · rw [if_neg c7] at H
            exact absurd H (by simp)
        · rw [if_neg c6] at H
          exact absurd H (by simp)
      · rw [if_neg c5] at H
        have c5b0 : decide (x16_1 < (l0.length : Int)) = false := decide_eq_false c5
        clear c5
        obtain rfl := Option.some.inj H
        go_wp2
        go_ret
        exact ⟨_, by first | rfl | (simp [errW_none, errW_some] <;> rfl) | (simp [*, errW_none, errW_some] <;> rfl), by (with_reducible repeat (first | apply Kd.R_alloc | apply Kd.R_drewN | apply Kd.R_drew)); exact HO_9.out, bE⟩

end Go.Proofs.Ytdieblejeeojhaa.PA
