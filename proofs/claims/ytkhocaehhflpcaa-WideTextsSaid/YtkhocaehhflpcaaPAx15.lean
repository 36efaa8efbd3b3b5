/- Contracts of the Go functions and their plain Lean functions, written by a program of this session out of the translation. -/
import Derived.Test.YtkhocaehhflpcaaPAx0
import Derived.Test.YtkhocaehhflpcaaPAx7
import Derived.Test.YtkhocaehhflpcaaPAx8
import Derived.Test.YtkhocaehhflpcaaPAx14
namespace Go.Proofs.Ytkhocaehhflpcaa.PA
open Go.RowKit Go.Proofs.YtkhocaehhflpcaaW.PrintWords Go.Proofs.YtkhocaehhflpcaaW.PrintLast Go.Proofs.YtkhocaehhflpcaaW.PrintMore
attribute [local go_sem] max2_int min2_int max_two min_two max_three min_three max_four min_four   -- for this text's walks alone
set_option linter.unusedVariables false
set_option linter.unusedSimpArgs false

/-! ### corebankref01_Parse: function 14 -/
def corebankref01_Parse.l0 : Nat → ByteArray → Bool → Bool → Int → Int → Int → Option (Int × Int × Int)
  | 0, _, _, _, _, _, _ => none
  | k + 1, x0, x4, x6, x7, x290000, x290001 => if x7 < (x0.size : Int) then (if 0 ≤ x7 then (if (bt x0 x7) = 45 then (corebankref01_Parse.l0 k x0 x4 x6 (wrap64 (x7 + 1)) x290000 x290001) else ((corebankref01_times.f k x290000 x290001 10).bind fun bt294 => (if x6 = true then ((corebankref01_plus.f bt294.1 bt294.2.1 0 (((bt x0 x7) - 48) % 256)).bind fun bt298 => (if bt294.2.2 = true then (corebankref01_Parse.l0 k x0 x4 bt298.2.2 (wrap64 (x7 + 1)) bt298.1 bt298.2.1) else (corebankref01_Parse.l0 k x0 x4 false (wrap64 (x7 + 1)) bt298.1 bt298.2.1))) else ((corebankref01_plus.f bt294.1 bt294.2.1 0 (((bt x0 x7) - 48) % 256)).bind fun bt301 => (corebankref01_Parse.l0 k x0 x4 false (wrap64 (x7 + 1)) bt301.1 bt301.2.1))))) else (none)) else ((corebankref01_Join.f x4 x290000 x290001).bind fun bt290 => (if x6 = true then (if bt290.2.2 = true then (some (bt290.1, bt290.2.1, 0)) else (some (0, 0, 6))) else (some (0, 0, 6))))
def corebankref01_Parse.f (k : Nat) (a0 : ByteArray) : Option (Int × Int × Int) := (corebankref01_Decimal.f k a0).bind fun t288 => (if t288 = true then (if 0 < (a0.size : Int) then (corebankref01_Parse.l0 k a0 ((bt a0 0) == 45) true 0 0 0) else (none)) else (some (0, 0, 2)))
theorem corebankref01_Parse.mono_l : ∀ k, (∀ y0 y1 y2 y3 y4 y5, LeO (corebankref01_Parse.l0 k y0 y1 y2 y3 y4 y5) (corebankref01_Parse.l0 (k + 1) y0 y1 y2 y3 y4 y5))
  | 0 => fun _ _ _ _ _ _ r h => by simp [corebankref01_Parse.l0] at h
  | k + 1 => by
    have ih0 := corebankref01_Parse.mono_l k
    · intro y0 y1 y2 y3 y4 y5
      unfold corebankref01_Parse.l0
      repeat' first
      | (with_reducible exact ih0 _ _ _ _ _ _)
      | (with_reducible exact corebankref01_Decimal.mono _ _)
      | (with_reducible exact corebankref01_times.mono _ _ _ _)
      | (with_reducible exact LeO.refl _)
      | (with_reducible exact LeO.none _)
      | (with_reducible refine LeO.ite ?_ ?_)
      | (with_reducible refine LeO.bind ?_ (fun _ => ?_))
      | exact ih0 _ _ _ _ _ _
      | exact corebankref01_Decimal.mono _ _
      | exact corebankref01_times.mono _ _ _ _
      | exact LeO.none _
      | refine LeO.ite ?_ ?_
      | refine LeO.bind ?_ (fun _ => ?_)
theorem corebankref01_Parse.mono : ∀ a0 k, LeO (corebankref01_Parse.f k a0) (corebankref01_Parse.f (k + 1) a0) := by
  intro a0 k
  have ih0 := corebankref01_Parse.mono_l k
  unfold corebankref01_Parse.f
  repeat' first
      | (with_reducible exact ih0 _ _ _ _ _ _)
      | (with_reducible exact corebankref01_Decimal.mono _ _)
      | (with_reducible exact corebankref01_times.mono _ _ _ _)
      | (with_reducible exact LeO.refl _)
      | (with_reducible exact LeO.none _)
      | (with_reducible refine LeO.ite ?_ ?_)
      | (with_reducible refine LeO.bind ?_ (fun _ => ?_))
      | exact ih0 _ _ _ _ _ _
      | exact corebankref01_Decimal.mono _ _
      | exact corebankref01_times.mono _ _ _ _
      | exact LeO.none _
      | refine LeO.ite ?_ ?_
      | refine LeO.bind ?_ (fun _ => ?_)
def corebankref01_Parse.T12 : Bool × List (List Nat × List Nat) := (true, [([], []), ([], []), ([], []), ([1, 2], [1, 2]), ([3], [3]), ([4], [4]), ([5], [5]), ([0, 6], [0, 6]), ([7], [7]), ([8], [8]), ([8], [8]), ([9, 7, 0, 1, 2, 3, 4, 5, 6, 7, 8, 9], [9]), ([10, 11, 0, 1, 2, 3, 4, 5, 6, 7, 8, 9, 10, 11], [10])])
def corebankref01_Parse.B12 : List Nat := [0, 0, 0, 6, 14, 30, 62, 127, 255, 511, 511, 1023, 4095]
theorem corebankref01_Parse.tab12 : rtab .any (opsOf Try.f14 12) = corebankref01_Parse.T12 := by kernel_rfl
theorem corebankref01_Parse.bits12 : waitsOk corebankref01_Parse.T12.2 corebankref01_Parse.B12 = true := by kernel_rfl
set_option maxHeartbeats 8000000 in
set_option maxRecDepth 100000 in
theorem corebankref01_Parse.calls (k : Nat) (a0 : ByteArray) (r1 : Int) (r2 : Int) (r3 : Int) (w : World) (h : corebankref01_Parse.f k a0 = some (r1, r2, r3)) :
    Calls Try.prog 14 #[.string a0] w fun e w' => e = .returned (.tuple #[.agg #[.int .i64 r1, .int .u64 r2], .int .i64 r3]) ∧ Below w.heap.size w w' := by
  have hu24 := Try.underlying24
  have hu53 := Try.underlying53
  have HB := Aside0.mk (Below.refl w.heap.size w)
  have H : ((corebankref01_Decimal.f k a0).bind fun t288 => (if t288 = true then (if 0 < (a0.size : Int) then (corebankref01_Parse.l0 k a0 ((bt a0 0) == 45) true 0 0 0) else (none)) else (some (0, 0, 2)))) = some (r1, r2, r3) := h
  clear h
  replace H := Option.bind_eq_some_iff.mp H
  obtain ⟨t288, A20, H⟩ := H
  replace H : (if t288 = true then (if 0 < (a0.size : Int) then (corebankref01_Parse.l0 k a0 ((bt a0 0) == 45) true 0 0 0) else (none)) else (some (0, 0, 2))) = some (r1, r2, r3) := H
  have A2 := Aside0.mk A20
  clear A20
  by_cases c3 : t288 = true
  · subst c3
    have H1 : (if 0 < (a0.size : Int) then (corebankref01_Parse.l0 k a0 ((bt a0 0) == 45) true 0 0 0) else (none)) = some (r1, r2, r3) := by rw [if_pos rfl] at H; exact H
    clear H
    have H := H1
    clear H1
    by_cases c4 : 0 < (a0.size : Int)
    · rw [if_pos c4] at H
      have c4b0 : decide (0 < (a0.size : Int)) = true := decide_eq_true c4
      have c4b1 : decide (0 < a0.size) = true := decide_eq_true (by omega)
      clear c4
      have H' := Aside0.mk H
      clear H
      go_enter Try.func14, Try.ntmps14
      go_wp2_with (first | ((with_reducible refine gate_dst (N := 2) rfl ?_); refine box_event ?hg (N := 2) ?hd (cs := #[.int .i64 0, .int .u64 0]) (t := 24) ?hr ?_; (case hd => rfl); (case hg => rfl); (case hr => first | (go_simp; done) | (go_simp; rfl)); intro gb287 hg w6 hbox hb; have nn_ := bT hb hg; have BK287 := Aside0.mk (hbox); have GW287 := Aside0.mk nn_.2; have GE287 := GW287; replace HB := Aside0.mk nn_.1; clear nn_; clear hb hbox hg) | ((with_reducible refine gate_callee (f := 39) rfl ?_); refine goesL_ (some 13) rfl rfl Try.func39 (by kernel_rfl) rfl #[.string a0] rfl aG ?_; (with_reducible refine (corebankref01_Decimal.calls k a0 true _ A2.out).mono ?_); rintro e w' ⟨rfl, ⟨nd, rfl⟩⟩; refine ⟨_, rfl, ?_⟩; have p5 : 0 ≤ (0 : Int) := (by omega); have q5 : 0 < a0.size := (by have : (0 : Int) < (a0.size : Int) := of_decide_eq_true (by first | (with_reducible assumption) | assumption); omega); have hx5 : ∀ h : 0 < a0.size, ((a0[0]'h).toNat : Int) = bt a0 0 := bt_at a0 0; clear p5; have qi5 : (0 < (a0.size : Int)) = True := eq_true (of_decide_eq_true (by first | (with_reducible assumption) | assumption)); replace q5 := eq_true q5) | ((with_reducible refine gate_dst (N := 5) rfl ?_); refine box_event ?hg (N := 5) ?hd (cs := #[.int .u64 0, .int .u64 0]) (t := 53) ?hr ?_; (case hd => rfl); (case hg => rfl); (case hr => first | (go_simp; done) | (go_simp; rfl)); intro gb289 hg w7 hbox hb; have nn_ := bT hb hg; have bgb287_ := bN BK287 hb hg; have BK289 := Aside0.mk (hbox); have GW289 := Aside0.mk nn_.2; have GE289 := GW289; have NB287_289 := Aside0.mk bgb287_.2.1; have NB289_287 := Aside0.mk bgb287_.2.2; replace BK287 := Aside0.mk bgb287_.1; replace HB := Aside0.mk nn_.1; clear nn_ bgb287_; clear hb hbox hg; have hnb8 := NB289_287.out; have hnc8 := NB287_289.out; have hcz9_0 : w7.cell? ⟨gb289, 0, none⟩ = some (.int .u64 0) := (blk_cell BK289.out 0).trans rfl; have hcz9_1 : w7.cell? ⟨gb289, 1, none⟩ = some (.int .u64 0) := (blk_cell BK289.out 1).trans rfl; have hfz9_0 := blk_frozen BK289.out 0; have hfz9_1 := blk_frozen BK289.out 1))
      go_loopg [6, 7] k (fun kq v6 v7 w' => ∃ (x6_1 : Bool) (x7_1 : Int) (x290000_1 : Int) (x290001_1 : Int), v6 = .bool x6_1 ∧ v7 = .int .i64 x7_1 ∧ Aside0 (corebankref01_Parse.l0 kq a0 ((bt a0 0) == 45) x6_1 x7_1 x290000_1 x290001_1 = some (r1, r2, r3)) ∧ Aside0 (kq ≤ k) ∧ Aside0 (w'.heap[gb287]? = some (.cells #[.int .i64 0, .int .u64 0] 24 (0, 0))) ∧ Aside0 (w'.heap[gb289]? = some (.cells #[.int .u64 x290000_1, .int .u64 x290001_1] 53 (0, 0))) ∧ Aside0 (Below w.heap.size w w'))
      case atStart => exact ⟨(true), (0), (0), (0), (by first | rfl | (simp; done) | (simp [*]; done)), (by first | rfl | (simp; done) | (simp [*]; done)), H', ⟨Nat.le_refl _⟩, ⟨by (with_reducible repeat (first | refine blk_drewN ?_ _ | refine blk_drew ?_ | refine blk_alloc ?_ _)); refine blk_far ?_ NB287_289.out _; (with_reducible repeat (first | refine blk_drewN ?_ _ | refine blk_drew ?_ | refine blk_alloc ?_ _)); refine blk_far ?_ NB287_289.out _; (with_reducible repeat (first | refine blk_drewN ?_ _ | refine blk_drew ?_ | refine blk_alloc ?_ _)); exact BK287.out⟩, ⟨by (with_reducible repeat (first | refine blk_drewN ?_ _ | refine blk_drew ?_ | refine blk_alloc ?_ _)); refine blk_put (cs := #[.int .u64 0, .int .u64 0]) ?_ 1 _ rfl; (with_reducible repeat (first | refine blk_drewN ?_ _ | refine blk_drew ?_ | refine blk_alloc ?_ _)); refine blk_put (cs := #[.int .u64 0, .int .u64 0]) ?_ 0 _ rfl; (with_reducible repeat (first | refine blk_drewN ?_ _ | refine blk_drew ?_ | refine blk_alloc ?_ _)); exact BK289.out⟩, ⟨bE⟩⟩
      case round =>
        clear H'
        try clear c1
        try clear p2
        try clear c3
        try clear c4
        try clear c4b0
        try clear c4b1
        try clear p5
        try clear q5
        try clear hx5
        try clear qi5
        try clear c8
        try clear hcz9_0
        try clear hcz9_1
        try clear hfz9_0
        try clear hfz9_1
        try clear p5
        try clear q5
        obtain ⟨x6_1, x7_1, x290000_1, x290001_1, rfl, rfl, HA, HK1, BK287, BK289, HB⟩ := hrel
        cases gk with
        | zero => exact absurd HA.out (by simp [corebankref01_Parse.l0])
        | succ k1 =>
          have H := HA.out
          clear HA
          simp only [corebankref01_Parse.l0] at H
          by_cases c10 : x7_1 < (a0.size : Int)
          · rw [if_pos c10] at H
            have c10b0 : decide (x7_1 < (a0.size : Int)) = true := decide_eq_true c10
            clear c10
            by_cases c11 : 0 ≤ x7_1
            · rw [if_pos c11] at H
              have c11b0 : decide (0 ≤ x7_1) = true := decide_eq_true c11
              clear c11
              by_cases c13 : (bt a0 x7_1) = 45
              · rw [if_pos c13] at H
                have c13b0 : ((bt a0 x7_1) == 45) = true := beq_iff_eq.mpr c13
                have c13b1 : ((bt a0 x7_1) != 45) = false := bne_eq_false_iff_eq.mpr c13
                clear c13
                have H' := Aside0.mk H
                clear H
                have p12 : 0 ≤ (x7_1 : Int) := of_decide_eq_true (by first | (with_reducible assumption) | assumption)
                have q12 : x7_1 < (a0.size : Int) := of_decide_eq_true (by first | (with_reducible assumption) | assumption)
                have hx12 := bt_at a0 x7_1
                replace p12 := eq_true p12
                replace q12 := eq_true q12
                go_wp2
                go_roundg k1
                case measure => have := HK1.out; omega
                case rel => exact ⟨(x6_1), (wrap64 (x7_1 + 1)), (x290000_1), (x290001_1), (by first | rfl | (simp; done) | (simp [*]; done)), (by first | rfl | (simp; done) | (simp [*]; done)), H', ⟨by have := HK1.out; omega⟩, ⟨by (with_reducible repeat (first | refine blk_drewN ?_ _ | refine blk_drew ?_ | refine blk_alloc ?_ _)); exact BK287.out⟩, ⟨by (with_reducible repeat (first | refine blk_drewN ?_ _ | refine blk_drew ?_ | refine blk_alloc ?_ _)); exact BK289.out⟩, ⟨bE⟩⟩
              · rw [if_neg c13] at H
                have c13b0 : ((bt a0 x7_1) == 45) = false := beq_eq_false_iff_ne.mpr c13
                have c13b1 : ((bt a0 x7_1) != 45) = true := bne_iff_ne.mpr c13
                replace H := Option.bind_eq_some_iff.mp H
                obtain ⟨⟨t294, t295, t296⟩, A140, H⟩ := H
                replace H : (if x6_1 = true then ((corebankref01_plus.f t294 t295 0 (((bt a0 x7_1) - 48) % 256)).bind fun bt298 => (if t296 = true then (corebankref01_Parse.l0 k1 a0 ((bt a0 0) == 45) bt298.2.2 (wrap64 (x7_1 + 1)) bt298.1 bt298.2.1) else (corebankref01_Parse.l0 k1 a0 ((bt a0 0) == 45) false (wrap64 (x7_1 + 1)) bt298.1 bt298.2.1))) else ((corebankref01_plus.f t294 t295 0 (((bt a0 x7_1) - 48) % 256)).bind fun bt301 => (corebankref01_Parse.l0 k1 a0 ((bt a0 0) == 45) false (wrap64 (x7_1 + 1)) bt301.1 bt301.2.1))) = some (r1, r2, r3) := H
                have A14 := Aside0.mk A140
                clear A140
                by_cases c15 : x6_1 = true
                · subst c15
                  have H1 : ((corebankref01_plus.f t294 t295 0 (((bt a0 x7_1) - 48) % 256)).bind fun bt298 => (if t296 = true then (corebankref01_Parse.l0 k1 a0 ((bt a0 0) == 45) bt298.2.2 (wrap64 (x7_1 + 1)) bt298.1 bt298.2.1) else (corebankref01_Parse.l0 k1 a0 ((bt a0 0) == 45) false (wrap64 (x7_1 + 1)) bt298.1 bt298.2.1))) = some (r1, r2, r3) := by rw [if_pos rfl] at H; exact H
                  clear H
                  have H := H1
                  clear H1
                  replace H := Option.bind_eq_some_iff.mp H
                  obtain ⟨⟨t298, t299, t300⟩, A170, H⟩ := H
                  replace H : (if t296 = true then (corebankref01_Parse.l0 k1 a0 ((bt a0 0) == 45) t300 (wrap64 (x7_1 + 1)) t298 t299) else (corebankref01_Parse.l0 k1 a0 ((bt a0 0) == 45) false (wrap64 (x7_1 + 1)) t298 t299)) = some (r1, r2, r3) := H
                  have A17 := Aside0.mk A170
                  clear A170
                  by_cases c18 : t296 = true
                  · subst c18
                    have H1 : (corebankref01_Parse.l0 k1 a0 ((bt a0 0) == 45) t300 (wrap64 (x7_1 + 1)) t298 t299) = some (r1, r2, r3) := by rw [if_pos rfl] at H; exact H
                    clear H
                    have H := H1
                    clear H1
                    have H' := Aside0.mk H
                    clear H
                    have p12 : 0 ≤ (x7_1 : Int) := of_decide_eq_true (by first | (with_reducible assumption) | assumption)
                    have q12 : x7_1 < (a0.size : Int) := of_decide_eq_true (by first | (with_reducible assumption) | assumption)
                    have hx12 := bt_at a0 x7_1
                    replace p12 := eq_true p12
                    replace q12 := eq_true q12
                    have hnb19 := NB289_287.out
                    have hnc19 := NB287_289.out
                    have hcz20_0 : wr.cell? ⟨gb289, 0, none⟩ = some (.int .u64 x290000_1) := (blk_cell BK289.out 0).trans rfl
                    have hcz20_1 : wr.cell? ⟨gb289, 1, none⟩ = some (.int .u64 x290001_1) := (blk_cell BK289.out 1).trans rfl
                    have hfz20_0 := blk_frozen BK289.out 0
                    have hfz20_1 := blk_frozen BK289.out 1
                    try go_wp2_with (first | ((with_reducible refine gate_callee (f := 40) rfl ?_); refine goesL_ (some 32) rfl rfl Try.func40 (by kernel_rfl) rfl #[.agg #[.int .u64 x290000_1, .int .u64 x290001_1], .int .u64 10] rfl aG ?_; (with_reducible refine (corebankref01_times.calls k1 x290000_1 x290001_1 10 t294 t295 true _ A14.out).mono ?_); rintro e w21 ⟨rfl, hb⟩; refine ⟨_, rfl, ?_⟩; replace BK287 := Aside0.mk (bK BK287 hb); replace BK289 := Aside0.mk (bK BK289 hb); replace HB := Aside0.mk (bS hb); (try clear hb); (try clear hb2); (try clear hk); (try clear hi)) | ((with_reducible refine gate_dst (N := 8) rfl ?_); refine box_event ?hg (N := 8) ?hd (cs := #[.int .u64 0, .int .u64 0]) (t := 53) ?hr ?_; (case hd => rfl); (case hg => rfl); (case hr => first | (go_simp; done) | (go_simp; rfl)); intro gb297 hg w22 hbox hb; have nn_ := bT hb hg; have bgb287_ := bN BK287 hb hg; have bgb289_ := bN BK289 hb hg; have BK297 := Aside0.mk (hbox); have GW297 := Aside0.mk nn_.2; have GE297 := GW297; have NB287_297 := Aside0.mk bgb287_.2.1; have NB297_287 := Aside0.mk bgb287_.2.2; have NB289_297 := Aside0.mk bgb289_.2.1; have NB297_289 := Aside0.mk bgb289_.2.2; replace BK287 := Aside0.mk bgb287_.1; replace BK289 := Aside0.mk bgb289_.1; replace HB := Aside0.mk nn_.1; clear nn_ bgb287_ bgb289_; clear hb hbox hg; have hnb23 := NB297_287.out; have hnc23 := NB287_297.out; have hnb24 := NB297_289.out; have hnc24 := NB289_297.out; have hcz25_0 : w22.cell? ⟨gb297, 0, none⟩ = some (.int .u64 0) := (blk_cell BK297.out 0).trans rfl; have hcz25_1 : w22.cell? ⟨gb297, 1, none⟩ = some (.int .u64 0) := (blk_cell BK297.out 1).trans rfl; have hfz25_0 := blk_frozen BK297.out 0; have hfz25_1 := blk_frozen BK297.out 1))
                    have n0_ : Aside0 (((w22.setCell ⟨gb297, 0, none⟩ (.int .u64 t294)).setCell ⟨gb297, 1, none⟩ (.int .u64 t295)).heap[gb287]? = some (.cells #[.int .i64 0, .int .u64 0] 24 (0, 0))) := ⟨by (with_reducible repeat (first | refine blk_drewN ?_ _ | refine blk_drew ?_ | refine blk_alloc ?_ _)); refine blk_far ?_ NB287_297.out _; (with_reducible repeat (first | refine blk_drewN ?_ _ | refine blk_drew ?_ | refine blk_alloc ?_ _)); refine blk_far ?_ NB287_297.out _; (with_reducible repeat (first | refine blk_drewN ?_ _ | refine blk_drew ?_ | refine blk_alloc ?_ _)); exact BK287.out⟩
                    have n1_ : Aside0 (((w22.setCell ⟨gb297, 0, none⟩ (.int .u64 t294)).setCell ⟨gb297, 1, none⟩ (.int .u64 t295)).heap[gb289]? = some (.cells #[.int .u64 x290000_1, .int .u64 x290001_1] 53 (0, 0))) := ⟨by (with_reducible repeat (first | refine blk_drewN ?_ _ | refine blk_drew ?_ | refine blk_alloc ?_ _)); refine blk_far ?_ NB289_297.out _; (with_reducible repeat (first | refine blk_drewN ?_ _ | refine blk_drew ?_ | refine blk_alloc ?_ _)); refine blk_far ?_ NB289_297.out _; (with_reducible repeat (first | refine blk_drewN ?_ _ | refine blk_drew ?_ | refine blk_alloc ?_ _)); exact BK289.out⟩
                    have n2_ : Aside0 (((w22.setCell ⟨gb297, 0, none⟩ (.int .u64 t294)).setCell ⟨gb297, 1, none⟩ (.int .u64 t295)).heap[gb297]? = some (.cells #[.int .u64 t294, .int .u64 t295] 53 (0, 0))) := ⟨by (with_reducible repeat (first | refine blk_drewN ?_ _ | refine blk_drew ?_ | refine blk_alloc ?_ _)); refine blk_put (cs := #[.int .u64 t294, .int .u64 0]) ?_ 1 _ rfl; (with_reducible repeat (first | refine blk_drewN ?_ _ | refine blk_drew ?_ | refine blk_alloc ?_ _)); refine blk_put (cs := #[.int .u64 0, .int .u64 0]) ?_ 0 _ rfl; (with_reducible repeat (first | refine blk_drewN ?_ _ | refine blk_drew ?_ | refine blk_alloc ?_ _)); exact BK297.out⟩
                    have n3_ : Aside0 (Below w.heap.size w ((w22.setCell ⟨gb297, 0, none⟩ (.int .u64 t294)).setCell ⟨gb297, 1, none⟩ (.int .u64 t295))) := ⟨bE⟩
                    (try clear BK287)
                    (try clear BK289)
                    (try clear BK297)
                    (try clear HB)
                    generalize ((w22.setCell ⟨gb297, 0, none⟩ (.int .u64 t294)).setCell ⟨gb297, 1, none⟩ (.int .u64 t295)) = w26 at n0_ n1_ n2_ n3_ ⊢
                    have BK287 := n0_
                    have BK289 := n1_
                    have BK297 := n2_
                    have HB := n3_
                    clear n0_ n1_ n2_ n3_
                    have n0_ := Aside0.mk (blk_drew BK287.out)
                    have n1_ := Aside0.mk (blk_drew BK289.out)
                    have n2_ := Aside0.mk (blk_drew BK297.out)
                    have n3_ := Aside0.mk (below_drew1 HB.out)
                    clear BK287
                    clear BK289
                    clear BK297
                    clear HB
                    have BK287 := n0_
                    have BK289 := n1_
                    have BK297 := n2_
                    have HB := n3_
                    clear n0_ n1_ n2_ n3_
                    have p16 : 0 ≤ (x7_1 : Int) := of_decide_eq_true (by first | (with_reducible assumption) | assumption)
                    have q16 : x7_1 < (a0.size : Int) := of_decide_eq_true (by first | (with_reducible assumption) | assumption)
                    have hx16 := bt_at a0 x7_1
                    replace p16 := eq_true p16
                    replace q16 := eq_true q16
                    refine start_ (n := 13) (S := fun w' => w'.cell? ⟨gb297, 0, none⟩ = some (.int .u64 t294) ∧ w'.cell? ⟨gb297, 1, none⟩ = some (.int .u64 t295)) (ds := [11]) #[false, false, false, false, false, false, false, false, false, false, false, false, false] (by kernel_rfl) rfl rfl ⟨(blk_cell BK297.out 0).trans rfl, (blk_cell BK297.out 1).trans rfl⟩ (fun hHeld => ?_); refine with_tabW corebankref01_Parse.tab12 corebankref01_Parse.bits12 (fun HT_ HW_ => ?_)
                    generalize w26.drew = w27 at BK287 BK289 BK297 HB hHeld ⊢
                    refine pure_ (i := 1) (N := some 41) (v := ?_) (a' := ?_) #[false, true, false, false, false, false, false, false, false, false, false, false, false] rfl rfl (any_of HT_.out (by kernel_rfl)) (fun _ _ _ h => h) (Or.inl ⟨by rfl, ?_⟩) ?_ ?_
                    rotate_left
                    · intro w'
                      go_simp
                      with_reducible rfl
                    rotate_left
                    · simp only [Act.put, List.setIfInBounds_toArray, List.set_cons_zero, List.set_cons_succ, i64_w, i32_w]
                      rfl
                    refine pure_ (i := 2) (N := some 42) (v := ?_) (a' := ?_) #[false, true, true, false, false, false, false, false, false, false, false, false, false] rfl rfl (any_of HT_.out (by kernel_rfl)) (fun _ _ _ h => h) (Or.inl ⟨by rfl, ?_⟩) ?_ ?_
                    rotate_left
                    · intro w'
                      go_simp
                      with_reducible rfl
                    rotate_left
                    · simp only [Act.put, List.setIfInBounds_toArray, List.set_cons_zero, List.set_cons_succ, i64_w, i32_w]
                      rfl
                    refine take_ (i := 0) (N := some 40) (v := ?_) (a' := ?_) #[true, true, true, false, false, false, false, false, false, false, false, false, false] rfl rfl (take_ofW HT_.out HW_.out (by kernel_rfl)) (fun _ _ _ h => h) (Or.inl ⟨by rfl, ?_⟩) hHeld ?_ ?_
                    rotate_left
                    · rintro w' ⟨s0, s1⟩
                      go_simp
                      with_reducible rfl
                    rotate_left
                    · simp only [Act.put, List.setIfInBounds_toArray, List.set_cons_zero, List.set_cons_succ, i64_w, i32_w]
                      rfl
                    refine take_ (i := 3) (N := some 43) (v := ?_) (a' := ?_) #[true, true, true, true, false, false, false, false, false, false, false, false, false] rfl rfl (take_ofW HT_.out HW_.out (by kernel_rfl)) (fun _ _ _ h => h) (Or.inl ⟨by rfl, ?_⟩) hHeld ?_ ?_
                    rotate_left
                    · rintro w' ⟨s0, s1⟩
                      go_simp
                      with_reducible rfl
                    rotate_left
                    · simp only [Act.put, List.setIfInBounds_toArray, List.set_cons_zero, List.set_cons_succ, i64_w, i32_w]
                      rfl
                    refine pure_ (i := 4) (N := some 44) (v := ?_) (a' := ?_) #[true, true, true, true, true, false, false, false, false, false, false, false, false] rfl rfl (any_of HT_.out (by kernel_rfl)) (fun _ _ _ h => h) (Or.inl ⟨by rfl, ?_⟩) ?_ ?_
                    rotate_left
                    · intro w'
                      go_simp
                      with_reducible rfl
                    rotate_left
                    · simp only [Act.put, List.setIfInBounds_toArray, List.set_cons_zero, List.set_cons_succ, i64_w, i32_w]
                      rfl
                    refine pure_ (i := 5) (N := some 45) (v := ?_) (a' := ?_) #[true, true, true, true, true, true, false, false, false, false, false, false, false] rfl rfl (any_of HT_.out (by kernel_rfl)) (fun _ _ _ h => h) (Or.inl ⟨by rfl, ?_⟩) ?_ ?_
                    rotate_left
                    · intro w'
                      go_simp
                      with_reducible rfl
                    rotate_left
                    · simp only [Act.put, List.setIfInBounds_toArray, List.set_cons_zero, List.set_cons_succ, i64_w, i32_w]
                      rfl
                    refine pure_ (i := 6) (N := some 46) (v := ?_) (a' := ?_) #[true, true, true, true, true, true, true, false, false, false, false, false, false] rfl rfl (any_of HT_.out (by kernel_rfl)) (fun _ _ _ h => h) (Or.inl ⟨by rfl, ?_⟩) ?_ ?_
                    rotate_left
                    · intro w'
                      go_simp
                      with_reducible rfl
                    rotate_left
                    · simp only [Act.put, List.setIfInBounds_toArray, List.set_cons_zero, List.set_cons_succ, i64_w, i32_w]
                      rfl
                    refine one_ (i := 7) (N := some 47) #[true, true, true, true, true, true, true, true, false, false, false, false, false] rfl rfl (one_of HT_.out (by kernel_rfl)) (by decide) (fun K hK => ?_)
                    refine goes_ Try.func37 (by kernel_rfl) rfl #[.agg #[.int .u64 t294, .int .u64 t295], .agg #[.int .u64 0, .int .u64 (((bt a0 x7_1) - 48) % 256)]] (by rfl) rfl rfl aG ?_
                    with_reducible refine (corebankref01_plus.calls t294 t295 0 (((bt a0 x7_1) - 48) % 256) t298 t299 t300 _ A17.out).mono ?_
                    rintro e w28 ⟨rfl, hb⟩
                    refine ⟨_, rfl, ?_⟩
                    have n0_ := Aside0.mk (bK BK287 hb)
                    have n1_ := Aside0.mk (bK BK289 hb)
                    have n2_ := Aside0.mk (bK BK297 hb)
                    have n3_ := Aside0.mk (bS hb)
                    clear BK287
                    clear BK289
                    clear BK297
                    clear HB
                    have BK287 := n0_
                    have BK289 := n1_
                    have BK297 := n2_
                    have HB := n3_
                    clear n0_ n1_ n2_ n3_
                    (try clear hb)
                    (try clear hb2)
                    (try clear hk)
                    (try clear hi)
                    refine hK.out _ _ ⟨(blk_cell BK297.out 0).trans rfl, (blk_cell BK297.out 1).trans rfl⟩ (fun hHeld => ?_)
                    clear hK K
                    refine norm_ (a' := ?_) ?_ ?_
                    rotate_left
                    · show Act.put _ (some 47) _ = _
                      simp only [Act.put, List.setIfInBounds_toArray, List.set_cons_zero, List.set_cons_succ, i64_w, i32_w]
                      rfl
                    refine pure_ (i := 8) (N := some 39) (v := ?_) (a' := ?_) #[true, true, true, true, true, true, true, true, true, false, false, false, false] rfl rfl (any_of HT_.out (by kernel_rfl)) (fun _ _ _ h => h) (Or.inl ⟨by rfl, ?_⟩) ?_ ?_
                    rotate_left
                    · intro w'
                      go_simp
                      with_reducible rfl
                    rotate_left
                    · simp only [Act.put, List.setIfInBounds_toArray, List.set_cons_zero, List.set_cons_succ, i64_w, i32_w]
                      rfl
                    refine pure_ (i := 9) (N := some 48) (v := ?_) (a' := ?_) #[true, true, true, true, true, true, true, true, true, true, false, false, false] rfl rfl (any_of HT_.out (by kernel_rfl)) (fun _ _ _ h => h) (Or.inl ⟨by rfl, ?_⟩) ?_ ?_
                    rotate_left
                    · intro w'
                      go_simp
                      with_reducible rfl
                    rotate_left
                    · simp only [Act.put, List.setIfInBounds_toArray, List.set_cons_zero, List.set_cons_succ, i64_w, i32_w]
                      rfl
                    refine pure_ (i := 10) (N := some 49) (v := ?_) (a' := ?_) #[true, true, true, true, true, true, true, true, true, true, true, false, false] rfl rfl (any_of HT_.out (by kernel_rfl)) (fun _ _ _ h => h) (Or.inl ⟨by rfl, ?_⟩) ?_ ?_
                    rotate_left
                    · intro w'
                      go_simp
                      with_reducible rfl
                    rotate_left
                    · simp only [Act.put, List.setIfInBounds_toArray, List.set_cons_zero, List.set_cons_succ, i64_w, i32_w]
                      rfl
                    refine last_ (i := 11) (N := none) #[true, true, true, true, true, true, true, true, true, true, true, true, false] rfl rfl (one_of HT_.out (by kernel_rfl)) (by decide) (fun K hK => ?_)
                    have hs29 : w28.cell? ⟨gb297, 0, none⟩ = some (.int .u64 t294) := (blk_cell BK297.out 0).trans rfl
                    have hfs29 := blk_frozen BK297.out 0
                    have hns29_0 := NB287_297.out
                    have hns29_1 := NB289_297.out
                    have hms29_0 := NB297_287.out
                    have hms29_1 := NB297_289.out
                    have hs30 : w28.cell? ⟨gb297, 1, none⟩ = some (.int .u64 t295) := (blk_cell BK297.out 1).trans rfl
                    have hfs30 := blk_frozen BK297.out 1
                    have hns30_0 := NB287_297.out
                    have hns30_1 := NB289_297.out
                    have hms30_0 := NB297_287.out
                    have hms30_1 := NB297_289.out
                    refine skip_ (w1 := ?_) (by rfl) rfl ?_ ?_
                    rotate_left
                    · go_simp
                      rfl
                    refine hK.out _ _ ?_
                    clear hK K
                    refine pure_ (i := 12) (N := some 9) (v := ?_) (a' := ?_) #[true, true, true, true, true, true, true, true, true, true, true, true, true] rfl rfl (any_of HT_.out (by kernel_rfl)) (fun _ _ _ h => h) (Or.inl ⟨by rfl, ?_⟩) ?_ ?_
                    rotate_left
                    · intro w'
                      go_simp
                      with_reducible rfl
                    rotate_left
                    · simp only [Act.put, List.setIfInBounds_toArray, List.set_cons_zero, List.set_cons_succ, i64_w, i32_w]
                      rfl
                    refine done_ (done_of HT_.out (by kernel_rfl)) ?_
                    have hcz31_0 : w28.cell? ⟨gb297, 0, none⟩ = some (.int .u64 t294) := (blk_cell BK297.out 0).trans rfl
                    have hcz31_1 : w28.cell? ⟨gb297, 1, none⟩ = some (.int .u64 t295) := (blk_cell BK297.out 1).trans rfl
                    have hfz31_0 := blk_frozen BK297.out 0
                    have hfz31_1 := blk_frozen BK297.out 1
                    have hcz32_0 : w28.cell? ⟨gb289, 0, none⟩ = some (.int .u64 x290000_1) := (blk_cell BK289.out 0).trans rfl
                    have hcz32_1 : w28.cell? ⟨gb289, 1, none⟩ = some (.int .u64 x290001_1) := (blk_cell BK289.out 1).trans rfl
                    have hfz32_0 := blk_frozen BK289.out 0
                    have hfz32_1 := blk_frozen BK289.out 1
                    try go_wp2
                    go_roundg k1
                    case measure => have := HK1.out; omega
                    case rel => exact ⟨(t300), (wrap64 (x7_1 + 1)), (t298), (t299), (by first | rfl | (simp; done) | (simp [*]; done)), (by first | rfl | (simp; done) | (simp [*]; done)), H', ⟨by have := HK1.out; omega⟩, ⟨by (with_reducible repeat (first | refine blk_drewN ?_ _ | refine blk_drew ?_ | refine blk_alloc ?_ _)); refine blk_far ?_ NB287_289.out _; (with_reducible repeat (first | refine blk_drewN ?_ _ | refine blk_drew ?_ | refine blk_alloc ?_ _)); refine blk_far ?_ NB287_289.out _; (with_reducible repeat (first | refine blk_drewN ?_ _ | refine blk_drew ?_ | refine blk_alloc ?_ _)); refine blk_far ?_ NB287_297.out _; (with_reducible repeat (first | refine blk_drewN ?_ _ | refine blk_drew ?_ | refine blk_alloc ?_ _)); refine blk_far ?_ NB287_297.out _; (with_reducible repeat (first | refine blk_drewN ?_ _ | refine blk_drew ?_ | refine blk_alloc ?_ _)); exact BK287.out⟩, ⟨by (with_reducible repeat (first | refine blk_drewN ?_ _ | refine blk_drew ?_ | refine blk_alloc ?_ _)); refine blk_put (cs := #[.int .u64 t298, .int .u64 x290001_1]) ?_ 1 _ rfl; (with_reducible repeat (first | refine blk_drewN ?_ _ | refine blk_drew ?_ | refine blk_alloc ?_ _)); refine blk_put (cs := #[.int .u64 x290000_1, .int .u64 x290001_1]) ?_ 0 _ rfl; (with_reducible repeat (first | refine blk_drewN ?_ _ | refine blk_drew ?_ | refine blk_alloc ?_ _)); refine blk_far ?_ NB289_297.out _; (with_reducible repeat (first | refine blk_drewN ?_ _ | refine blk_drew ?_ | refine blk_alloc ?_ _)); refine blk_far ?_ NB289_297.out _; (with_reducible repeat (first | refine blk_drewN ?_ _ | refine blk_drew ?_ | refine blk_alloc ?_ _)); exact BK289.out⟩, ⟨bE⟩⟩
                  · replace c18 := Bool.eq_false_iff.mpr c18
                    subst c18
                    have H1 : (corebankref01_Parse.l0 k1 a0 ((bt a0 0) == 45) false (wrap64 (x7_1 + 1)) t298 t299) = some (r1, r2, r3) := by rw [if_neg (show ¬ (false = true) by decide)] at H; exact H
                    clear H
                    have H := H1
                    clear H1
                    have H' := Aside0.mk H
                    clear H
                    have p12 : 0 ≤ (x7_1 : Int) := of_decide_eq_true (by first | (with_reducible assumption) | assumption)
                    have q12 : x7_1 < (a0.size : Int) := of_decide_eq_true (by first | (with_reducible assumption) | assumption)
                    have hx12 := bt_at a0 x7_1
                    replace p12 := eq_true p12
                    replace q12 := eq_true q12
                    have hnb33 := NB289_287.out
                    have hnc33 := NB287_289.out
                    have hcz34_0 : wr.cell? ⟨gb289, 0, none⟩ = some (.int .u64 x290000_1) := (blk_cell BK289.out 0).trans rfl
                    have hcz34_1 : wr.cell? ⟨gb289, 1, none⟩ = some (.int .u64 x290001_1) := (blk_cell BK289.out 1).trans rfl
                    have hfz34_0 := blk_frozen BK289.out 0
                    have hfz34_1 := blk_frozen BK289.out 1
                    try go_wp2_with (first | ((with_reducible refine gate_callee (f := 40) rfl ?_); refine goesL_ (some 32) rfl rfl Try.func40 (by kernel_rfl) rfl #[.agg #[.int .u64 x290000_1, .int .u64 x290001_1], .int .u64 10] rfl aG ?_; (with_reducible refine (corebankref01_times.calls k1 x290000_1 x290001_1 10 t294 t295 false _ A14.out).mono ?_); rintro e w35 ⟨rfl, hb⟩; refine ⟨_, rfl, ?_⟩; replace BK287 := Aside0.mk (bK BK287 hb); replace BK289 := Aside0.mk (bK BK289 hb); replace HB := Aside0.mk (bS hb); (try clear hb); (try clear hb2); (try clear hk); (try clear hi)) | ((with_reducible refine gate_dst (N := 8) rfl ?_); refine box_event ?hg (N := 8) ?hd (cs := #[.int .u64 0, .int .u64 0]) (t := 53) ?hr ?_; (case hd => rfl); (case hg => rfl); (case hr => first | (go_simp; done) | (go_simp; rfl)); intro gb297 hg w36 hbox hb; have nn_ := bT hb hg; have bgb287_ := bN BK287 hb hg; have bgb289_ := bN BK289 hb hg; have BK297 := Aside0.mk (hbox); have GW297 := Aside0.mk nn_.2; have GE297 := GW297; have NB287_297 := Aside0.mk bgb287_.2.1; have NB297_287 := Aside0.mk bgb287_.2.2; have NB289_297 := Aside0.mk bgb289_.2.1; have NB297_289 := Aside0.mk bgb289_.2.2; replace BK287 := Aside0.mk bgb287_.1; replace BK289 := Aside0.mk bgb289_.1; replace HB := Aside0.mk nn_.1; clear nn_ bgb287_ bgb289_; clear hb hbox hg; have hnb37 := NB297_287.out; have hnc37 := NB287_297.out; have hnb38 := NB297_289.out; have hnc38 := NB289_297.out; have hcz39_0 : w36.cell? ⟨gb297, 0, none⟩ = some (.int .u64 0) := (blk_cell BK297.out 0).trans rfl; have hcz39_1 : w36.cell? ⟨gb297, 1, none⟩ = some (.int .u64 0) := (blk_cell BK297.out 1).trans rfl; have hfz39_0 := blk_frozen BK297.out 0; have hfz39_1 := blk_frozen BK297.out 1))
                    have n0_ : Aside0 (((w36.setCell ⟨gb297, 0, none⟩ (.int .u64 t294)).setCell ⟨gb297, 1, none⟩ (.int .u64 t295)).heap[gb287]? = some (.cells #[.int .i64 0, .int .u64 0] 24 (0, 0))) := ⟨by (with_reducible repeat (first | refine blk_drewN ?_ _ | refine blk_drew ?_ | refine blk_alloc ?_ _)); refine blk_far ?_ NB287_297.out _; (with_reducible repeat (first | refine blk_drewN ?_ _ | refine blk_drew ?_ | refine blk_alloc ?_ _)); refine blk_far ?_ NB287_297.out _; (with_reducible repeat (first | refine blk_drewN ?_ _ | refine blk_drew ?_ | refine blk_alloc ?_ _)); exact BK287.out⟩
                    have n1_ : Aside0 (((w36.setCell ⟨gb297, 0, none⟩ (.int .u64 t294)).setCell ⟨gb297, 1, none⟩ (.int .u64 t295)).heap[gb289]? = some (.cells #[.int .u64 x290000_1, .int .u64 x290001_1] 53 (0, 0))) := ⟨by (with_reducible repeat (first | refine blk_drewN ?_ _ | refine blk_drew ?_ | refine blk_alloc ?_ _)); refine blk_far ?_ NB289_297.out _; (with_reducible repeat (first | refine blk_drewN ?_ _ | refine blk_drew ?_ | refine blk_alloc ?_ _)); refine blk_far ?_ NB289_297.out _; (with_reducible repeat (first | refine blk_drewN ?_ _ | refine blk_drew ?_ | refine blk_alloc ?_ _)); exact BK289.out⟩
                    have n2_ : Aside0 (((w36.setCell ⟨gb297, 0, none⟩ (.int .u64 t294)).setCell ⟨gb297, 1, none⟩ (.int .u64 t295)).heap[gb297]? = some (.cells #[.int .u64 t294, .int .u64 t295] 53 (0, 0))) := ⟨by (with_reducible repeat (first | refine blk_drewN ?_ _ | refine blk_drew ?_ | refine blk_alloc ?_ _)); refine blk_put (cs := #[.int .u64 t294, .int .u64 0]) ?_ 1 _ rfl; (with_reducible repeat (first | refine blk_drewN ?_ _ | refine blk_drew ?_ | refine blk_alloc ?_ _)); refine blk_put (cs := #[.int .u64 0, .int .u64 0]) ?_ 0 _ rfl; (with_reducible repeat (first | refine blk_drewN ?_ _ | refine blk_drew ?_ | refine blk_alloc ?_ _)); exact BK297.out⟩
                    have n3_ : Aside0 (Below w.heap.size w ((w36.setCell ⟨gb297, 0, none⟩ (.int .u64 t294)).setCell ⟨gb297, 1, none⟩ (.int .u64 t295))) := ⟨bE⟩
                    (try clear BK287)
                    (try clear BK289)
                    (try clear BK297)
                    (try clear HB)
                    generalize ((w36.setCell ⟨gb297, 0, none⟩ (.int .u64 t294)).setCell ⟨gb297, 1, none⟩ (.int .u64 t295)) = w40 at n0_ n1_ n2_ n3_ ⊢
                    have BK287 := n0_
                    have BK289 := n1_
                    have BK297 := n2_
                    have HB := n3_
                    clear n0_ n1_ n2_ n3_
                    have n0_ := Aside0.mk (blk_drew BK287.out)
                    have n1_ := Aside0.mk (blk_drew BK289.out)
                    have n2_ := Aside0.mk (blk_drew BK297.out)
                    have n3_ := Aside0.mk (below_drew1 HB.out)
                    clear BK287
                    clear BK289
                    clear BK297
                    clear HB
                    have BK287 := n0_
                    have BK289 := n1_
                    have BK297 := n2_
                    have HB := n3_
                    clear n0_ n1_ n2_ n3_
                    have p16 : 0 ≤ (x7_1 : Int) := of_decide_eq_true (by first | (with_reducible assumption) | assumption)
                    have q16 : x7_1 < (a0.size : Int) := of_decide_eq_true (by first | (with_reducible assumption) | assumption)
                    have hx16 := bt_at a0 x7_1
                    replace p16 := eq_true p16
                    replace q16 := eq_true q16
                    refine start_ (n := 13) (S := fun w' => w'.cell? ⟨gb297, 0, none⟩ = some (.int .u64 t294) ∧ w'.cell? ⟨gb297, 1, none⟩ = some (.int .u64 t295)) (ds := [11]) #[false, false, false, false, false, false, false, false, false, false, false, false, false] (by kernel_rfl) rfl rfl ⟨(blk_cell BK297.out 0).trans rfl, (blk_cell BK297.out 1).trans rfl⟩ (fun hHeld => ?_); refine with_tabW corebankref01_Parse.tab12 corebankref01_Parse.bits12 (fun HT_ HW_ => ?_)
                    generalize w40.drew = w41 at BK287 BK289 BK297 HB hHeld ⊢
                    refine pure_ (i := 1) (N := some 41) (v := ?_) (a' := ?_) #[false, true, false, false, false, false, false, false, false, false, false, false, false] rfl rfl (any_of HT_.out (by kernel_rfl)) (fun _ _ _ h => h) (Or.inl ⟨by rfl, ?_⟩) ?_ ?_
                    rotate_left
                    · intro w'
                      go_simp
                      with_reducible rfl
                    rotate_left
                    · simp only [Act.put, List.setIfInBounds_toArray, List.set_cons_zero, List.set_cons_succ, i64_w, i32_w]
                      rfl
                    refine pure_ (i := 2) (N := some 42) (v := ?_) (a' := ?_) #[false, true, true, false, false, false, false, false, false, false, false, false, false] rfl rfl (any_of HT_.out (by kernel_rfl)) (fun _ _ _ h => h) (Or.inl ⟨by rfl, ?_⟩) ?_ ?_
                    rotate_left
                    · intro w'
                      go_simp
                      with_reducible rfl
                    rotate_left
                    · simp only [Act.put, List.setIfInBounds_toArray, List.set_cons_zero, List.set_cons_succ, i64_w, i32_w]
                      rfl
                    refine take_ (i := 0) (N := some 40) (v := ?_) (a' := ?_) #[true, true, true, false, false, false, false, false, false, false, false, false, false] rfl rfl (take_ofW HT_.out HW_.out (by kernel_rfl)) (fun _ _ _ h => h) (Or.inl ⟨by rfl, ?_⟩) hHeld ?_ ?_
                    rotate_left
                    · rintro w' ⟨s0, s1⟩
                      go_simp
                      with_reducible rfl
                    rotate_left
                    · simp only [Act.put, List.setIfInBounds_toArray, List.set_cons_zero, List.set_cons_succ, i64_w, i32_w]
                      rfl
                    refine take_ (i := 3) (N := some 43) (v := ?_) (a' := ?_) #[true, true, true, true, false, false, false, false, false, false, false, false, false] rfl rfl (take_ofW HT_.out HW_.out (by kernel_rfl)) (fun _ _ _ h => h) (Or.inl ⟨by rfl, ?_⟩) hHeld ?_ ?_
                    rotate_left
                    · rintro w' ⟨s0, s1⟩
                      go_simp
                      with_reducible rfl
                    rotate_left
                    · simp only [Act.put, List.setIfInBounds_toArray, List.set_cons_zero, List.set_cons_succ, i64_w, i32_w]
                      rfl
                    refine pure_ (i := 4) (N := some 44) (v := ?_) (a' := ?_) #[true, true, true, true, true, false, false, false, false, false, false, false, false] rfl rfl (any_of HT_.out (by kernel_rfl)) (fun _ _ _ h => h) (Or.inl ⟨by rfl, ?_⟩) ?_ ?_
                    rotate_left
                    · intro w'
                      go_simp
                      with_reducible rfl
                    rotate_left
                    · simp only [Act.put, List.setIfInBounds_toArray, List.set_cons_zero, List.set_cons_succ, i64_w, i32_w]
                      rfl
                    refine pure_ (i := 5) (N := some 45) (v := ?_) (a' := ?_) #[true, true, true, true, true, true, false, false, false, false, false, false, false] rfl rfl (any_of HT_.out (by kernel_rfl)) (fun _ _ _ h => h) (Or.inl ⟨by rfl, ?_⟩) ?_ ?_
                    rotate_left
                    · intro w'
                      go_simp
                      with_reducible rfl
                    rotate_left
                    · simp only [Act.put, List.setIfInBounds_toArray, List.set_cons_zero, List.set_cons_succ, i64_w, i32_w]
                      rfl
                    refine pure_ (i := 6) (N := some 46) (v := ?_) (a' := ?_) #[true, true, true, true, true, true, true, false, false, false, false, false, false] rfl rfl (any_of HT_.out (by kernel_rfl)) (fun _ _ _ h => h) (Or.inl ⟨by rfl, ?_⟩) ?_ ?_
                    rotate_left
                    · intro w'
                      go_simp
                      with_reducible rfl
                    rotate_left
                    · simp only [Act.put, List.setIfInBounds_toArray, List.set_cons_zero, List.set_cons_succ, i64_w, i32_w]
                      rfl
                    refine one_ (i := 7) (N := some 47) #[true, true, true, true, true, true, true, true, false, false, false, false, false] rfl rfl (one_of HT_.out (by kernel_rfl)) (by decide) (fun K hK => ?_)
                    refine goes_ Try.func37 (by kernel_rfl) rfl #[.agg #[.int .u64 t294, .int .u64 t295], .agg #[.int .u64 0, .int .u64 (((bt a0 x7_1) - 48) % 256)]] (by rfl) rfl rfl aG ?_
                    with_reducible refine (corebankref01_plus.calls t294 t295 0 (((bt a0 x7_1) - 48) % 256) t298 t299 t300 _ A17.out).mono ?_
                    rintro e w42 ⟨rfl, hb⟩
                    refine ⟨_, rfl, ?_⟩
                    have n0_ := Aside0.mk (bK BK287 hb)
                    have n1_ := Aside0.mk (bK BK289 hb)
                    have n2_ := Aside0.mk (bK BK297 hb)
                    have n3_ := Aside0.mk (bS hb)
                    clear BK287
                    clear BK289
                    clear BK297
                    clear HB
                    have BK287 := n0_
                    have BK289 := n1_
                    have BK297 := n2_
                    have HB := n3_
                    clear n0_ n1_ n2_ n3_
                    (try clear hb)
                    (try clear hb2)
                    (try clear hk)
                    (try clear hi)
                    refine hK.out _ _ ⟨(blk_cell BK297.out 0).trans rfl, (blk_cell BK297.out 1).trans rfl⟩ (fun hHeld => ?_)
                    clear hK K
                    refine norm_ (a' := ?_) ?_ ?_
                    rotate_left
                    · show Act.put _ (some 47) _ = _
                      simp only [Act.put, List.setIfInBounds_toArray, List.set_cons_zero, List.set_cons_succ, i64_w, i32_w]
                      rfl
                    refine pure_ (i := 8) (N := some 39) (v := ?_) (a' := ?_) #[true, true, true, true, true, true, true, true, true, false, false, false, false] rfl rfl (any_of HT_.out (by kernel_rfl)) (fun _ _ _ h => h) (Or.inl ⟨by rfl, ?_⟩) ?_ ?_
                    rotate_left
                    · intro w'
                      go_simp
                      with_reducible rfl
                    rotate_left
                    · simp only [Act.put, List.setIfInBounds_toArray, List.set_cons_zero, List.set_cons_succ, i64_w, i32_w]
                      rfl
                    refine pure_ (i := 9) (N := some 48) (v := ?_) (a' := ?_) #[true, true, true, true, true, true, true, true, true, true, false, false, false] rfl rfl (any_of HT_.out (by kernel_rfl)) (fun _ _ _ h => h) (Or.inl ⟨by rfl, ?_⟩) ?_ ?_
                    rotate_left
                    · intro w'
                      go_simp
                      with_reducible rfl
                    rotate_left
                    · simp only [Act.put, List.setIfInBounds_toArray, List.set_cons_zero, List.set_cons_succ, i64_w, i32_w]
                      rfl
                    refine pure_ (i := 10) (N := some 49) (v := ?_) (a' := ?_) #[true, true, true, true, true, true, true, true, true, true, true, false, false] rfl rfl (any_of HT_.out (by kernel_rfl)) (fun _ _ _ h => h) (Or.inl ⟨by rfl, ?_⟩) ?_ ?_
                    rotate_left
                    · intro w'
                      go_simp
                      with_reducible rfl
                    rotate_left
                    · simp only [Act.put, List.setIfInBounds_toArray, List.set_cons_zero, List.set_cons_succ, i64_w, i32_w]
                      rfl
                    refine last_ (i := 11) (N := none) #[true, true, true, true, true, true, true, true, true, true, true, true, false] rfl rfl (one_of HT_.out (by kernel_rfl)) (by decide) (fun K hK => ?_)
                    have hs43 : w42.cell? ⟨gb297, 0, none⟩ = some (.int .u64 t294) := (blk_cell BK297.out 0).trans rfl
                    have hfs43 := blk_frozen BK297.out 0
                    have hns43_0 := NB287_297.out
                    have hns43_1 := NB289_297.out
                    have hms43_0 := NB297_287.out
                    have hms43_1 := NB297_289.out
                    have hs44 : w42.cell? ⟨gb297, 1, none⟩ = some (.int .u64 t295) := (blk_cell BK297.out 1).trans rfl
                    have hfs44 := blk_frozen BK297.out 1
                    have hns44_0 := NB287_297.out
                    have hns44_1 := NB289_297.out
                    have hms44_0 := NB297_287.out
                    have hms44_1 := NB297_289.out
                    refine skip_ (w1 := ?_) (by rfl) rfl ?_ ?_
                    rotate_left
                    · go_simp
                      rfl
                    refine hK.out _ _ ?_
                    clear hK K
                    refine pure_ (i := 12) (N := some 9) (v := ?_) (a' := ?_) #[true, true, true, true, true, true, true, true, true, true, true, true, true] rfl rfl (any_of HT_.out (by kernel_rfl)) (fun _ _ _ h => h) (Or.inl ⟨by rfl, ?_⟩) ?_ ?_
                    rotate_left
                    · intro w'
                      go_simp
                      with_reducible rfl
                    rotate_left
                    · simp only [Act.put, List.setIfInBounds_toArray, List.set_cons_zero, List.set_cons_succ, i64_w, i32_w]
                      rfl
                    refine done_ (done_of HT_.out (by kernel_rfl)) ?_
                    have hcz45_0 : w42.cell? ⟨gb297, 0, none⟩ = some (.int .u64 t294) := (blk_cell BK297.out 0).trans rfl
                    have hcz45_1 : w42.cell? ⟨gb297, 1, none⟩ = some (.int .u64 t295) := (blk_cell BK297.out 1).trans rfl
                    have hfz45_0 := blk_frozen BK297.out 0
                    have hfz45_1 := blk_frozen BK297.out 1
                    have hcz46_0 : w42.cell? ⟨gb289, 0, none⟩ = some (.int .u64 x290000_1) := (blk_cell BK289.out 0).trans rfl
                    have hcz46_1 : w42.cell? ⟨gb289, 1, none⟩ = some (.int .u64 x290001_1) := (blk_cell BK289.out 1).trans rfl
                    have hfz46_0 := blk_frozen BK289.out 0
                    have hfz46_1 := blk_frozen BK289.out 1
                    try go_wp2
                    go_roundg k1
                    case measure => have := HK1.out; omega
                    case rel => exact ⟨(false), (wrap64 (x7_1 + 1)), (t298), (t299), (by first | rfl | (simp; done) | (simp [*]; done)), (by first | rfl | (simp; done) | (simp [*]; done)), H', ⟨by have := HK1.out; omega⟩, ⟨by (with_reducible repeat (first | refine blk_drewN ?_ _ | refine blk_drew ?_ | refine blk_alloc ?_ _)); refine blk_far ?_ NB287_289.out _; (with_reducible repeat (first | refine blk_drewN ?_ _ | refine blk_drew ?_ | refine blk_alloc ?_ _)); refine blk_far ?_ NB287_289.out _; (with_reducible repeat (first | refine blk_drewN ?_ _ | refine blk_drew ?_ | refine blk_alloc ?_ _)); refine blk_far ?_ NB287_297.out _; (with_reducible repeat (first | refine blk_drewN ?_ _ | refine blk_drew ?_ | refine blk_alloc ?_ _)); refine blk_far ?_ NB287_297.out _; (with_reducible repeat (first | refine blk_drewN ?_ _ | refine blk_drew ?_ | refine blk_alloc ?_ _)); exact BK287.out⟩, ⟨by (with_reducible repeat (first | refine blk_drewN ?_ _ | refine blk_drew ?_ | refine blk_alloc ?_ _)); refine blk_put (cs := #[.int .u64 t298, .int .u64 x290001_1]) ?_ 1 _ rfl; (with_reducible repeat (first | refine blk_drewN ?_ _ | refine blk_drew ?_ | refine blk_alloc ?_ _)); refine blk_put (cs := #[.int .u64 x290000_1, .int .u64 x290001_1]) ?_ 0 _ rfl; (with_reducible repeat (first | refine blk_drewN ?_ _ | refine blk_drew ?_ | refine blk_alloc ?_ _)); refine blk_far ?_ NB289_297.out _; (with_reducible repeat (first | refine blk_drewN ?_ _ | refine blk_drew ?_ | refine blk_alloc ?_ _)); refine blk_far ?_ NB289_297.out _; (with_reducible repeat (first | refine blk_drewN ?_ _ | refine blk_drew ?_ | refine blk_alloc ?_ _)); exact BK289.out⟩, ⟨bE⟩⟩
                · replace c15 := Bool.eq_false_iff.mpr c15
                  subst c15
                  have H1 : ((corebankref01_plus.f t294 t295 0 (((bt a0 x7_1) - 48) % 256)).bind fun bt301 => (corebankref01_Parse.l0 k1 a0 ((bt a0 0) == 45) false (wrap64 (x7_1 + 1)) bt301.1 bt301.2.1)) = some (r1, r2, r3) := by rw [if_neg (show ¬ (false = true) by decide)] at H; exact H
                  clear H
                  have H := H1
                  clear H1
                  replace H := Option.bind_eq_some_iff.mp H
                  obtain ⟨⟨t301, t302, t303⟩, A480, H⟩ := H
                  replace H : (corebankref01_Parse.l0 k1 a0 ((bt a0 0) == 45) false (wrap64 (x7_1 + 1)) t301 t302) = some (r1, r2, r3) := H
                  have A48 := Aside0.mk A480
                  clear A480
                  have H' := Aside0.mk H
                  clear H
                  have p12 : 0 ≤ (x7_1 : Int) := of_decide_eq_true (by first | (with_reducible assumption) | assumption)
                  have q12 : x7_1 < (a0.size : Int) := of_decide_eq_true (by first | (with_reducible assumption) | assumption)
                  have hx12 := bt_at a0 x7_1
                  replace p12 := eq_true p12
                  replace q12 := eq_true q12
                  have hnb49 := NB289_287.out
                  have hnc49 := NB287_289.out
                  have hcz50_0 : wr.cell? ⟨gb289, 0, none⟩ = some (.int .u64 x290000_1) := (blk_cell BK289.out 0).trans rfl
                  have hcz50_1 : wr.cell? ⟨gb289, 1, none⟩ = some (.int .u64 x290001_1) := (blk_cell BK289.out 1).trans rfl
                  have hfz50_0 := blk_frozen BK289.out 0
                  have hfz50_1 := blk_frozen BK289.out 1
                  try go_wp2_with (first | ((with_reducible refine gate_callee (f := 40) rfl ?_); refine goesL_ (some 32) rfl rfl Try.func40 (by kernel_rfl) rfl #[.agg #[.int .u64 x290000_1, .int .u64 x290001_1], .int .u64 10] rfl aG ?_; (with_reducible refine (corebankref01_times.calls k1 x290000_1 x290001_1 10 t294 t295 t296 _ A14.out).mono ?_); rintro e w51 ⟨rfl, hb⟩; refine ⟨_, rfl, ?_⟩; replace BK287 := Aside0.mk (bK BK287 hb); replace BK289 := Aside0.mk (bK BK289 hb); replace HB := Aside0.mk (bS hb); (try clear hb); (try clear hb2); (try clear hk); (try clear hi)) | ((with_reducible refine gate_dst (N := 8) rfl ?_); refine box_event ?hg (N := 8) ?hd (cs := #[.int .u64 0, .int .u64 0]) (t := 53) ?hr ?_; (case hd => rfl); (case hg => rfl); (case hr => first | (go_simp; done) | (go_simp; rfl)); intro gb297 hg w52 hbox hb; have nn_ := bT hb hg; have bgb287_ := bN BK287 hb hg; have bgb289_ := bN BK289 hb hg; have BK297 := Aside0.mk (hbox); have GW297 := Aside0.mk nn_.2; have GE297 := GW297; have NB287_297 := Aside0.mk bgb287_.2.1; have NB297_287 := Aside0.mk bgb287_.2.2; have NB289_297 := Aside0.mk bgb289_.2.1; have NB297_289 := Aside0.mk bgb289_.2.2; replace BK287 := Aside0.mk bgb287_.1; replace BK289 := Aside0.mk bgb289_.1; replace HB := Aside0.mk nn_.1; clear nn_ bgb287_ bgb289_; clear hb hbox hg; have hnb53 := NB297_287.out; have hnc53 := NB287_297.out; have hnb54 := NB297_289.out; have hnc54 := NB289_297.out; have hcz55_0 : w52.cell? ⟨gb297, 0, none⟩ = some (.int .u64 0) := (blk_cell BK297.out 0).trans rfl; have hcz55_1 : w52.cell? ⟨gb297, 1, none⟩ = some (.int .u64 0) := (blk_cell BK297.out 1).trans rfl; have hfz55_0 := blk_frozen BK297.out 0; have hfz55_1 := blk_frozen BK297.out 1))
                  have n0_ : Aside0 (((w52.setCell ⟨gb297, 0, none⟩ (.int .u64 t294)).setCell ⟨gb297, 1, none⟩ (.int .u64 t295)).heap[gb287]? = some (.cells #[.int .i64 0, .int .u64 0] 24 (0, 0))) := ⟨by (with_reducible repeat (first | refine blk_drewN ?_ _ | refine blk_drew ?_ | refine blk_alloc ?_ _)); refine blk_far ?_ NB287_297.out _; (with_reducible repeat (first | refine blk_drewN ?_ _ | refine blk_drew ?_ | refine blk_alloc ?_ _)); refine blk_far ?_ NB287_297.out _; (with_reducible repeat (first | refine blk_drewN ?_ _ | refine blk_drew ?_ | refine blk_alloc ?_ _)); exact BK287.out⟩
                  have n1_ : Aside0 (((w52.setCell ⟨gb297, 0, none⟩ (.int .u64 t294)).setCell ⟨gb297, 1, none⟩ (.int .u64 t295)).heap[gb289]? = some (.cells #[.int .u64 x290000_1, .int .u64 x290001_1] 53 (0, 0))) := ⟨by (with_reducible repeat (first | refine blk_drewN ?_ _ | refine blk_drew ?_ | refine blk_alloc ?_ _)); refine blk_far ?_ NB289_297.out _; (with_reducible repeat (first | refine blk_drewN ?_ _ | refine blk_drew ?_ | refine blk_alloc ?_ _)); refine blk_far ?_ NB289_297.out _; (with_reducible repeat (first | refine blk_drewN ?_ _ | refine blk_drew ?_ | refine blk_alloc ?_ _)); exact BK289.out⟩
                  have n2_ : Aside0 (((w52.setCell ⟨gb297, 0, none⟩ (.int .u64 t294)).setCell ⟨gb297, 1, none⟩ (.int .u64 t295)).heap[gb297]? = some (.cells #[.int .u64 t294, .int .u64 t295] 53 (0, 0))) := ⟨by (with_reducible repeat (first | refine blk_drewN ?_ _ | refine blk_drew ?_ | refine blk_alloc ?_ _)); refine blk_put (cs := #[.int .u64 t294, .int .u64 0]) ?_ 1 _ rfl; (with_reducible repeat (first | refine blk_drewN ?_ _ | refine blk_drew ?_ | refine blk_alloc ?_ _)); refine blk_put (cs := #[.int .u64 0, .int .u64 0]) ?_ 0 _ rfl; (with_reducible repeat (first | refine blk_drewN ?_ _ | refine blk_drew ?_ | refine blk_alloc ?_ _)); exact BK297.out⟩
                  have n3_ : Aside0 (Below w.heap.size w ((w52.setCell ⟨gb297, 0, none⟩ (.int .u64 t294)).setCell ⟨gb297, 1, none⟩ (.int .u64 t295))) := ⟨bE⟩
                  (try clear BK287)
                  (try clear BK289)
                  (try clear BK297)
                  (try clear HB)
                  generalize ((w52.setCell ⟨gb297, 0, none⟩ (.int .u64 t294)).setCell ⟨gb297, 1, none⟩ (.int .u64 t295)) = w56 at n0_ n1_ n2_ n3_ ⊢
                  have BK287 := n0_
                  have BK289 := n1_
                  have BK297 := n2_
                  have HB := n3_
                  clear n0_ n1_ n2_ n3_
                  have n0_ := Aside0.mk (blk_drew BK287.out)
                  have n1_ := Aside0.mk (blk_drew BK289.out)
                  have n2_ := Aside0.mk (blk_drew BK297.out)
                  have n3_ := Aside0.mk (below_drew1 HB.out)
                  clear BK287
                  clear BK289
                  clear BK297
                  clear HB
                  have BK287 := n0_
                  have BK289 := n1_
                  have BK297 := n2_
                  have HB := n3_
                  clear n0_ n1_ n2_ n3_
                  have p47 : 0 ≤ (x7_1 : Int) := of_decide_eq_true (by first | (with_reducible assumption) | assumption)
                  have q47 : x7_1 < (a0.size : Int) := of_decide_eq_true (by first | (with_reducible assumption) | assumption)
                  have hx47 := bt_at a0 x7_1
                  replace p47 := eq_true p47
                  replace q47 := eq_true q47
                  refine start_ (n := 13) (S := fun w' => w'.cell? ⟨gb297, 0, none⟩ = some (.int .u64 t294) ∧ w'.cell? ⟨gb297, 1, none⟩ = some (.int .u64 t295)) (ds := [11]) #[false, false, false, false, false, false, false, false, false, false, false, false, false] (by kernel_rfl) rfl rfl ⟨(blk_cell BK297.out 0).trans rfl, (blk_cell BK297.out 1).trans rfl⟩ (fun hHeld => ?_); refine with_tabW corebankref01_Parse.tab12 corebankref01_Parse.bits12 (fun HT_ HW_ => ?_)
                  generalize w56.drew = w57 at BK287 BK289 BK297 HB hHeld ⊢
                  refine pure_ (i := 1) (N := some 41) (v := ?_) (a' := ?_) #[false, true, false, false, false, false, false, false, false, false, false, false, false] rfl rfl (any_of HT_.out (by kernel_rfl)) (fun _ _ _ h => h) (Or.inl ⟨by rfl, ?_⟩) ?_ ?_
                  rotate_left
                  · intro w'
                    go_simp
                    with_reducible rfl
                  rotate_left
                  · simp only [Act.put, List.setIfInBounds_toArray, List.set_cons_zero, List.set_cons_succ, i64_w, i32_w]
                    rfl
                  refine pure_ (i := 2) (N := some 42) (v := ?_) (a' := ?_) #[false, true, true, false, false, false, false, false, false, false, false, false, false] rfl rfl (any_of HT_.out (by kernel_rfl)) (fun _ _ _ h => h) (Or.inl ⟨by rfl, ?_⟩) ?_ ?_
                  rotate_left
                  · intro w'
                    go_simp
                    with_reducible rfl
                  rotate_left
                  · simp only [Act.put, List.setIfInBounds_toArray, List.set_cons_zero, List.set_cons_succ, i64_w, i32_w]
                    rfl
                  refine take_ (i := 0) (N := some 40) (v := ?_) (a' := ?_) #[true, true, true, false, false, false, false, false, false, false, false, false, false] rfl rfl (take_ofW HT_.out HW_.out (by kernel_rfl)) (fun _ _ _ h => h) (Or.inl ⟨by rfl, ?_⟩) hHeld ?_ ?_
                  rotate_left
                  · rintro w' ⟨s0, s1⟩
                    go_simp
                    with_reducible rfl
                  rotate_left
                  · simp only [Act.put, List.setIfInBounds_toArray, List.set_cons_zero, List.set_cons_succ, i64_w, i32_w]
                    rfl
                  refine take_ (i := 3) (N := some 43) (v := ?_) (a' := ?_) #[true, true, true, true, false, false, false, false, false, false, false, false, false] rfl rfl (take_ofW HT_.out HW_.out (by kernel_rfl)) (fun _ _ _ h => h) (Or.inl ⟨by rfl, ?_⟩) hHeld ?_ ?_
                  rotate_left
                  · rintro w' ⟨s0, s1⟩
                    go_simp
                    with_reducible rfl
                  rotate_left
                  · simp only [Act.put, List.setIfInBounds_toArray, List.set_cons_zero, List.set_cons_succ, i64_w, i32_w]
                    rfl
                  refine pure_ (i := 4) (N := some 44) (v := ?_) (a' := ?_) #[true, true, true, true, true, false, false, false, false, false, false, false, false] rfl rfl (any_of HT_.out (by kernel_rfl)) (fun _ _ _ h => h) (Or.inl ⟨by rfl, ?_⟩) ?_ ?_
                  rotate_left
                  · intro w'
                    go_simp
                    with_reducible rfl
                  rotate_left
                  · simp only [Act.put, List.setIfInBounds_toArray, List.set_cons_zero, List.set_cons_succ, i64_w, i32_w]
                    rfl
                  refine pure_ (i := 5) (N := some 45) (v := ?_) (a' := ?_) #[true, true, true, true, true, true, false, false, false, false, false, false, false] rfl rfl (any_of HT_.out (by kernel_rfl)) (fun _ _ _ h => h) (Or.inl ⟨by rfl, ?_⟩) ?_ ?_
                  rotate_left
                  · intro w'
                    go_simp
                    with_reducible rfl
                  rotate_left
                  · simp only [Act.put, List.setIfInBounds_toArray, List.set_cons_zero, List.set_cons_succ, i64_w, i32_w]
                    rfl
                  refine pure_ (i := 6) (N := some 46) (v := ?_) (a' := ?_) #[true, true, true, true, true, true, true, false, false, false, false, false, false] rfl rfl (any_of HT_.out (by kernel_rfl)) (fun _ _ _ h => h) (Or.inl ⟨by rfl, ?_⟩) ?_ ?_
                  rotate_left
                  · intro w'
                    go_simp
                    with_reducible rfl
                  rotate_left
                  · simp only [Act.put, List.setIfInBounds_toArray, List.set_cons_zero, List.set_cons_succ, i64_w, i32_w]
                    rfl
                  refine one_ (i := 7) (N := some 47) #[true, true, true, true, true, true, true, true, false, false, false, false, false] rfl rfl (one_of HT_.out (by kernel_rfl)) (by decide) (fun K hK => ?_)
                  refine goes_ Try.func37 (by kernel_rfl) rfl #[.agg #[.int .u64 t294, .int .u64 t295], .agg #[.int .u64 0, .int .u64 (((bt a0 x7_1) - 48) % 256)]] (by rfl) rfl rfl aG ?_
                  with_reducible refine (corebankref01_plus.calls t294 t295 0 (((bt a0 x7_1) - 48) % 256) t301 t302 t303 _ A48.out).mono ?_
                  rintro e w58 ⟨rfl, hb⟩
                  refine ⟨_, rfl, ?_⟩
                  have n0_ := Aside0.mk (bK BK287 hb)
                  have n1_ := Aside0.mk (bK BK289 hb)
                  have n2_ := Aside0.mk (bK BK297 hb)
                  have n3_ := Aside0.mk (bS hb)
                  clear BK287
                  clear BK289
                  clear BK297
                  clear HB
                  have BK287 := n0_
                  have BK289 := n1_
                  have BK297 := n2_
                  have HB := n3_
                  clear n0_ n1_ n2_ n3_
                  (try clear hb)
                  (try clear hb2)
                  (try clear hk)
                  (try clear hi)
                  refine hK.out _ _ ⟨(blk_cell BK297.out 0).trans rfl, (blk_cell BK297.out 1).trans rfl⟩ (fun hHeld => ?_)
                  clear hK K
                  refine norm_ (a' := ?_) ?_ ?_
                  rotate_left
                  · show Act.put _ (some 47) _ = _
                    simp only [Act.put, List.setIfInBounds_toArray, List.set_cons_zero, List.set_cons_succ, i64_w, i32_w]
                    rfl
                  refine pure_ (i := 8) (N := some 39) (v := ?_) (a' := ?_) #[true, true, true, true, true, true, true, true, true, false, false, false, false] rfl rfl (any_of HT_.out (by kernel_rfl)) (fun _ _ _ h => h) (Or.inl ⟨by rfl, ?_⟩) ?_ ?_
                  rotate_left
                  · intro w'
                    go_simp
                    with_reducible rfl
                  rotate_left
                  · simp only [Act.put, List.setIfInBounds_toArray, List.set_cons_zero, List.set_cons_succ, i64_w, i32_w]
                    rfl
                  refine pure_ (i := 9) (N := some 48) (v := ?_) (a' := ?_) #[true, true, true, true, true, true, true, true, true, true, false, false, false] rfl rfl (any_of HT_.out (by kernel_rfl)) (fun _ _ _ h => h) (Or.inl ⟨by rfl, ?_⟩) ?_ ?_
                  rotate_left
                  · intro w'
                    go_simp
                    with_reducible rfl
                  rotate_left
                  · simp only [Act.put, List.setIfInBounds_toArray, List.set_cons_zero, List.set_cons_succ, i64_w, i32_w]
                    rfl
                  refine pure_ (i := 10) (N := some 49) (v := ?_) (a' := ?_) #[true, true, true, true, true, true, true, true, true, true, true, false, false] rfl rfl (any_of HT_.out (by kernel_rfl)) (fun _ _ _ h => h) (Or.inl ⟨by rfl, ?_⟩) ?_ ?_
                  rotate_left
                  · intro w'
                    go_simp
                    with_reducible rfl
                  rotate_left
                  · simp only [Act.put, List.setIfInBounds_toArray, List.set_cons_zero, List.set_cons_succ, i64_w, i32_w]
                    rfl
                  refine last_ (i := 11) (N := none) #[true, true, true, true, true, true, true, true, true, true, true, true, false] rfl rfl (one_of HT_.out (by kernel_rfl)) (by decide) (fun K hK => ?_)
                  have hs59 : w58.cell? ⟨gb297, 0, none⟩ = some (.int .u64 t294) := (blk_cell BK297.out 0).trans rfl
                  have hfs59 := blk_frozen BK297.out 0
                  have hns59_0 := NB287_297.out
                  have hns59_1 := NB289_297.out
                  have hms59_0 := NB297_287.out
                  have hms59_1 := NB297_289.out
                  have hs60 : w58.cell? ⟨gb297, 1, none⟩ = some (.int .u64 t295) := (blk_cell BK297.out 1).trans rfl
                  have hfs60 := blk_frozen BK297.out 1
                  have hns60_0 := NB287_297.out
                  have hns60_1 := NB289_297.out
                  have hms60_0 := NB297_287.out
                  have hms60_1 := NB297_289.out
                  refine skip_ (w1 := ?_) (by rfl) rfl ?_ ?_
                  rotate_left
                  · go_simp
                    rfl
                  refine hK.out _ _ ?_
                  clear hK K
                  refine pure_ (i := 12) (N := some 9) (v := ?_) (a' := ?_) #[true, true, true, true, true, true, true, true, true, true, true, true, true] rfl rfl (any_of HT_.out (by kernel_rfl)) (fun _ _ _ h => h) (Or.inl ⟨by rfl, ?_⟩) ?_ ?_
                  rotate_left
                  · intro w'
                    go_simp
                    with_reducible rfl
                  rotate_left
                  · simp only [Act.put, List.setIfInBounds_toArray, List.set_cons_zero, List.set_cons_succ, i64_w, i32_w]
                    rfl
                  refine done_ (done_of HT_.out (by kernel_rfl)) ?_
                  have hcz61_0 : w58.cell? ⟨gb297, 0, none⟩ = some (.int .u64 t294) := (blk_cell BK297.out 0).trans rfl
                  have hcz61_1 : w58.cell? ⟨gb297, 1, none⟩ = some (.int .u64 t295) := (blk_cell BK297.out 1).trans rfl
                  have hfz61_0 := blk_frozen BK297.out 0
                  have hfz61_1 := blk_frozen BK297.out 1
                  have hcz62_0 : w58.cell? ⟨gb289, 0, none⟩ = some (.int .u64 x290000_1) := (blk_cell BK289.out 0).trans rfl
                  have hcz62_1 : w58.cell? ⟨gb289, 1, none⟩ = some (.int .u64 x290001_1) := (blk_cell BK289.out 1).trans rfl
                  have hfz62_0 := blk_frozen BK289.out 0
                  have hfz62_1 := blk_frozen BK289.out 1
                  try go_wp2
                  go_roundg k1
                  case measure => have := HK1.out; omega
                  case rel => exact ⟨(false), (wrap64 (x7_1 + 1)), (t301), (t302), (by first | rfl | (simp; done) | (simp [*]; done)), (by first | rfl | (simp; done) | (simp [*]; done)), H', ⟨by have := HK1.out; omega⟩, ⟨by (with_reducible repeat (first | refine blk_drewN ?_ _ | refine blk_drew ?_ | refine blk_alloc ?_ _)); refine blk_far ?_ NB287_289.out _; (with_reducible repeat (first | refine blk_drewN ?_ _ | refine blk_drew ?_ | refine blk_alloc ?_ _)); refine blk_far ?_ NB287_289.out _; (with_reducible repeat (first | refine blk_drewN ?_ _ | refine blk_drew ?_ | refine blk_alloc ?_ _)); refine blk_far ?_ NB287_297.out _; (with_reducible repeat (first | refine blk_drewN ?_ _ | refine blk_drew ?_ | refine blk_alloc ?_ _)); refine blk_far ?_ NB287_297.out _; (with_reducible repeat (first | refine blk_drewN ?_ _ | refine blk_drew ?_ | refine blk_alloc ?_ _)); exact BK287.out⟩, ⟨by (with_reducible repeat (first | refine blk_drewN ?_ _ | refine blk_drew ?_ | refine blk_alloc ?_ _)); refine blk_put (cs := #[.int .u64 t301, .int .u64 x290001_1]) ?_ 1 _ rfl; (with_reducible repeat (first | refine blk_drewN ?_ _ | refine blk_drew ?_ | refine blk_alloc ?_ _)); refine blk_put (cs := #[.int .u64 x290000_1, .int .u64 x290001_1]) ?_ 0 _ rfl; (with_reducible repeat (first | refine blk_drewN ?_ _ | refine blk_drew ?_ | refine blk_alloc ?_ _)); refine blk_far ?_ NB289_297.out _; (with_reducible repeat (first | refine blk_drewN ?_ _ | refine blk_drew ?_ | refine blk_alloc ?_ _)); refine blk_far ?_ NB289_297.out _; (with_reducible repeat (first | refine blk_drewN ?_ _ | refine blk_drew ?_ | refine blk_alloc ?_ _)); exact BK289.out⟩, ⟨bE⟩⟩
            · rw [if_neg c11] at H
              exact absurd H (by simp)
          · rw [if_neg c10] at H
            have c10b0 : decide (x7_1 < (a0.size : Int)) = false := decide_eq_false c10
            clear c10
            replace H := Option.bind_eq_some_iff.mp H
            obtain ⟨⟨t290, t291, t292⟩, A630, H⟩ := H
            replace H : (if x6_1 = true then (if t292 = true then (some (t290, t291, 0)) else (some (0, 0, 6))) else (some (0, 0, 6))) = some (r1, r2, r3) := H
            have A63 := Aside0.mk A630
            clear A630
            by_cases c64 : x6_1 = true
            · subst c64
              have H1 : (if t292 = true then (some (t290, t291, 0)) else (some (0, 0, 6))) = some (r1, r2, r3) := by rw [if_pos rfl] at H; exact H
              clear H
              have H := H1
              clear H1
              by_cases c65 : t292 = true
              · subst c65
                have H1 : (some (t290, t291, 0)) = some (r1, r2, r3) := by rw [if_pos rfl] at H; exact H
                clear H
                have H := H1
                clear H1
                simp only [Option.some.injEq, Prod.mk.injEq] at H
                obtain ⟨rfl, rfl, rfl⟩ := H
                have hnb66 := NB289_287.out
                have hnc66 := NB287_289.out
                have hcz67_0 : wr.cell? ⟨gb289, 0, none⟩ = some (.int .u64 x290000_1) := (blk_cell BK289.out 0).trans rfl
                have hcz67_1 : wr.cell? ⟨gb289, 1, none⟩ = some (.int .u64 x290001_1) := (blk_cell BK289.out 1).trans rfl
                have hfz67_0 := blk_frozen BK289.out 0
                have hfz67_1 := blk_frozen BK289.out 1
                go_wp2_with (first | ((with_reducible refine gate_callee (f := 38) rfl ?_); refine goesL_ (some 58) rfl rfl Try.func38 (by kernel_rfl) rfl #[.bool ((bt a0 0) == 45), .agg #[.int .u64 x290000_1, .int .u64 x290001_1]] rfl aG ?_; (with_reducible refine (corebankref01_Join.calls ((bt a0 0) == 45) x290000_1 x290001_1 t290 t291 true _ A63.out).mono ?_); rintro e w68 ⟨rfl, hb⟩; refine ⟨_, rfl, ?_⟩; replace BK287 := Aside0.mk (bK BK287 hb); replace BK289 := Aside0.mk (bK BK289 hb); replace HB := Aside0.mk (bS hb); (try clear hb); (try clear hb2); (try clear hk); (try clear hi)) | ((with_reducible refine gate_dst (N := 10) rfl ?_); refine box_event ?hg (N := 10) ?hd (cs := #[.int .i64 0, .int .u64 0]) (t := 24) ?hr ?_; (case hd => rfl); (case hg => rfl); (case hr => first | (go_simp; done) | (go_simp; rfl)); intro gb293 hg w69 hbox hb; have nn_ := bT hb hg; have bgb287_ := bN BK287 hb hg; have bgb289_ := bN BK289 hb hg; have BK293 := Aside0.mk (hbox); have GW293 := Aside0.mk nn_.2; have GE293 := GW293; have NB287_293 := Aside0.mk bgb287_.2.1; have NB293_287 := Aside0.mk bgb287_.2.2; have NB289_293 := Aside0.mk bgb289_.2.1; have NB293_289 := Aside0.mk bgb289_.2.2; replace BK287 := Aside0.mk bgb287_.1; replace BK289 := Aside0.mk bgb289_.1; replace HB := Aside0.mk nn_.1; clear nn_ bgb287_ bgb289_; clear hb hbox hg; have hnb70 := NB293_287.out; have hnc70 := NB287_293.out; have hnb71 := NB293_289.out; have hnc71 := NB289_293.out; have hcz72_0 : w69.cell? ⟨gb293, 0, none⟩ = some (.int .i64 0) := (blk_cell BK293.out 0).trans rfl; have hcz72_1 : w69.cell? ⟨gb293, 1, none⟩ = some (.int .u64 0) := (blk_cell BK293.out 1).trans rfl; have hfz72_0 := blk_frozen BK293.out 0; have hfz72_1 := blk_frozen BK293.out 1; have hcz73_0 : w69.cell? ⟨gb287, 0, none⟩ = some (.int .i64 0) := (blk_cell BK287.out 0).trans rfl; have hcz73_1 : w69.cell? ⟨gb287, 1, none⟩ = some (.int .u64 0) := (blk_cell BK287.out 1).trans rfl; have hfz73_0 := blk_frozen BK287.out 0; have hfz73_1 := blk_frozen BK287.out 1))
                refine bodyPost_ret (results_ct rfl _ _ gb287 24 #[.int .i64 t290, .int .u64 t291] (0, 0) _ rfl (by (with_reducible repeat (first | refine blk_drewN ?_ _ | refine blk_drew ?_ | refine blk_alloc ?_ _)); refine blk_put (cs := #[.int .i64 t290, .int .u64 0]) ?_ 1 _ rfl; (with_reducible repeat (first | refine blk_drewN ?_ _ | refine blk_drew ?_ | refine blk_alloc ?_ _)); refine blk_put (cs := #[.int .i64 0, .int .u64 0]) ?_ 0 _ rfl; (with_reducible repeat (first | refine blk_drewN ?_ _ | refine blk_drew ?_ | refine blk_alloc ?_ _)); refine blk_far ?_ NB287_293.out _; (with_reducible repeat (first | refine blk_drewN ?_ _ | refine blk_drew ?_ | refine blk_alloc ?_ _)); refine blk_far ?_ NB287_293.out _; (with_reducible repeat (first | refine blk_drewN ?_ _ | refine blk_drew ?_ | refine blk_alloc ?_ _)); exact BK287.out) Try.underlying24 rfl (by kernel_rfl)) rfl ?_
                exact ⟨by first | rfl | (simp [errW_none, errW_some] <;> rfl) | (simp [*, errW_none, errW_some] <;> rfl), bE⟩
              · replace c65 := Bool.eq_false_iff.mpr c65
                subst c65
                have H1 : (some (0, 0, 6)) = some (r1, r2, r3) := by rw [if_neg (show ¬ (false = true) by decide)] at H; exact H
                clear H
                have H := H1
                clear H1
                simp only [Option.some.injEq, Prod.mk.injEq] at H
                obtain ⟨rfl, rfl, rfl⟩ := H
                have hnb74 := NB289_287.out
                have hnc74 := NB287_289.out
                have hcz75_0 : wr.cell? ⟨gb289, 0, none⟩ = some (.int .u64 x290000_1) := (blk_cell BK289.out 0).trans rfl
                have hcz75_1 : wr.cell? ⟨gb289, 1, none⟩ = some (.int .u64 x290001_1) := (blk_cell BK289.out 1).trans rfl
                have hfz75_0 := blk_frozen BK289.out 0
                have hfz75_1 := blk_frozen BK289.out 1
                go_wp2_with (first | ((with_reducible refine gate_callee (f := 38) rfl ?_); refine goesL_ (some 58) rfl rfl Try.func38 (by kernel_rfl) rfl #[.bool ((bt a0 0) == 45), .agg #[.int .u64 x290000_1, .int .u64 x290001_1]] rfl aG ?_; (with_reducible refine (corebankref01_Join.calls ((bt a0 0) == 45) x290000_1 x290001_1 t290 t291 false _ A63.out).mono ?_); rintro e w76 ⟨rfl, hb⟩; refine ⟨_, rfl, ?_⟩; replace BK287 := Aside0.mk (bK BK287 hb); replace BK289 := Aside0.mk (bK BK289 hb); replace HB := Aside0.mk (bS hb); (try clear hb); (try clear hb2); (try clear hk); (try clear hi)) | ((with_reducible refine gate_dst (N := 10) rfl ?_); refine box_event ?hg (N := 10) ?hd (cs := #[.int .i64 0, .int .u64 0]) (t := 24) ?hr ?_; (case hd => rfl); (case hg => rfl); (case hr => first | (go_simp; done) | (go_simp; rfl)); intro gb293 hg w77 hbox hb; have nn_ := bT hb hg; have bgb287_ := bN BK287 hb hg; have bgb289_ := bN BK289 hb hg; have BK293 := Aside0.mk (hbox); have GW293 := Aside0.mk nn_.2; have GE293 := GW293; have NB287_293 := Aside0.mk bgb287_.2.1; have NB293_287 := Aside0.mk bgb287_.2.2; have NB289_293 := Aside0.mk bgb289_.2.1; have NB293_289 := Aside0.mk bgb289_.2.2; replace BK287 := Aside0.mk bgb287_.1; replace BK289 := Aside0.mk bgb289_.1; replace HB := Aside0.mk nn_.1; clear nn_ bgb287_ bgb289_; clear hb hbox hg; have hnb78 := NB293_287.out; have hnc78 := NB287_293.out; have hnb79 := NB293_289.out; have hnc79 := NB289_293.out; have hcz80_0 : w77.cell? ⟨gb293, 0, none⟩ = some (.int .i64 0) := (blk_cell BK293.out 0).trans rfl; have hcz80_1 : w77.cell? ⟨gb293, 1, none⟩ = some (.int .u64 0) := (blk_cell BK293.out 1).trans rfl; have hfz80_0 := blk_frozen BK293.out 0; have hfz80_1 := blk_frozen BK293.out 1; have hcz81_0 : w77.cell? ⟨gb287, 0, none⟩ = some (.int .i64 0) := (blk_cell BK287.out 0).trans rfl; have hcz81_1 : w77.cell? ⟨gb287, 1, none⟩ = some (.int .u64 0) := (blk_cell BK287.out 1).trans rfl; have hfz81_0 := blk_frozen BK287.out 0; have hfz81_1 := blk_frozen BK287.out 1))
                refine bodyPost_ret (results_ct rfl _ _ gb287 24 #[.int .i64 0, .int .u64 0] (0, 0) _ rfl (by (with_reducible repeat (first | refine blk_drewN ?_ _ | refine blk_drew ?_ | refine blk_alloc ?_ _)); refine blk_put (cs := #[.int .i64 0, .int .u64 0]) ?_ 1 _ rfl; (with_reducible repeat (first | refine blk_drewN ?_ _ | refine blk_drew ?_ | refine blk_alloc ?_ _)); refine blk_put (cs := #[.int .i64 0, .int .u64 0]) ?_ 0 _ rfl; (with_reducible repeat (first | refine blk_drewN ?_ _ | refine blk_drew ?_ | refine blk_alloc ?_ _)); refine blk_far ?_ NB287_293.out _; (with_reducible repeat (first | refine blk_drewN ?_ _ | refine blk_drew ?_ | refine blk_alloc ?_ _)); refine blk_far ?_ NB287_293.out _; (with_reducible repeat (first | refine blk_drewN ?_ _ | refine blk_drew ?_ | refine blk_alloc ?_ _)); exact BK287.out) Try.underlying24 rfl (by kernel_rfl)) rfl ?_
                exact ⟨by first | rfl | (simp [errW_none, errW_some] <;> rfl) | (simp [*, errW_none, errW_some] <;> rfl), bE⟩
            · replace c64 := Bool.eq_false_iff.mpr c64
              subst c64
              have H1 : (some (0, 0, 6)) = some (r1, r2, r3) := by rw [if_neg (show ¬ (false = true) by decide)] at H; exact H
              clear H
              have H := H1
              clear H1
              simp only [Option.some.injEq, Prod.mk.injEq] at H
              obtain ⟨rfl, rfl, rfl⟩ := H
              have hnb82 := NB289_287.out
              have hnc82 := NB287_289.out
              have hcz83_0 : wr.cell? ⟨gb289, 0, none⟩ = some (.int .u64 x290000_1) := (blk_cell BK289.out 0).trans rfl
              have hcz83_1 : wr.cell? ⟨gb289, 1, none⟩ = some (.int .u64 x290001_1) := (blk_cell BK289.out 1).trans rfl
              have hfz83_0 := blk_frozen BK289.out 0
              have hfz83_1 := blk_frozen BK289.out 1
              go_wp2_with (first | ((with_reducible refine gate_callee (f := 38) rfl ?_); refine goesL_ (some 58) rfl rfl Try.func38 (by kernel_rfl) rfl #[.bool ((bt a0 0) == 45), .agg #[.int .u64 x290000_1, .int .u64 x290001_1]] rfl aG ?_; (with_reducible refine (corebankref01_Join.calls ((bt a0 0) == 45) x290000_1 x290001_1 t290 t291 t292 _ A63.out).mono ?_); rintro e w84 ⟨rfl, hb⟩; refine ⟨_, rfl, ?_⟩; replace BK287 := Aside0.mk (bK BK287 hb); replace BK289 := Aside0.mk (bK BK289 hb); replace HB := Aside0.mk (bS hb); (try clear hb); (try clear hb2); (try clear hk); (try clear hi)) | ((with_reducible refine gate_dst (N := 10) rfl ?_); refine box_event ?hg (N := 10) ?hd (cs := #[.int .i64 0, .int .u64 0]) (t := 24) ?hr ?_; (case hd => rfl); (case hg => rfl); (case hr => first | (go_simp; done) | (go_simp; rfl)); intro gb293 hg w85 hbox hb; have nn_ := bT hb hg; have bgb287_ := bN BK287 hb hg; have bgb289_ := bN BK289 hb hg; have BK293 := Aside0.mk (hbox); have GW293 := Aside0.mk nn_.2; have GE293 := GW293; have NB287_293 := Aside0.mk bgb287_.2.1; have NB293_287 := Aside0.mk bgb287_.2.2; have NB289_293 := Aside0.mk bgb289_.2.1; have NB293_289 := Aside0.mk bgb289_.2.2; replace BK287 := Aside0.mk bgb287_.1; replace BK289 := Aside0.mk bgb289_.1; replace HB := Aside0.mk nn_.1; clear nn_ bgb287_ bgb289_; clear hb hbox hg; have hnb86 := NB293_287.out; have hnc86 := NB287_293.out; have hnb87 := NB293_289.out; have hnc87 := NB289_293.out; have hcz88_0 : w85.cell? ⟨gb293, 0, none⟩ = some (.int .i64 0) := (blk_cell BK293.out 0).trans rfl; have hcz88_1 : w85.cell? ⟨gb293, 1, none⟩ = some (.int .u64 0) := (blk_cell BK293.out 1).trans rfl; have hfz88_0 := blk_frozen BK293.out 0; have hfz88_1 := blk_frozen BK293.out 1; have hcz89_0 : w85.cell? ⟨gb287, 0, none⟩ = some (.int .i64 0) := (blk_cell BK287.out 0).trans rfl; have hcz89_1 : w85.cell? ⟨gb287, 1, none⟩ = some (.int .u64 0) := (blk_cell BK287.out 1).trans rfl; have hfz89_0 := blk_frozen BK287.out 0; have hfz89_1 := blk_frozen BK287.out 1))
              refine bodyPost_ret (results_ct rfl _ _ gb287 24 #[.int .i64 0, .int .u64 0] (0, 0) _ rfl (by (with_reducible repeat (first | refine blk_drewN ?_ _ | refine blk_drew ?_ | refine blk_alloc ?_ _)); refine blk_put (cs := #[.int .i64 0, .int .u64 0]) ?_ 1 _ rfl; (with_reducible repeat (first | refine blk_drewN ?_ _ | refine blk_drew ?_ | refine blk_alloc ?_ _)); refine blk_put (cs := #[.int .i64 0, .int .u64 0]) ?_ 0 _ rfl; (with_reducible repeat (first | refine blk_drewN ?_ _ | refine blk_drew ?_ | refine blk_alloc ?_ _)); refine blk_far ?_ NB287_293.out _; (with_reducible repeat (first | refine blk_drewN ?_ _ | refine blk_drew ?_ | refine blk_alloc ?_ _)); refine blk_far ?_ NB287_293.out _; (with_reducible repeat (first | refine blk_drewN ?_ _ | refine blk_drew ?_ | refine blk_alloc ?_ _)); exact BK287.out) Try.underlying24 rfl (by kernel_rfl)) rfl ?_
              exact ⟨by first | rfl | (simp [errW_none, errW_some] <;> rfl) | (simp [*, errW_none, errW_some] <;> rfl), bE⟩
    · rw [if_neg c4] at H
      exact absurd H (by simp)
  · replace c3 := Bool.eq_false_iff.mpr c3
    subst c3
    have H1 : (some (0, 0, 2)) = some (r1, r2, r3) := by rw [if_neg (show ¬ (false = true) by decide)] at H; exact H
    clear H
    have H := H1
    clear H1
    simp only [Option.some.injEq, Prod.mk.injEq] at H
    obtain ⟨rfl, rfl, rfl⟩ := H
    go_enter Try.func14, Try.ntmps14
    go_wp2_with (first | ((with_reducible refine gate_dst (N := 2) rfl ?_); refine box_event ?hg (N := 2) ?hd (cs := #[.int .i64 0, .int .u64 0]) (t := 24) ?hr ?_; (case hd => rfl); (case hg => rfl); (case hr => first | (go_simp; done) | (go_simp; rfl)); intro gb287 hg w90 hbox hb; have nn_ := bT hb hg; have BK287 := Aside0.mk (hbox); have GW287 := Aside0.mk nn_.2; have GE287 := GW287; replace HB := Aside0.mk nn_.1; clear nn_; clear hb hbox hg) | ((with_reducible refine gate_callee (f := 39) rfl ?_); refine goesL_ (some 13) rfl rfl Try.func39 (by kernel_rfl) rfl #[.string a0] rfl aG ?_; (with_reducible refine (corebankref01_Decimal.calls k a0 false _ A2.out).mono ?_); rintro e w' ⟨rfl, ⟨nd, rfl⟩⟩; refine ⟨_, rfl, ?_⟩; have hcz91_0 : w90.cell? ⟨gb287, 0, none⟩ = some (.int .i64 0) := (blk_cell BK287.out 0).trans rfl; have hcz91_1 : w90.cell? ⟨gb287, 1, none⟩ = some (.int .u64 0) := (blk_cell BK287.out 1).trans rfl; have hfz91_0 := blk_frozen BK287.out 0; have hfz91_1 := blk_frozen BK287.out 1))
    refine bodyPost_ret (results_ct rfl _ _ gb287 24 #[.int .i64 0, .int .u64 0] (0, 0) _ rfl (by (with_reducible repeat (first | refine blk_drewN ?_ _ | refine blk_drew ?_ | refine blk_alloc ?_ _)); refine blk_put (cs := #[.int .i64 0, .int .u64 0]) ?_ 1 _ rfl; (with_reducible repeat (first | refine blk_drewN ?_ _ | refine blk_drew ?_ | refine blk_alloc ?_ _)); refine blk_put (cs := #[.int .i64 0, .int .u64 0]) ?_ 0 _ rfl; (with_reducible repeat (first | refine blk_drewN ?_ _ | refine blk_drew ?_ | refine blk_alloc ?_ _)); exact BK287.out) Try.underlying24 rfl (by kernel_rfl)) rfl ?_
    exact ⟨by first | rfl | (simp [errW_none, errW_some] <;> rfl) | (simp [*, errW_none, errW_some] <;> rfl), bE⟩

end Go.Proofs.Ytkhocaehhflpcaa.PA
