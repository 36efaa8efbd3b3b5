/- Contracts of the Go functions and their plain Lean functions, written by a program of this session out of the translation. -/
import Derived.Test.YtkhocaehhflpcaaPAx0
import Derived.Test.YtkhocaehhflpcaaPAx7
import Derived.Test.YtkhocaehhflpcaaPAx8
namespace Go.Proofs.Ytkhocaehhflpcaa.PA
open Go.RowKit Go.Proofs.YtkhocaehhflpcaaW.PrintWords Go.Proofs.YtkhocaehhflpcaaW.PrintLast Go.Proofs.YtkhocaehhflpcaaW.PrintMore
attribute [local go_sem] max2_int min2_int max_two min_two max_three min_three max_four min_four   -- for this text's walks alone
set_option linter.unusedVariables false
set_option linter.unusedSimpArgs false

/-! ### corebankref01_Div: function 11 -/
def corebankref01_Div.j0 : Nat → Int → Bool → Int → Bool → Int → Int → Option (Int × Int × Int × Int)
  | 0, _, _, _, _, _, _ => none
  | k + 1, x1, x7, x10, x32, x182000, x182001 => if x32 = true then ((corebankref01_plus.f x182000 x182001 0 1).bind fun bt182 => ((corebankref01_Join.f x7 bt182.1 bt182.2.1).bind fun bt185 => (some (bt185.1, bt185.2.1, wrap64 (IntKind.u64.wrap ((IntKind.u64.wrap (x1)) - x10)), 0)))) else ((corebankref01_Join.f x7 x182000 x182001).bind fun bt189 => (some (bt189.1, bt189.2.1, wrap64 (x10), 0)))
def corebankref01_Div.f (k : Nat) (a0_0 : Int) (a0_1 : Int) (a1 : Int) : Option (Int × Int × Int × Int) := if a1 < 1 then (some (0, 0, 0, 1)) else ((corebankref01_Split.f a0_0 a0_1).bind fun bt174 => ((corebankref01_Quotient.f k bt174.2.1 bt174.2.2 (IntKind.u64.wrap (a1))).bind fun bt178 => (if bt174.1 = true then (corebankref01_Div.j0 k a1 bt174.1 bt178.2.2 (decide (bt178.2.2 > 0)) bt178.1 bt178.2.1) else (corebankref01_Div.j0 k a1 bt174.1 bt178.2.2 false bt178.1 bt178.2.1))))
theorem corebankref01_Div.mono_l : ∀ k, (∀ y0 y1 y2 y3 y4 y5, LeO (corebankref01_Div.j0 k y0 y1 y2 y3 y4 y5) (corebankref01_Div.j0 (k + 1) y0 y1 y2 y3 y4 y5))
  | 0 => fun _ _ _ _ _ _ r h => by simp [corebankref01_Div.j0] at h
  | k + 1 => by
    have ih0 := corebankref01_Div.mono_l k
    · intro y0 y1 y2 y3 y4 y5
      unfold corebankref01_Div.j0
      repeat' first
      | (with_reducible exact ih0 _ _ _ _ _ _)
      | (with_reducible exact corebankref01_Quotient.mono _ _ _ _)
      | (with_reducible exact LeO.refl _)
      | (with_reducible exact LeO.none _)
      | (with_reducible refine LeO.ite ?_ ?_)
      | (with_reducible refine LeO.bind ?_ (fun _ => ?_))
      | exact ih0 _ _ _ _ _ _
      | exact corebankref01_Quotient.mono _ _ _ _
      | exact LeO.none _
      | refine LeO.ite ?_ ?_
      | refine LeO.bind ?_ (fun _ => ?_)
theorem corebankref01_Div.mono : ∀ a0 a1 a2 k, LeO (corebankref01_Div.f k a0 a1 a2) (corebankref01_Div.f (k + 1) a0 a1 a2) := by
  intro a0 a1 a2 k
  have ih0 := corebankref01_Div.mono_l k
  unfold corebankref01_Div.f
  repeat' first
      | (with_reducible exact ih0 _ _ _ _ _ _)
      | (with_reducible exact corebankref01_Quotient.mono _ _ _ _)
      | (with_reducible exact LeO.refl _)
      | (with_reducible exact LeO.none _)
      | (with_reducible refine LeO.ite ?_ ?_)
      | (with_reducible refine LeO.bind ?_ (fun _ => ?_))
      | exact ih0 _ _ _ _ _ _
      | exact corebankref01_Quotient.mono _ _ _ _
      | exact LeO.none _
      | refine LeO.ite ?_ ?_
      | refine LeO.bind ?_ (fun _ => ?_)
set_option maxHeartbeats 8000000 in
set_option maxRecDepth 100000 in
theorem corebankref01_Div.calls (k : Nat) (a0_0 : Int) (a0_1 : Int) (a1 : Int) (r1 : Int) (r2 : Int) (r3 : Int) (r4 : Int) (w : World) (h : corebankref01_Div.f k a0_0 a0_1 a1 = some (r1, r2, r3, r4)) :
    Calls Try.prog 11 #[.agg #[.int .i64 a0_0, .int .u64 a0_1], .int .i64 a1] w fun e w' => e = .returned (.tuple #[.agg #[.int .i64 r1, .int .u64 r2], .int .i64 r3, .int .i64 r4]) ∧ Below w.heap.size w w' := by
  have hu24 := Try.underlying24
  have hu53 := Try.underlying53
  have HB := Aside0.mk (Below.refl w.heap.size w)
  have H : (if a1 < 1 then (some (0, 0, 0, 1)) else ((corebankref01_Split.f a0_0 a0_1).bind fun bt174 => ((corebankref01_Quotient.f k bt174.2.1 bt174.2.2 (IntKind.u64.wrap (a1))).bind fun bt178 => (if bt174.1 = true then (corebankref01_Div.j0 k a1 bt174.1 bt178.2.2 (decide (bt178.2.2 > 0)) bt178.1 bt178.2.1) else (corebankref01_Div.j0 k a1 bt174.1 bt178.2.2 false bt178.1 bt178.2.1))))) = some (r1, r2, r3, r4) := h
  clear h
  by_cases c3 : a1 < 1
  · rw [if_pos c3] at H
    have c3b0 : decide (a1 < 1) = true := decide_eq_true c3
    clear c3
    simp only [Option.some.injEq, Prod.mk.injEq] at H
    obtain ⟨rfl, rfl, rfl, rfl⟩ := H
    go_enter Try.func11, Try.ntmps11
    go_wp2_with (first | ((with_reducible refine gate_dst (N := 2) rfl ?_); refine box_event ?hg (N := 2) ?hd (cs := #[.int .i64 a0_0, .int .u64 a0_1]) (t := 24) ?hr ?_; (case hd => rfl); (case hg => rfl); (case hr => first | (go_simp; done) | (go_simp; rfl)); intro gb172 hg w4 hbox hb; have nn_ := bT hb hg; have BK172 := Aside0.mk (hbox); have GW172 := Aside0.mk nn_.2; have GE172 := GW172; replace HB := Aside0.mk nn_.1; clear nn_; clear hb hbox hg) | ((with_reducible refine gate_dst (N := 4) rfl ?_); refine box_event ?hg (N := 4) ?hd (cs := #[.int .i64 0, .int .u64 0]) (t := 24) ?hr ?_; (case hd => rfl); (case hg => rfl); (case hr => first | (go_simp; done) | (go_simp; rfl)); intro gb173 hg w5 hbox hb; have nn_ := bT hb hg; have bgb172_ := bN BK172 hb hg; have BK173 := Aside0.mk (hbox); have GW173 := Aside0.mk nn_.2; have GE173 := GW173; have NB172_173 := Aside0.mk bgb172_.2.1; have NB173_172 := Aside0.mk bgb172_.2.2; replace BK172 := Aside0.mk bgb172_.1; replace HB := Aside0.mk nn_.1; clear nn_ bgb172_; clear hb hbox hg; have hnb6 := NB173_172.out; have hnc6 := NB172_173.out; have hcz7_0 : w5.cell? ⟨gb173, 0, none⟩ = some (.int .i64 0) := (blk_cell BK173.out 0).trans rfl; have hcz7_1 : w5.cell? ⟨gb173, 1, none⟩ = some (.int .u64 0) := (blk_cell BK173.out 1).trans rfl; have hfz7_0 := blk_frozen BK173.out 0; have hfz7_1 := blk_frozen BK173.out 1))
    refine bodyPost_ret (results_ctt rfl _ _ gb173 24 #[.int .i64 0, .int .u64 0] (0, 0) _ rfl (by (with_reducible repeat (first | refine blk_drewN ?_ _ | refine blk_drew ?_ | refine blk_alloc ?_ _)); refine blk_put (cs := #[.int .i64 0, .int .u64 0]) ?_ 1 _ rfl; (with_reducible repeat (first | refine blk_drewN ?_ _ | refine blk_drew ?_ | refine blk_alloc ?_ _)); refine blk_put (cs := #[.int .i64 0, .int .u64 0]) ?_ 0 _ rfl; (with_reducible repeat (first | refine blk_drewN ?_ _ | refine blk_drew ?_ | refine blk_alloc ?_ _)); exact BK173.out) Try.underlying24 rfl (by kernel_rfl)) rfl ?_
    exact ⟨by first | rfl | (simp [errW_none, errW_some] <;> rfl) | (simp [*, errW_none, errW_some] <;> rfl), bE⟩
  · rw [if_neg c3] at H
    have c3b0 : decide (a1 < 1) = false := decide_eq_false c3
    clear c3
    replace H := Option.bind_eq_some_iff.mp H
    obtain ⟨⟨t174, t175, t176⟩, A80, H⟩ := H
    replace H : ((corebankref01_Quotient.f k t175 t176 (IntKind.u64.wrap (a1))).bind fun bt178 => (if t174 = true then (corebankref01_Div.j0 k a1 t174 bt178.2.2 (decide (bt178.2.2 > 0)) bt178.1 bt178.2.1) else (corebankref01_Div.j0 k a1 t174 bt178.2.2 false bt178.1 bt178.2.1))) = some (r1, r2, r3, r4) := H
    have A8 := Aside0.mk A80
    clear A80
    replace H := Option.bind_eq_some_iff.mp H
    obtain ⟨⟨t178, t179, t180⟩, A90, H⟩ := H
    replace H : (if t174 = true then (corebankref01_Div.j0 k a1 t174 t180 (decide (t180 > 0)) t178 t179) else (corebankref01_Div.j0 k a1 t174 t180 false t178 t179)) = some (r1, r2, r3, r4) := H
    have A9 := Aside0.mk A90
    clear A90
    have HC10 := Aside0.mk H
    clear H
    go_enter Try.func11, Try.ntmps11
    go_upto_region 5 with (first | ((with_reducible refine gate_dst (N := 2) rfl ?_); refine box_event ?hg (N := 2) ?hd (cs := #[.int .i64 a0_0, .int .u64 a0_1]) (t := 24) ?hr ?_; (case hd => rfl); (case hg => rfl); (case hr => first | (go_simp; done) | (go_simp; rfl)); intro gb172 hg w11 hbox hb; have nn_ := bT hb hg; have BK172 := Aside0.mk (hbox); have GW172 := Aside0.mk nn_.2; have GE172 := GW172; replace HB := Aside0.mk nn_.1; clear nn_; clear hb hbox hg) | ((with_reducible refine gate_dst (N := 4) rfl ?_); refine box_event ?hg (N := 4) ?hd (cs := #[.int .i64 0, .int .u64 0]) (t := 24) ?hr ?_; (case hd => rfl); (case hg => rfl); (case hr => first | (go_simp; done) | (go_simp; rfl)); intro gb173 hg w12 hbox hb; have nn_ := bT hb hg; have bgb172_ := bN BK172 hb hg; have BK173 := Aside0.mk (hbox); have GW173 := Aside0.mk nn_.2; have GE173 := GW173; have NB172_173 := Aside0.mk bgb172_.2.1; have NB173_172 := Aside0.mk bgb172_.2.2; replace BK172 := Aside0.mk bgb172_.1; replace HB := Aside0.mk nn_.1; clear nn_ bgb172_; clear hb hbox hg; have hnb13 := NB172_173.out; have hnc13 := NB173_172.out; have hcz14_0 : w12.cell? ⟨gb172, 0, none⟩ = some (.int .i64 a0_0) := (blk_cell BK172.out 0).trans rfl; have hcz14_1 : w12.cell? ⟨gb172, 1, none⟩ = some (.int .u64 a0_1) := (blk_cell BK172.out 1).trans rfl; have hfz14_0 := blk_frozen BK172.out 0; have hfz14_1 := blk_frozen BK172.out 1) | ((with_reducible refine gate_callee (f := 35) rfl ?_); refine goesL_ (some 18) rfl rfl Try.func35 (by kernel_rfl) rfl #[.agg #[.int .i64 a0_0, .int .u64 a0_1]] rfl aG ?_; (with_reducible refine (corebankref01_Split.calls a0_0 a0_1 t174 t175 t176 _ A8.out).mono ?_); rintro e w15 ⟨rfl, hb⟩; refine ⟨_, rfl, ?_⟩; replace BK172 := Aside0.mk (bK BK172 hb); replace BK173 := Aside0.mk (bK BK173 hb); replace HB := Aside0.mk (bS hb); (try clear hb); (try clear hb2); (try clear hk); (try clear hi)) | ((with_reducible refine gate_dst (N := 8) rfl ?_); refine box_event ?hg (N := 8) ?hd (cs := #[.int .u64 0, .int .u64 0]) (t := 53) ?hr ?_; (case hd => rfl); (case hg => rfl); (case hr => first | (go_simp; done) | (go_simp; rfl)); intro gb177 hg w16 hbox hb; have nn_ := bT hb hg; have bgb172_ := bN BK172 hb hg; have bgb173_ := bN BK173 hb hg; have BK177 := Aside0.mk (hbox); have GW177 := Aside0.mk nn_.2; have GE177 := GW177; have NB172_177 := Aside0.mk bgb172_.2.1; have NB177_172 := Aside0.mk bgb172_.2.2; have NB173_177 := Aside0.mk bgb173_.2.1; have NB177_173 := Aside0.mk bgb173_.2.2; replace BK172 := Aside0.mk bgb172_.1; replace BK173 := Aside0.mk bgb173_.1; replace HB := Aside0.mk nn_.1; clear nn_ bgb172_ bgb173_; clear hb hbox hg; have hnb17 := NB177_172.out; have hnc17 := NB172_177.out; have hnb18 := NB177_173.out; have hnc18 := NB173_177.out; have hcz19_0 : w16.cell? ⟨gb177, 0, none⟩ = some (.int .u64 0) := (blk_cell BK177.out 0).trans rfl; have hcz19_1 : w16.cell? ⟨gb177, 1, none⟩ = some (.int .u64 0) := (blk_cell BK177.out 1).trans rfl; have hfz19_0 := blk_frozen BK177.out 0; have hfz19_1 := blk_frozen BK177.out 1) | ((with_reducible refine gate_callee (f := 36) rfl ?_); refine goesL_ (some 25) rfl rfl Try.func36 (by kernel_rfl) rfl #[.agg #[.int .u64 t175, .int .u64 t176], .int .u64 (IntKind.u64.wrap (a1))] rfl aG ?_; (with_reducible refine (corebankref01_Quotient.calls k t175 t176 (IntKind.u64.wrap (a1)) t178 t179 t180 _ A9.out).mono ?_); rintro e w20 ⟨rfl, hb⟩; refine ⟨_, rfl, ?_⟩; replace BK172 := Aside0.mk (blk_below (g := gb172) (o := .cells #[.int .i64 a0_0, .int .u64 a0_1] 24 (0, 0)) (by (with_reducible repeat (first | refine blk_drewN ?_ _ | refine blk_drew ?_ | refine blk_alloc ?_ _)); refine blk_far ?_ NB172_177.out _; (with_reducible repeat (first | refine blk_drewN ?_ _ | refine blk_drew ?_ | refine blk_alloc ?_ _)); refine blk_far ?_ NB172_177.out _; (with_reducible repeat (first | refine blk_drewN ?_ _ | refine blk_drew ?_ | refine blk_alloc ?_ _)); exact BK172.out) hb); replace BK173 := Aside0.mk (blk_below (g := gb173) (o := .cells #[.int .i64 0, .int .u64 0] 24 (0, 0)) (by (with_reducible repeat (first | refine blk_drewN ?_ _ | refine blk_drew ?_ | refine blk_alloc ?_ _)); refine blk_far ?_ NB173_177.out _; (with_reducible repeat (first | refine blk_drewN ?_ _ | refine blk_drew ?_ | refine blk_alloc ?_ _)); refine blk_far ?_ NB173_177.out _; (with_reducible repeat (first | refine blk_drewN ?_ _ | refine blk_drew ?_ | refine blk_alloc ?_ _)); exact BK173.out) hb); replace BK177 := Aside0.mk (blk_below (g := gb177) (o := .cells #[.int .u64 t175, .int .u64 t176] 53 (0, 0)) (by (with_reducible repeat (first | refine blk_drewN ?_ _ | refine blk_drew ?_ | refine blk_alloc ?_ _)); refine blk_put (cs := #[.int .u64 t175, .int .u64 0]) ?_ 1 _ rfl; (with_reducible repeat (first | refine blk_drewN ?_ _ | refine blk_drew ?_ | refine blk_alloc ?_ _)); refine blk_put (cs := #[.int .u64 0, .int .u64 0]) ?_ 0 _ rfl; (with_reducible repeat (first | refine blk_drewN ?_ _ | refine blk_drew ?_ | refine blk_alloc ?_ _)); exact BK177.out) hb); replace HB := Aside0.mk (bS hb); (try clear hb); (try clear hb2); (try clear hk); (try clear hi)) | ((with_reducible refine gate_dst (N := 9) rfl ?_); refine box_event ?hg (N := 9) ?hd (cs := #[.int .u64 0, .int .u64 0]) (t := 53) ?hr ?_; (case hd => rfl); (case hg => rfl); (case hr => first | (go_simp; done) | (go_simp; rfl)); intro gb181 hg w21 hbox hb; have nn_ := bT hb hg; have bgb172_ := bN BK172 hb hg; have bgb173_ := bN BK173 hb hg; have bgb177_ := bN BK177 hb hg; have BK181 := Aside0.mk (hbox); have GW181 := Aside0.mk nn_.2; have GE181 := GW181; have NB172_181 := Aside0.mk bgb172_.2.1; have NB181_172 := Aside0.mk bgb172_.2.2; have NB173_181 := Aside0.mk bgb173_.2.1; have NB181_173 := Aside0.mk bgb173_.2.2; have NB177_181 := Aside0.mk bgb177_.2.1; have NB181_177 := Aside0.mk bgb177_.2.2; replace BK172 := Aside0.mk bgb172_.1; replace BK173 := Aside0.mk bgb173_.1; replace BK177 := Aside0.mk bgb177_.1; replace HB := Aside0.mk nn_.1; clear nn_ bgb172_ bgb173_ bgb177_; clear hb hbox hg; have hnb22 := NB181_172.out; have hnc22 := NB172_181.out; have hnb23 := NB181_173.out; have hnc23 := NB173_181.out; have hnb24 := NB181_177.out; have hnc24 := NB177_181.out; have hcz25_0 : w21.cell? ⟨gb181, 0, none⟩ = some (.int .u64 0) := (blk_cell BK181.out 0).trans rfl; have hcz25_1 : w21.cell? ⟨gb181, 1, none⟩ = some (.int .u64 0) := (blk_cell BK181.out 1).trans rfl; have hfz25_0 := blk_frozen BK181.out 0; have hfz25_1 := blk_frozen BK181.out 1))
    (try simp only [Act.put, List.setIfInBounds_toArray, List.set_cons_zero, List.set_cons_succ])
    go_cut [32] (fun v32 wc => ∃ (kq : Nat) (x32_9 : Bool), v32 = .bool x32_9 ∧ Aside0 (corebankref01_Div.j0 kq a1 t174 t180 x32_9 t178 t179 = some (r1, r2, r3, r4)) ∧ Aside0 (kq ≤ k) ∧ Aside0 (wc.heap[gb172]? = some (.cells #[.int .i64 a0_0, .int .u64 a0_1] 24 (0, 0))) ∧ Aside0 (wc.heap[gb173]? = some (.cells #[.int .i64 0, .int .u64 0] 24 (0, 0))) ∧ Aside0 (wc.heap[gb177]? = some (.cells #[.int .u64 t175, .int .u64 t176] 53 (0, 0))) ∧ Aside0 (wc.heap[gb181]? = some (.cells #[.int .u64 t178, .int .u64 t179] 53 (0, 0))) ∧ Aside0 (Below w.heap.size w wc))
    case first =>
      have H := HC10.out
      clear HC10
      by_cases c26 : t174 = true
      · subst c26
        have H1 : (corebankref01_Div.j0 k a1 true t180 (decide (t180 > 0)) t178 t179) = some (r1, r2, r3, r4) := by rw [if_pos rfl] at H; exact H
        clear H
        have H := H1
        clear H1
        have H' := Aside0.mk H
        clear H
        go_wp2
        go_meet
        case rel => exact ⟨_, (decide (t180 > 0)), (by first | rfl | (simp; done) | (simp [*]; done)), H', ⟨by first | omega | exact Nat.le_refl _⟩, ⟨by (with_reducible repeat (first | refine blk_drewN ?_ _ | refine blk_drew ?_ | refine blk_alloc ?_ _)); refine blk_far ?_ NB172_181.out _; (with_reducible repeat (first | refine blk_drewN ?_ _ | refine blk_drew ?_ | refine blk_alloc ?_ _)); refine blk_far ?_ NB172_181.out _; (with_reducible repeat (first | refine blk_drewN ?_ _ | refine blk_drew ?_ | refine blk_alloc ?_ _)); exact BK172.out⟩, ⟨by (with_reducible repeat (first | refine blk_drewN ?_ _ | refine blk_drew ?_ | refine blk_alloc ?_ _)); refine blk_far ?_ NB173_181.out _; (with_reducible repeat (first | refine blk_drewN ?_ _ | refine blk_drew ?_ | refine blk_alloc ?_ _)); refine blk_far ?_ NB173_181.out _; (with_reducible repeat (first | refine blk_drewN ?_ _ | refine blk_drew ?_ | refine blk_alloc ?_ _)); exact BK173.out⟩, ⟨by (with_reducible repeat (first | refine blk_drewN ?_ _ | refine blk_drew ?_ | refine blk_alloc ?_ _)); refine blk_far ?_ NB177_181.out _; (with_reducible repeat (first | refine blk_drewN ?_ _ | refine blk_drew ?_ | refine blk_alloc ?_ _)); refine blk_far ?_ NB177_181.out _; (with_reducible repeat (first | refine blk_drewN ?_ _ | refine blk_drew ?_ | refine blk_alloc ?_ _)); exact BK177.out⟩, ⟨by (with_reducible repeat (first | refine blk_drewN ?_ _ | refine blk_drew ?_ | refine blk_alloc ?_ _)); refine blk_put (cs := #[.int .u64 t178, .int .u64 0]) ?_ 1 _ rfl; (with_reducible repeat (first | refine blk_drewN ?_ _ | refine blk_drew ?_ | refine blk_alloc ?_ _)); refine blk_put (cs := #[.int .u64 0, .int .u64 0]) ?_ 0 _ rfl; (with_reducible repeat (first | refine blk_drewN ?_ _ | refine blk_drew ?_ | refine blk_alloc ?_ _)); exact BK181.out⟩, ⟨bE⟩⟩
      · replace c26 := Bool.eq_false_iff.mpr c26
        subst c26
        have H1 : (corebankref01_Div.j0 k a1 false t180 false t178 t179) = some (r1, r2, r3, r4) := by rw [if_neg (show ¬ (false = true) by decide)] at H; exact H
        clear H
        have H := H1
        clear H1
        have H' := Aside0.mk H
        clear H
        go_wp2
        go_meet
        case rel => exact ⟨_, (false), (by first | rfl | (simp; done) | (simp [*]; done)), H', ⟨by first | omega | exact Nat.le_refl _⟩, ⟨by (with_reducible repeat (first | refine blk_drewN ?_ _ | refine blk_drew ?_ | refine blk_alloc ?_ _)); refine blk_far ?_ NB172_181.out _; (with_reducible repeat (first | refine blk_drewN ?_ _ | refine blk_drew ?_ | refine blk_alloc ?_ _)); refine blk_far ?_ NB172_181.out _; (with_reducible repeat (first | refine blk_drewN ?_ _ | refine blk_drew ?_ | refine blk_alloc ?_ _)); exact BK172.out⟩, ⟨by (with_reducible repeat (first | refine blk_drewN ?_ _ | refine blk_drew ?_ | refine blk_alloc ?_ _)); refine blk_far ?_ NB173_181.out _; (with_reducible repeat (first | refine blk_drewN ?_ _ | refine blk_drew ?_ | refine blk_alloc ?_ _)); refine blk_far ?_ NB173_181.out _; (with_reducible repeat (first | refine blk_drewN ?_ _ | refine blk_drew ?_ | refine blk_alloc ?_ _)); exact BK173.out⟩, ⟨by (with_reducible repeat (first | refine blk_drewN ?_ _ | refine blk_drew ?_ | refine blk_alloc ?_ _)); refine blk_far ?_ NB177_181.out _; (with_reducible repeat (first | refine blk_drewN ?_ _ | refine blk_drew ?_ | refine blk_alloc ?_ _)); refine blk_far ?_ NB177_181.out _; (with_reducible repeat (first | refine blk_drewN ?_ _ | refine blk_drew ?_ | refine blk_alloc ?_ _)); exact BK177.out⟩, ⟨by (with_reducible repeat (first | refine blk_drewN ?_ _ | refine blk_drew ?_ | refine blk_alloc ?_ _)); refine blk_put (cs := #[.int .u64 t178, .int .u64 0]) ?_ 1 _ rfl; (with_reducible repeat (first | refine blk_drewN ?_ _ | refine blk_drew ?_ | refine blk_alloc ?_ _)); refine blk_put (cs := #[.int .u64 0, .int .u64 0]) ?_ 0 _ rfl; (with_reducible repeat (first | refine blk_drewN ?_ _ | refine blk_drew ?_ | refine blk_alloc ?_ _)); exact BK181.out⟩, ⟨bE⟩⟩
    case rest =>
      clear HC10
      try clear c1
      try clear c2
      try clear p2
      try clear c3
      try clear c3b0
      try clear c6
      try clear c11
      try clear c13
      try clear c17
      try clear c18
      try clear c22
      try clear c23
      try clear c24
      try clear c26
      try clear hcz14_0
      try clear hcz14_1
      try clear hcz19_0
      try clear hcz19_1
      try clear hcz25_0
      try clear hcz25_1
      try clear hcz7_0
      try clear hcz7_1
      try clear hfz14_0
      try clear hfz14_1
      try clear hfz19_0
      try clear hfz19_1
      try clear hfz25_0
      try clear hfz25_1
      try clear hfz7_0
      try clear hfz7_1
      obtain ⟨kq, x32_9, rfl, HA, HJ9, BK172, BK173, BK177, BK181, HB⟩ := hcut
      cases kq with
      | zero => exact absurd HA.out (by simp [corebankref01_Div.j0])
      | succ kj9 =>
        have H := HA.out
        clear HA
        simp only [corebankref01_Div.j0] at H
        by_cases c27 : x32_9 = true
        · subst c27
          have H1 : ((corebankref01_plus.f t178 t179 0 1).bind fun bt182 => ((corebankref01_Join.f t174 bt182.1 bt182.2.1).bind fun bt185 => (some (bt185.1, bt185.2.1, wrap64 (IntKind.u64.wrap ((IntKind.u64.wrap (a1)) - t180)), 0)))) = some (r1, r2, r3, r4) := by rw [if_pos rfl] at H; exact H
          clear H
          have H := H1
          clear H1
          replace H := Option.bind_eq_some_iff.mp H
          obtain ⟨⟨t182, t183, t184⟩, A280, H⟩ := H
          replace H : ((corebankref01_Join.f t174 t182 t183).bind fun bt185 => (some (bt185.1, bt185.2.1, wrap64 (IntKind.u64.wrap ((IntKind.u64.wrap (a1)) - t180)), 0))) = some (r1, r2, r3, r4) := H
          have A28 := Aside0.mk A280
          clear A280
          replace H := Option.bind_eq_some_iff.mp H
          obtain ⟨⟨t185, t186, t187⟩, A290, H⟩ := H
          replace H : (some (t185, t186, wrap64 (IntKind.u64.wrap ((IntKind.u64.wrap (a1)) - t180)), 0)) = some (r1, r2, r3, r4) := H
          have A29 := Aside0.mk A290
          clear A290
          simp only [Option.some.injEq, Prod.mk.injEq] at H
          obtain ⟨rfl, rfl, rfl, rfl⟩ := H
          have hnb30 := NB181_172.out
          have hnc30 := NB172_181.out
          have hnb31 := NB181_173.out
          have hnc31 := NB173_181.out
          have hnb32 := NB181_177.out
          have hnc32 := NB177_181.out
          have hcz33_0 : wc.cell? ⟨gb181, 0, none⟩ = some (.int .u64 t178) := (blk_cell BK181.out 0).trans rfl
          have hcz33_1 : wc.cell? ⟨gb181, 1, none⟩ = some (.int .u64 t179) := (blk_cell BK181.out 1).trans rfl
          have hfz33_0 := blk_frozen BK181.out 0
          have hfz33_1 := blk_frozen BK181.out 1
          go_wp2_with (first | ((with_reducible refine gate_callee (f := 37) rfl ?_); refine goesL_ (some 36) rfl rfl Try.func37 (by kernel_rfl) rfl #[.agg #[.int .u64 t178, .int .u64 t179], .agg #[.int .u64 0, .int .u64 1]] rfl aG ?_; (with_reducible refine (corebankref01_plus.calls t178 t179 0 1 t182 t183 t184 _ A28.out).mono ?_); rintro e w34 ⟨rfl, hb⟩; refine ⟨_, rfl, ?_⟩; replace BK172 := Aside0.mk (bK BK172 hb); replace BK173 := Aside0.mk (bK BK173 hb); replace BK177 := Aside0.mk (bK BK177 hb); replace BK181 := Aside0.mk (bK BK181 hb); replace HB := Aside0.mk (bS hb); (try clear hb); (try clear hb2); (try clear hk); (try clear hi); have hcz35_0 : w34.cell? ⟨gb181, 0, none⟩ = some (.int .u64 t178) := (blk_cell BK181.out 0).trans rfl; have hcz35_1 : w34.cell? ⟨gb181, 1, none⟩ = some (.int .u64 t179) := (blk_cell BK181.out 1).trans rfl; have hfz35_0 := blk_frozen BK181.out 0; have hfz35_1 := blk_frozen BK181.out 1) | ((with_reducible refine gate_callee (f := 38) rfl ?_); refine goesL_ (some 46) rfl rfl Try.func38 (by kernel_rfl) rfl #[.bool t174, .agg #[.int .u64 t182, .int .u64 t183]] rfl aG ?_; (with_reducible refine (corebankref01_Join.calls t174 t182 t183 t185 t186 t187 _ A29.out).mono ?_); rintro e w36 ⟨rfl, hb⟩; refine ⟨_, rfl, ?_⟩; replace BK172 := Aside0.mk (blk_below (g := gb172) (o := .cells #[.int .i64 a0_0, .int .u64 a0_1] 24 (0, 0)) (by (with_reducible repeat (first | refine blk_drewN ?_ _ | refine blk_drew ?_ | refine blk_alloc ?_ _)); refine blk_far ?_ NB172_181.out _; (with_reducible repeat (first | refine blk_drewN ?_ _ | refine blk_drew ?_ | refine blk_alloc ?_ _)); refine blk_far ?_ NB172_181.out _; (with_reducible repeat (first | refine blk_drewN ?_ _ | refine blk_drew ?_ | refine blk_alloc ?_ _)); exact BK172.out) hb); replace BK173 := Aside0.mk (blk_below (g := gb173) (o := .cells #[.int .i64 0, .int .u64 0] 24 (0, 0)) (by (with_reducible repeat (first | refine blk_drewN ?_ _ | refine blk_drew ?_ | refine blk_alloc ?_ _)); refine blk_far ?_ NB173_181.out _; (with_reducible repeat (first | refine blk_drewN ?_ _ | refine blk_drew ?_ | refine blk_alloc ?_ _)); refine blk_far ?_ NB173_181.out _; (with_reducible repeat (first | refine blk_drewN ?_ _ | refine blk_drew ?_ | refine blk_alloc ?_ _)); exact BK173.out) hb); replace BK177 := Aside0.mk (blk_below (g := gb177) (o := .cells #[.int .u64 t175, .int .u64 t176] 53 (0, 0)) (by (with_reducible repeat (first | refine blk_drewN ?_ _ | refine blk_drew ?_ | refine blk_alloc ?_ _)); refine blk_far ?_ NB177_181.out _; (with_reducible repeat (first | refine blk_drewN ?_ _ | refine blk_drew ?_ | refine blk_alloc ?_ _)); refine blk_far ?_ NB177_181.out _; (with_reducible repeat (first | refine blk_drewN ?_ _ | refine blk_drew ?_ | refine blk_alloc ?_ _)); exact BK177.out) hb); replace BK181 := Aside0.mk (blk_below (g := gb181) (o := .cells #[.int .u64 t182, .int .u64 t183] 53 (0, 0)) (by (with_reducible repeat (first | refine blk_drewN ?_ _ | refine blk_drew ?_ | refine blk_alloc ?_ _)); refine blk_put (cs := #[.int .u64 t182, .int .u64 t179]) ?_ 1 _ rfl; (with_reducible repeat (first | refine blk_drewN ?_ _ | refine blk_drew ?_ | refine blk_alloc ?_ _)); refine blk_put (cs := #[.int .u64 t178, .int .u64 t179]) ?_ 0 _ rfl; (with_reducible repeat (first | refine blk_drewN ?_ _ | refine blk_drew ?_ | refine blk_alloc ?_ _)); exact BK181.out) hb); replace HB := Aside0.mk (bS hb); (try clear hb); (try clear hb2); (try clear hk); (try clear hi)) | ((with_reducible refine gate_dst (N := 11) rfl ?_); refine box_event ?hg (N := 11) ?hd (cs := #[.int .i64 0, .int .u64 0]) (t := 24) ?hr ?_; (case hd => rfl); (case hg => rfl); (case hr => first | (go_simp; done) | (go_simp; rfl)); intro gb188 hg w37 hbox hb; have nn_ := bT hb hg; have bgb172_ := bN BK172 hb hg; have bgb173_ := bN BK173 hb hg; have bgb177_ := bN BK177 hb hg; have bgb181_ := bN BK181 hb hg; have BK188 := Aside0.mk (hbox); have GW188 := Aside0.mk nn_.2; have GE188 := GW188; have NB172_188 := Aside0.mk bgb172_.2.1; have NB188_172 := Aside0.mk bgb172_.2.2; have NB173_188 := Aside0.mk bgb173_.2.1; have NB188_173 := Aside0.mk bgb173_.2.2; have NB177_188 := Aside0.mk bgb177_.2.1; have NB188_177 := Aside0.mk bgb177_.2.2; have NB181_188 := Aside0.mk bgb181_.2.1; have NB188_181 := Aside0.mk bgb181_.2.2; replace BK172 := Aside0.mk bgb172_.1; replace BK173 := Aside0.mk bgb173_.1; replace BK177 := Aside0.mk bgb177_.1; replace BK181 := Aside0.mk bgb181_.1; replace HB := Aside0.mk nn_.1; clear nn_ bgb172_ bgb173_ bgb177_ bgb181_; clear hb hbox hg; have hnb38 := NB188_172.out; have hnc38 := NB172_188.out; have hnb39 := NB188_173.out; have hnc39 := NB173_188.out; have hnb40 := NB188_177.out; have hnc40 := NB177_188.out; have hnb41 := NB188_181.out; have hnc41 := NB181_188.out; have hcz42_0 : w37.cell? ⟨gb188, 0, none⟩ = some (.int .i64 0) := (blk_cell BK188.out 0).trans rfl; have hcz42_1 : w37.cell? ⟨gb188, 1, none⟩ = some (.int .u64 0) := (blk_cell BK188.out 1).trans rfl; have hfz42_0 := blk_frozen BK188.out 0; have hfz42_1 := blk_frozen BK188.out 1; have hnb43 := NB173_172.out; have hnc43 := NB172_173.out; have hnb44 := NB173_177.out; have hnc44 := NB177_173.out; have hcz45_0 : w37.cell? ⟨gb173, 0, none⟩ = some (.int .i64 0) := (blk_cell BK173.out 0).trans rfl; have hcz45_1 : w37.cell? ⟨gb173, 1, none⟩ = some (.int .u64 0) := (blk_cell BK173.out 1).trans rfl; have hfz45_0 := blk_frozen BK173.out 0; have hfz45_1 := blk_frozen BK173.out 1))
          refine bodyPost_ret (results_ctt rfl _ _ gb173 24 #[.int .i64 t185, .int .u64 t186] (0, 0) _ rfl (by (with_reducible repeat (first | refine blk_drewN ?_ _ | refine blk_drew ?_ | refine blk_alloc ?_ _)); refine blk_put (cs := #[.int .i64 t185, .int .u64 0]) ?_ 1 _ rfl; (with_reducible repeat (first | refine blk_drewN ?_ _ | refine blk_drew ?_ | refine blk_alloc ?_ _)); refine blk_put (cs := #[.int .i64 0, .int .u64 0]) ?_ 0 _ rfl; (with_reducible repeat (first | refine blk_drewN ?_ _ | refine blk_drew ?_ | refine blk_alloc ?_ _)); refine blk_far ?_ NB173_188.out _; (with_reducible repeat (first | refine blk_drewN ?_ _ | refine blk_drew ?_ | refine blk_alloc ?_ _)); refine blk_far ?_ NB173_188.out _; (with_reducible repeat (first | refine blk_drewN ?_ _ | refine blk_drew ?_ | refine blk_alloc ?_ _)); exact BK173.out) Try.underlying24 rfl (by kernel_rfl)) rfl ?_
          exact ⟨by first | rfl | (simp [errW_none, errW_some] <;> rfl) | (simp [*, errW_none, errW_some] <;> rfl), bE⟩
        · replace c27 := Bool.eq_false_iff.mpr c27
          subst c27
          have H1 : ((corebankref01_Join.f t174 t178 t179).bind fun bt189 => (some (bt189.1, bt189.2.1, wrap64 (t180), 0))) = some (r1, r2, r3, r4) := by rw [if_neg (show ¬ (false = true) by decide)] at H; exact H
          clear H
          have H := H1
          clear H1
          replace H := Option.bind_eq_some_iff.mp H
          obtain ⟨⟨t189, t190, t191⟩, A460, H⟩ := H
          replace H : (some (t189, t190, wrap64 (t180), 0)) = some (r1, r2, r3, r4) := H
          have A46 := Aside0.mk A460
          clear A460
          simp only [Option.some.injEq, Prod.mk.injEq] at H
          obtain ⟨rfl, rfl, rfl, rfl⟩ := H
          have hnb47 := NB181_172.out
          have hnc47 := NB172_181.out
          have hnb48 := NB181_173.out
          have hnc48 := NB173_181.out
          have hnb49 := NB181_177.out
          have hnc49 := NB177_181.out
          have hcz50_0 : wc.cell? ⟨gb181, 0, none⟩ = some (.int .u64 t178) := (blk_cell BK181.out 0).trans rfl
          have hcz50_1 : wc.cell? ⟨gb181, 1, none⟩ = some (.int .u64 t179) := (blk_cell BK181.out 1).trans rfl
          have hfz50_0 := blk_frozen BK181.out 0
          have hfz50_1 := blk_frozen BK181.out 1
          go_wp2_with (first | ((with_reducible refine gate_callee (f := 38) rfl ?_); refine goesL_ (some 46) rfl rfl Try.func38 (by kernel_rfl) rfl #[.bool t174, .agg #[.int .u64 t178, .int .u64 t179]] rfl aG ?_; (with_reducible refine (corebankref01_Join.calls t174 t178 t179 t189 t190 t191 _ A46.out).mono ?_); rintro e w51 ⟨rfl, hb⟩; refine ⟨_, rfl, ?_⟩; replace BK172 := Aside0.mk (bK BK172 hb); replace BK173 := Aside0.mk (bK BK173 hb); replace BK177 := Aside0.mk (bK BK177 hb); replace BK181 := Aside0.mk (bK BK181 hb); replace HB := Aside0.mk (bS hb); (try clear hb); (try clear hb2); (try clear hk); (try clear hi)) | ((with_reducible refine gate_dst (N := 11) rfl ?_); refine box_event ?hg (N := 11) ?hd (cs := #[.int .i64 0, .int .u64 0]) (t := 24) ?hr ?_; (case hd => rfl); (case hg => rfl); (case hr => first | (go_simp; done) | (go_simp; rfl)); intro gb192 hg w52 hbox hb; have nn_ := bT hb hg; have bgb172_ := bN BK172 hb hg; have bgb173_ := bN BK173 hb hg; have bgb177_ := bN BK177 hb hg; have bgb181_ := bN BK181 hb hg; have BK192 := Aside0.mk (hbox); have GW192 := Aside0.mk nn_.2; have GE192 := GW192; have NB172_192 := Aside0.mk bgb172_.2.1; have NB192_172 := Aside0.mk bgb172_.2.2; have NB173_192 := Aside0.mk bgb173_.2.1; have NB192_173 := Aside0.mk bgb173_.2.2; have NB177_192 := Aside0.mk bgb177_.2.1; have NB192_177 := Aside0.mk bgb177_.2.2; have NB181_192 := Aside0.mk bgb181_.2.1; have NB192_181 := Aside0.mk bgb181_.2.2; replace BK172 := Aside0.mk bgb172_.1; replace BK173 := Aside0.mk bgb173_.1; replace BK177 := Aside0.mk bgb177_.1; replace BK181 := Aside0.mk bgb181_.1; replace HB := Aside0.mk nn_.1; clear nn_ bgb172_ bgb173_ bgb177_ bgb181_; clear hb hbox hg; have hnb53 := NB192_172.out; have hnc53 := NB172_192.out; have hnb54 := NB192_173.out; have hnc54 := NB173_192.out; have hnb55 := NB192_177.out; have hnc55 := NB177_192.out; have hnb56 := NB192_181.out; have hnc56 := NB181_192.out; have hcz57_0 : w52.cell? ⟨gb192, 0, none⟩ = some (.int .i64 0) := (blk_cell BK192.out 0).trans rfl; have hcz57_1 : w52.cell? ⟨gb192, 1, none⟩ = some (.int .u64 0) := (blk_cell BK192.out 1).trans rfl; have hfz57_0 := blk_frozen BK192.out 0; have hfz57_1 := blk_frozen BK192.out 1; have hnb58 := NB173_172.out; have hnc58 := NB172_173.out; have hnb59 := NB173_177.out; have hnc59 := NB177_173.out; have hcz60_0 : w52.cell? ⟨gb173, 0, none⟩ = some (.int .i64 0) := (blk_cell BK173.out 0).trans rfl; have hcz60_1 : w52.cell? ⟨gb173, 1, none⟩ = some (.int .u64 0) := (blk_cell BK173.out 1).trans rfl; have hfz60_0 := blk_frozen BK173.out 0; have hfz60_1 := blk_frozen BK173.out 1))
          refine bodyPost_ret (results_ctt rfl _ _ gb173 24 #[.int .i64 t189, .int .u64 t190] (0, 0) _ rfl (by (with_reducible repeat (first | refine blk_drewN ?_ _ | refine blk_drew ?_ | refine blk_alloc ?_ _)); refine blk_put (cs := #[.int .i64 t189, .int .u64 0]) ?_ 1 _ rfl; (with_reducible repeat (first | refine blk_drewN ?_ _ | refine blk_drew ?_ | refine blk_alloc ?_ _)); refine blk_put (cs := #[.int .i64 0, .int .u64 0]) ?_ 0 _ rfl; (with_reducible repeat (first | refine blk_drewN ?_ _ | refine blk_drew ?_ | refine blk_alloc ?_ _)); refine blk_far ?_ NB173_192.out _; (with_reducible repeat (first | refine blk_drewN ?_ _ | refine blk_drew ?_ | refine blk_alloc ?_ _)); refine blk_far ?_ NB173_192.out _; (with_reducible repeat (first | refine blk_drewN ?_ _ | refine blk_drew ?_ | refine blk_alloc ?_ _)); exact BK173.out) Try.underlying24 rfl (by kernel_rfl)) rfl ?_
          exact ⟨by first | rfl | (simp [errW_none, errW_some] <;> rfl) | (simp [*, errW_none, errW_some] <;> rfl), bE⟩

end Go.Proofs.Ytkhocaehhflpcaa.PA
