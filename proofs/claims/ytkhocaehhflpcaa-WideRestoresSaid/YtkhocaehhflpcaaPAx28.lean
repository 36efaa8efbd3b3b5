/- Contracts of the Go functions and their plain Lean functions, written by a program of this session out of the translation. -/
import Derived.Test.YtkhocaehhflpcaaPAx0
import Derived.Test.YtkhocaehhflpcaaPAx1
import Derived.Test.YtkhocaehhflpcaaPAx11
import Derived.Test.YtkhocaehhflpcaaPAx12
import Derived.Test.YtkhocaehhflpcaaPAx19
import Derived.Test.YtkhocaehhflpcaaPAx25
namespace Go.Proofs.Ytkhocaehhflpcaa.PA
open Go.RowKit Go.Proofs.YtkhocaehhflpcaaW.PrintWords Go.Proofs.YtkhocaehhflpcaaW.PrintLast Go.Proofs.YtkhocaehhflpcaaW.PrintMore
attribute [local go_sem] max2_int min2_int max_two min_two max_three min_three max_four min_four   -- for this text's walks alone
set_option linter.unusedVariables false
set_option linter.unusedSimpArgs false

attribute [local go_sem high] eqA24
/-! ### corebanklaw01_WideRestores: function 9 -/
mutual
def corebanklaw01_WideRestores.j0 : Nat → Int → Int → Bool → Int → Int → Int → Int → Int → Int → Option (Bool)
  | 0, _, _, _, _, _, _, _, _, _ => none
  | k + 1, x2, x8, x39, x527000, x527001, x528000, x528001, x532000, x532001 => if x39 = true then (none) else ((wide_Add.f x528000 x528001 x527000 x527001).bind fun bt536 => ((wide_Int.f x527000 x527001).bind fun bt540 => (if (!(bt536.1 == x532000) || (!(bt536.2.1 == x532001))) = true then (corebanklaw01_WideRestores.j1 k x2 bt540.1 bt540.2 true) else (corebanklaw01_WideRestores.j1 k x2 bt540.1 bt540.2 (bt536.2.2 != x8)))))
def corebanklaw01_WideRestores.j1 : Nat → Int → Int → Bool → Bool → Option (Bool)
  | 0, _, _, _, _ => none
  | k + 1, x2, x13, x14, x58 => if x58 = true then (none) else ((wide_Of.f x2).bind fun bt542 => ((wide_Scale.f k bt542.1 bt542.2 x13).bind fun bt544 => (if x14 = true then ((wide_Mul.f x2 x13).bind fun bt548 => (if (bt544.1 == bt548.1 && (bt544.2.1 == bt548.2)) = true then (if bt544.2.2 = 0 then ((wide_Mul.f x13 x2).bind fun bt550 => (if (bt550.1 == bt544.1 && (bt550.2 == bt544.2.1)) = true then ((corebanklaw01_live.f k).bind fun t552 => (some t552)) else (none))) else (none)) else (none))) else ((corebanklaw01_live.f k).bind fun t553 => (some t553)))))
end
def corebanklaw01_WideRestores.f (k : Nat) (a0_0 : Int) (a0_1 : Int) (a1_0 : Int) (a1_1 : Int) (a2 : Int) : Option (Bool) := (wide_Add.f a0_0 a0_1 a1_0 a1_1).bind fun bt528 => ((wide_Sub.f bt528.1 bt528.2.1 a1_0 a1_1).bind fun bt532 => (if bt528.2.2 = 0 then (if bt532.2.2 = 0 then (corebanklaw01_WideRestores.j0 k a2 bt528.2.2 (!(bt532.1 == a0_0) || (!(bt532.2.1 == a0_1))) a0_0 a0_1 a1_0 a1_1 bt528.1 bt528.2.1) else (corebanklaw01_WideRestores.j0 k a2 bt528.2.2 true a0_0 a0_1 a1_0 a1_1 bt528.1 bt528.2.1)) else (corebanklaw01_WideRestores.j0 k a2 bt528.2.2 false a0_0 a0_1 a1_0 a1_1 bt528.1 bt528.2.1)))
theorem corebanklaw01_WideRestores.mono_l : ∀ k, (∀ y0 y1 y2 y3 y4 y5 y6 y7 y8, LeO (corebanklaw01_WideRestores.j0 k y0 y1 y2 y3 y4 y5 y6 y7 y8) (corebanklaw01_WideRestores.j0 (k + 1) y0 y1 y2 y3 y4 y5 y6 y7 y8)) ∧ (∀ y0 y1 y2 y3, LeO (corebanklaw01_WideRestores.j1 k y0 y1 y2 y3) (corebanklaw01_WideRestores.j1 (k + 1) y0 y1 y2 y3))
  | 0 => ⟨fun _ _ _ _ _ _ _ _ _ r h => by simp [corebanklaw01_WideRestores.j0] at h, fun _ _ _ _ r h => by simp [corebanklaw01_WideRestores.j1] at h⟩
  | k + 1 => by
    obtain ⟨ih0, ih1⟩ := corebanklaw01_WideRestores.mono_l k
    refine ⟨?_, ?_⟩
    · intro y0 y1 y2 y3 y4 y5 y6 y7 y8
      unfold corebanklaw01_WideRestores.j0
      repeat' first
      | (with_reducible exact ih0 _ _ _ _ _ _ _ _ _)
      | (with_reducible exact ih1 _ _ _ _)
      | (with_reducible exact corebanklaw01_live.mono _)
      | (with_reducible exact wide_Scale.mono _ _ _ _)
      | (with_reducible exact LeO.refl _)
      | (with_reducible exact LeO.none _)
      | (with_reducible refine LeO.ite ?_ ?_)
      | (with_reducible refine LeO.bind ?_ (fun _ => ?_))
      | exact ih0 _ _ _ _ _ _ _ _ _
      | exact ih1 _ _ _ _
      | exact corebanklaw01_live.mono _
      | exact wide_Scale.mono _ _ _ _
      | exact LeO.none _
      | refine LeO.ite ?_ ?_
      | refine LeO.bind ?_ (fun _ => ?_)
    · intro y0 y1 y2 y3
      unfold corebanklaw01_WideRestores.j1
      repeat' first
      | (with_reducible exact ih0 _ _ _ _ _ _ _ _ _)
      | (with_reducible exact ih1 _ _ _ _)
      | (with_reducible exact corebanklaw01_live.mono _)
      | (with_reducible exact wide_Scale.mono _ _ _ _)
      | (with_reducible exact LeO.refl _)
      | (with_reducible exact LeO.none _)
      | (with_reducible refine LeO.ite ?_ ?_)
      | (with_reducible refine LeO.bind ?_ (fun _ => ?_))
      | exact ih0 _ _ _ _ _ _ _ _ _
      | exact ih1 _ _ _ _
      | exact corebanklaw01_live.mono _
      | exact wide_Scale.mono _ _ _ _
      | exact LeO.none _
      | refine LeO.ite ?_ ?_
      | refine LeO.bind ?_ (fun _ => ?_)
theorem corebanklaw01_WideRestores.mono : ∀ a0 a1 a2 a3 a4 k, LeO (corebanklaw01_WideRestores.f k a0 a1 a2 a3 a4) (corebanklaw01_WideRestores.f (k + 1) a0 a1 a2 a3 a4) := by
  intro a0 a1 a2 a3 a4 k
  obtain ⟨ih0, ih1⟩ := corebanklaw01_WideRestores.mono_l k
  unfold corebanklaw01_WideRestores.f
  repeat' first
      | (with_reducible exact ih0 _ _ _ _ _ _ _ _ _)
      | (with_reducible exact ih1 _ _ _ _)
      | (with_reducible exact corebanklaw01_live.mono _)
      | (with_reducible exact wide_Scale.mono _ _ _ _)
      | (with_reducible exact LeO.refl _)
      | (with_reducible exact LeO.none _)
      | (with_reducible refine LeO.ite ?_ ?_)
      | (with_reducible refine LeO.bind ?_ (fun _ => ?_))
      | exact ih0 _ _ _ _ _ _ _ _ _
      | exact ih1 _ _ _ _
      | exact corebanklaw01_live.mono _
      | exact wide_Scale.mono _ _ _ _
      | exact LeO.none _
      | refine LeO.ite ?_ ?_
      | refine LeO.bind ?_ (fun _ => ?_)
def corebanklaw01_WideRestores.T10 : Bool × List (List Nat × List Nat) := (true, [([], []), ([0], [0]), ([1], [1]), ([2], [2]), ([2], [2]), ([2], [2]), ([4, 5, 2, 2], [2, 4, 5]), ([3, 6, 2], [2, 3, 6]), ([7, 6, 2], [2, 7]), ([8], [8]), ([9, 8], [8, 9]), ([8, 10, 2], [2, 8, 10]), ([11, 8, 2], [2, 11]), ([12], [12]), ([12], [12]), ([13, 14, 12, 12], [12, 13, 14]), ([12], [12]), ([15, 16, 12], [12, 15, 16]), ([12, 17, 2], [2, 12, 17]), ([2, 18], [2, 18]), ([19, 15], [19]), ([20, 20], [20]), ([20, 21], [20, 21]), ([22, 21, 0, 1, 2, 3, 4, 5, 6, 7, 8, 9, 10, 11, 12, 13, 14, 15, 16, 17, 18, 19, 20, 21, 22], [22])])
def corebanklaw01_WideRestores.B10 : List Nat := [0, 1, 3, 7, 7, 7, 55, 127, 255, 511, 1023, 2047, 4095, 8191, 8191, 32767, 8191, 131071, 262143, 524287, 1048575, 2097151, 4194303, 8388607]
theorem corebanklaw01_WideRestores.tab10 : rtab .any (opsOf Try.f9 10) = corebanklaw01_WideRestores.T10 := by kernel_rfl
theorem corebanklaw01_WideRestores.bits10 : waitsOk corebanklaw01_WideRestores.T10.2 corebanklaw01_WideRestores.B10 = true := by kernel_rfl
set_option maxHeartbeats 8000000 in
set_option maxRecDepth 100000 in
theorem corebanklaw01_WideRestores.calls (k : Nat) (a0_0 : Int) (a0_1 : Int) (a1_0 : Int) (a1_1 : Int) (a2 : Int) (r : Bool) (w : World) (h : corebanklaw01_WideRestores.f k a0_0 a0_1 a1_0 a1_1 a2 = some r) :
    Calls Try.prog 9 #[.agg #[.int .i64 a0_0, .int .u64 a0_1], .agg #[.int .i64 a1_0, .int .u64 a1_1], .int .i64 a2] w fun e w' => e = .returned (.bool r) ∧ Below w.heap.size w w' := by
  have hu24 := Try.underlying24
  have HB := Aside0.mk (Below.refl w.heap.size w)
  have H : ((wide_Add.f a0_0 a0_1 a1_0 a1_1).bind fun bt528 => ((wide_Sub.f bt528.1 bt528.2.1 a1_0 a1_1).bind fun bt532 => (if bt528.2.2 = 0 then (if bt532.2.2 = 0 then (corebanklaw01_WideRestores.j0 k a2 bt528.2.2 (!(bt532.1 == a0_0) || (!(bt532.2.1 == a0_1))) a0_0 a0_1 a1_0 a1_1 bt528.1 bt528.2.1) else (corebanklaw01_WideRestores.j0 k a2 bt528.2.2 true a0_0 a0_1 a1_0 a1_1 bt528.1 bt528.2.1)) else (corebanklaw01_WideRestores.j0 k a2 bt528.2.2 false a0_0 a0_1 a1_0 a1_1 bt528.1 bt528.2.1)))) = some r := h
  clear h
  replace H := Option.bind_eq_some_iff.mp H
  obtain ⟨⟨t528, t529, t530⟩, A40, H⟩ := H
  replace H : ((wide_Sub.f t528 t529 a1_0 a1_1).bind fun bt532 => (if t530 = 0 then (if bt532.2.2 = 0 then (corebanklaw01_WideRestores.j0 k a2 t530 (!(bt532.1 == a0_0) || (!(bt532.2.1 == a0_1))) a0_0 a0_1 a1_0 a1_1 t528 t529) else (corebanklaw01_WideRestores.j0 k a2 t530 true a0_0 a0_1 a1_0 a1_1 t528 t529)) else (corebanklaw01_WideRestores.j0 k a2 t530 false a0_0 a0_1 a1_0 a1_1 t528 t529))) = some r := H
  have A4 := Aside0.mk A40
  clear A40
  replace H := Option.bind_eq_some_iff.mp H
  obtain ⟨⟨t532, t533, t534⟩, A50, H⟩ := H
  replace H : (if t530 = 0 then (if t534 = 0 then (corebanklaw01_WideRestores.j0 k a2 t530 (!(t532 == a0_0) || (!(t533 == a0_1))) a0_0 a0_1 a1_0 a1_1 t528 t529) else (corebanklaw01_WideRestores.j0 k a2 t530 true a0_0 a0_1 a1_0 a1_1 t528 t529)) else (corebanklaw01_WideRestores.j0 k a2 t530 false a0_0 a0_1 a1_0 a1_1 t528 t529)) = some r := H
  have A5 := Aside0.mk A50
  clear A50
  have HC6 := Aside0.mk H
  clear H
  go_enter Try.func9, Try.ntmps9
  go_upto_region 3 with (first | ((with_reducible refine gate_dst (N := 3) rfl ?_); refine box_event ?hg (N := 3) ?hd (cs := #[.int .i64 a0_0, .int .u64 a0_1]) (t := 24) ?hr ?_; (case hd => rfl); (case hg => rfl); (case hr => first | (go_simp; done) | (go_simp; rfl)); intro gb526 hg w7 hbox hb; have nn_ := bT hb hg; have BK526 := Aside0.mk (hbox); have GW526 := Aside0.mk nn_.2; have GE526 := GW526; replace HB := Aside0.mk nn_.1; clear nn_; clear hb hbox hg) | ((with_reducible refine gate_dst (N := 4) rfl ?_); refine box_event ?hg (N := 4) ?hd (cs := #[.int .i64 a1_0, .int .u64 a1_1]) (t := 24) ?hr ?_; (case hd => rfl); (case hg => rfl); (case hr => first | (go_simp; done) | (go_simp; rfl)); intro gb527 hg w8 hbox hb; have nn_ := bT hb hg; have bgb526_ := bN BK526 hb hg; have BK527 := Aside0.mk (hbox); have GW527 := Aside0.mk nn_.2; have GE527 := GW527; have NB526_527 := Aside0.mk bgb526_.2.1; have NB527_526 := Aside0.mk bgb526_.2.2; replace BK526 := Aside0.mk bgb526_.1; replace HB := Aside0.mk nn_.1; clear nn_ bgb526_; clear hb hbox hg; have hnb9 := NB526_527.out; have hnc9 := NB527_526.out; have hcz10_0 : w8.cell? ⟨gb526, 0, none⟩ = some (.int .i64 a0_0) := (blk_cell BK526.out 0).trans rfl; have hcz10_1 : w8.cell? ⟨gb526, 1, none⟩ = some (.int .u64 a0_1) := (blk_cell BK526.out 1).trans rfl; have hfz10_0 := blk_frozen BK526.out 0; have hfz10_1 := blk_frozen BK526.out 1; have hcz11_0 : w8.cell? ⟨gb527, 0, none⟩ = some (.int .i64 a1_0) := (blk_cell BK527.out 0).trans rfl; have hcz11_1 : w8.cell? ⟨gb527, 1, none⟩ = some (.int .u64 a1_1) := (blk_cell BK527.out 1).trans rfl; have hfz11_0 := blk_frozen BK527.out 0; have hfz11_1 := blk_frozen BK527.out 1) | ((with_reducible refine gate_callee (f := 25) rfl ?_); refine goesL_ (some 20) rfl rfl Try.func25 (by kernel_rfl) rfl #[.agg #[.int .i64 a0_0, .int .u64 a0_1], .agg #[.int .i64 a1_0, .int .u64 a1_1]] rfl aG ?_; (with_reducible refine (wide_Add.calls a0_0 a0_1 a1_0 a1_1 t528 t529 t530 _ A4.out).mono ?_); rintro e w12 ⟨rfl, hb⟩; refine ⟨_, rfl, ?_⟩; replace BK526 := Aside0.mk (bK BK526 hb); replace BK527 := Aside0.mk (bK BK527 hb); replace HB := Aside0.mk (bS hb); (try clear hb); (try clear hb2); (try clear hk); (try clear hi)) | ((with_reducible refine gate_dst (N := 7) rfl ?_); refine box_event ?hg (N := 7) ?hd (cs := #[.int .i64 0, .int .u64 0]) (t := 24) ?hr ?_; (case hd => rfl); (case hg => rfl); (case hr => first | (go_simp; done) | (go_simp; rfl)); intro gb531 hg w13 hbox hb; have nn_ := bT hb hg; have bgb526_ := bN BK526 hb hg; have bgb527_ := bN BK527 hb hg; have BK531 := Aside0.mk (hbox); have GW531 := Aside0.mk nn_.2; have GE531 := GW531; have NB526_531 := Aside0.mk bgb526_.2.1; have NB531_526 := Aside0.mk bgb526_.2.2; have NB527_531 := Aside0.mk bgb527_.2.1; have NB531_527 := Aside0.mk bgb527_.2.2; replace BK526 := Aside0.mk bgb526_.1; replace BK527 := Aside0.mk bgb527_.1; replace HB := Aside0.mk nn_.1; clear nn_ bgb526_ bgb527_; clear hb hbox hg; have hnb14 := NB531_526.out; have hnc14 := NB526_531.out; have hnb15 := NB531_527.out; have hnc15 := NB527_531.out; have hcz16_0 : w13.cell? ⟨gb531, 0, none⟩ = some (.int .i64 0) := (blk_cell BK531.out 0).trans rfl; have hcz16_1 : w13.cell? ⟨gb531, 1, none⟩ = some (.int .u64 0) := (blk_cell BK531.out 1).trans rfl; have hfz16_0 := blk_frozen BK531.out 0; have hfz16_1 := blk_frozen BK531.out 1; have hcz17_0 : w13.cell? ⟨gb527, 0, none⟩ = some (.int .i64 a1_0) := (blk_cell BK527.out 0).trans rfl; have hcz17_1 : w13.cell? ⟨gb527, 1, none⟩ = some (.int .u64 a1_1) := (blk_cell BK527.out 1).trans rfl; have hfz17_0 := blk_frozen BK527.out 0; have hfz17_1 := blk_frozen BK527.out 1) | ((with_reducible refine gate_callee (f := 27) rfl ?_); refine goesL_ (some 26) rfl rfl Try.func27 (by kernel_rfl) rfl #[.agg #[.int .i64 t528, .int .u64 t529], .agg #[.int .i64 a1_0, .int .u64 a1_1]] rfl aG ?_; (with_reducible refine (wide_Sub.calls t528 t529 a1_0 a1_1 t532 t533 t534 _ A5.out).mono ?_); rintro e w18 ⟨rfl, hb⟩; refine ⟨_, rfl, ?_⟩; replace BK526 := Aside0.mk (blk_below (g := gb526) (o := .cells #[.int .i64 a0_0, .int .u64 a0_1] 24 (0, 0)) (by (with_reducible repeat (first | refine blk_drewN ?_ _ | refine blk_drew ?_ | refine blk_alloc ?_ _)); refine blk_far ?_ NB526_531.out _; (with_reducible repeat (first | refine blk_drewN ?_ _ | refine blk_drew ?_ | refine blk_alloc ?_ _)); refine blk_far ?_ NB526_531.out _; (with_reducible repeat (first | refine blk_drewN ?_ _ | refine blk_drew ?_ | refine blk_alloc ?_ _)); exact BK526.out) hb); replace BK527 := Aside0.mk (blk_below (g := gb527) (o := .cells #[.int .i64 a1_0, .int .u64 a1_1] 24 (0, 0)) (by (with_reducible repeat (first | refine blk_drewN ?_ _ | refine blk_drew ?_ | refine blk_alloc ?_ _)); refine blk_far ?_ NB527_531.out _; (with_reducible repeat (first | refine blk_drewN ?_ _ | refine blk_drew ?_ | refine blk_alloc ?_ _)); refine blk_far ?_ NB527_531.out _; (with_reducible repeat (first | refine blk_drewN ?_ _ | refine blk_drew ?_ | refine blk_alloc ?_ _)); exact BK527.out) hb); replace BK531 := Aside0.mk (blk_below (g := gb531) (o := .cells #[.int .i64 t528, .int .u64 t529] 24 (0, 0)) (by (with_reducible repeat (first | refine blk_drewN ?_ _ | refine blk_drew ?_ | refine blk_alloc ?_ _)); refine blk_put (cs := #[.int .i64 t528, .int .u64 0]) ?_ 1 _ rfl; (with_reducible repeat (first | refine blk_drewN ?_ _ | refine blk_drew ?_ | refine blk_alloc ?_ _)); refine blk_put (cs := #[.int .i64 0, .int .u64 0]) ?_ 0 _ rfl; (with_reducible repeat (first | refine blk_drewN ?_ _ | refine blk_drew ?_ | refine blk_alloc ?_ _)); exact BK531.out) hb); replace HB := Aside0.mk (bS hb); (try clear hb); (try clear hb2); (try clear hk); (try clear hi)) | ((with_reducible refine gate_dst (N := 9) rfl ?_); refine box_event ?hg (N := 9) ?hd (cs := #[.int .i64 0, .int .u64 0]) (t := 24) ?hr ?_; (case hd => rfl); (case hg => rfl); (case hr => first | (go_simp; done) | (go_simp; rfl)); intro gb535 hg w19 hbox hb; have nn_ := bT hb hg; have bgb526_ := bN BK526 hb hg; have bgb527_ := bN BK527 hb hg; have bgb531_ := bN BK531 hb hg; have BK535 := Aside0.mk (hbox); have GW535 := Aside0.mk nn_.2; have GE535 := GW535; have NB526_535 := Aside0.mk bgb526_.2.1; have NB535_526 := Aside0.mk bgb526_.2.2; have NB527_535 := Aside0.mk bgb527_.2.1; have NB535_527 := Aside0.mk bgb527_.2.2; have NB531_535 := Aside0.mk bgb531_.2.1; have NB535_531 := Aside0.mk bgb531_.2.2; replace BK526 := Aside0.mk bgb526_.1; replace BK527 := Aside0.mk bgb527_.1; replace BK531 := Aside0.mk bgb531_.1; replace HB := Aside0.mk nn_.1; clear nn_ bgb526_ bgb527_ bgb531_; clear hb hbox hg; have hnb20 := NB535_526.out; have hnc20 := NB526_535.out; have hnb21 := NB535_527.out; have hnc21 := NB527_535.out; have hnb22 := NB535_531.out; have hnc22 := NB531_535.out; have hcz23_0 : w19.cell? ⟨gb535, 0, none⟩ = some (.int .i64 0) := (blk_cell BK535.out 0).trans rfl; have hcz23_1 : w19.cell? ⟨gb535, 1, none⟩ = some (.int .u64 0) := (blk_cell BK535.out 1).trans rfl; have hfz23_0 := blk_frozen BK535.out 0; have hfz23_1 := blk_frozen BK535.out 1))
  (try simp only [Act.put, List.setIfInBounds_toArray, List.set_cons_zero, List.set_cons_succ])
  go_cut [39] (fun v39 wc => ∃ (kq : Nat) (x39_5 : Bool), v39 = .bool x39_5 ∧ Aside0 (corebanklaw01_WideRestores.j0 kq a2 t530 x39_5 a0_0 a0_1 a1_0 a1_1 t528 t529 = some r) ∧ Aside0 (kq ≤ k) ∧ Aside0 (wc.heap[gb526]? = some (.cells #[.int .i64 a0_0, .int .u64 a0_1] 24 (0, 0))) ∧ Aside0 (wc.heap[gb527]? = some (.cells #[.int .i64 a1_0, .int .u64 a1_1] 24 (0, 0))) ∧ Aside0 (wc.heap[gb531]? = some (.cells #[.int .i64 t528, .int .u64 t529] 24 (0, 0))) ∧ Aside0 (wc.heap[gb535]? = some (.cells #[.int .i64 t532, .int .u64 t533] 24 (0, 0))) ∧ Aside0 (Below w.heap.size w wc))
  case first =>
    have H := HC6.out
    clear HC6
    by_cases c24 : t530 = 0
    · rw [if_pos c24] at H
      have c24b0 : (t530 == 0) = true := beq_iff_eq.mpr c24
      have c24b1 : (t530 != 0) = false := bne_eq_false_iff_eq.mpr c24
      clear c24
      (first | rw [c24b0] | (simp only [i64_w, i32_w]; rw [c24b0]) | skip)
      by_cases c25 : t534 = 0
      · rw [if_pos c25] at H
        have c25b0 : (t534 == 0) = true := beq_iff_eq.mpr c25
        have c25b1 : (t534 != 0) = false := bne_eq_false_iff_eq.mpr c25
        clear c25
        have H' := Aside0.mk H
        clear H
        have hnb26 := NB535_526.out
        have hnc26 := NB526_535.out
        have hnb27 := NB535_527.out
        have hnc27 := NB527_535.out
        have hnb28 := NB535_531.out
        have hnc28 := NB531_535.out
        have hcz29_0 : w19.cell? ⟨gb535, 0, none⟩ = some (.int .i64 0) := (blk_cell BK535.out 0).trans rfl
        have hcz29_1 : w19.cell? ⟨gb535, 1, none⟩ = some (.int .u64 0) := (blk_cell BK535.out 1).trans rfl
        have hfz29_0 := blk_frozen BK535.out 0
        have hfz29_1 := blk_frozen BK535.out 1
        have hnb30 := NB526_527.out
        have hnc30 := NB527_526.out
        have hnb31 := NB526_531.out
        have hnc31 := NB531_526.out
        have hcz32_0 : w19.cell? ⟨gb526, 0, none⟩ = some (.int .i64 a0_0) := (blk_cell BK526.out 0).trans rfl
        have hcz32_1 : w19.cell? ⟨gb526, 1, none⟩ = some (.int .u64 a0_1) := (blk_cell BK526.out 1).trans rfl
        have hfz32_0 := blk_frozen BK526.out 0
        have hfz32_1 := blk_frozen BK526.out 1
        go_wp2
        go_meet
        case rel => exact ⟨_, ((!(t532 == a0_0) || (!(t533 == a0_1)))), (by first | rfl | (simp; done) | (simp [*]; done)), H', ⟨by first | omega | exact Nat.le_refl _⟩, ⟨by (with_reducible repeat (first | refine blk_drewN ?_ _ | refine blk_drew ?_ | refine blk_alloc ?_ _)); refine blk_far ?_ NB526_535.out _; (with_reducible repeat (first | refine blk_drewN ?_ _ | refine blk_drew ?_ | refine blk_alloc ?_ _)); refine blk_far ?_ NB526_535.out _; (with_reducible repeat (first | refine blk_drewN ?_ _ | refine blk_drew ?_ | refine blk_alloc ?_ _)); exact BK526.out⟩, ⟨by (with_reducible repeat (first | refine blk_drewN ?_ _ | refine blk_drew ?_ | refine blk_alloc ?_ _)); refine blk_far ?_ NB527_535.out _; (with_reducible repeat (first | refine blk_drewN ?_ _ | refine blk_drew ?_ | refine blk_alloc ?_ _)); refine blk_far ?_ NB527_535.out _; (with_reducible repeat (first | refine blk_drewN ?_ _ | refine blk_drew ?_ | refine blk_alloc ?_ _)); exact BK527.out⟩, ⟨by (with_reducible repeat (first | refine blk_drewN ?_ _ | refine blk_drew ?_ | refine blk_alloc ?_ _)); refine blk_far ?_ NB531_535.out _; (with_reducible repeat (first | refine blk_drewN ?_ _ | refine blk_drew ?_ | refine blk_alloc ?_ _)); refine blk_far ?_ NB531_535.out _; (with_reducible repeat (first | refine blk_drewN ?_ _ | refine blk_drew ?_ | refine blk_alloc ?_ _)); exact BK531.out⟩, ⟨by (with_reducible repeat (first | refine blk_drewN ?_ _ | refine blk_drew ?_ | refine blk_alloc ?_ _)); refine blk_put (cs := #[.int .i64 t532, .int .u64 0]) ?_ 1 _ rfl; (with_reducible repeat (first | refine blk_drewN ?_ _ | refine blk_drew ?_ | refine blk_alloc ?_ _)); refine blk_put (cs := #[.int .i64 0, .int .u64 0]) ?_ 0 _ rfl; (with_reducible repeat (first | refine blk_drewN ?_ _ | refine blk_drew ?_ | refine blk_alloc ?_ _)); exact BK535.out⟩, ⟨bE⟩⟩
      · rw [if_neg c25] at H
        have c25b0 : (t534 == 0) = false := beq_eq_false_iff_ne.mpr c25
        have c25b1 : (t534 != 0) = true := bne_iff_ne.mpr c25
        have H' := Aside0.mk H
        clear H
        go_wp2
        go_meet
        case rel => exact ⟨_, (true), (by first | rfl | (simp; done) | (simp [*]; done)), H', ⟨by first | omega | exact Nat.le_refl _⟩, ⟨by (with_reducible repeat (first | refine blk_drewN ?_ _ | refine blk_drew ?_ | refine blk_alloc ?_ _)); refine blk_far ?_ NB526_535.out _; (with_reducible repeat (first | refine blk_drewN ?_ _ | refine blk_drew ?_ | refine blk_alloc ?_ _)); refine blk_far ?_ NB526_535.out _; (with_reducible repeat (first | refine blk_drewN ?_ _ | refine blk_drew ?_ | refine blk_alloc ?_ _)); exact BK526.out⟩, ⟨by (with_reducible repeat (first | refine blk_drewN ?_ _ | refine blk_drew ?_ | refine blk_alloc ?_ _)); refine blk_far ?_ NB527_535.out _; (with_reducible repeat (first | refine blk_drewN ?_ _ | refine blk_drew ?_ | refine blk_alloc ?_ _)); refine blk_far ?_ NB527_535.out _; (with_reducible repeat (first | refine blk_drewN ?_ _ | refine blk_drew ?_ | refine blk_alloc ?_ _)); exact BK527.out⟩, ⟨by (with_reducible repeat (first | refine blk_drewN ?_ _ | refine blk_drew ?_ | refine blk_alloc ?_ _)); refine blk_far ?_ NB531_535.out _; (with_reducible repeat (first | refine blk_drewN ?_ _ | refine blk_drew ?_ | refine blk_alloc ?_ _)); refine blk_far ?_ NB531_535.out _; (with_reducible repeat (first | refine blk_drewN ?_ _ | refine blk_drew ?_ | refine blk_alloc ?_ _)); exact BK531.out⟩, ⟨by (with_reducible repeat (first | refine blk_drewN ?_ _ | refine blk_drew ?_ | refine blk_alloc ?_ _)); refine blk_put (cs := #[.int .i64 t532, .int .u64 0]) ?_ 1 _ rfl; (with_reducible repeat (first | refine blk_drewN ?_ _ | refine blk_drew ?_ | refine blk_alloc ?_ _)); refine blk_put (cs := #[.int .i64 0, .int .u64 0]) ?_ 0 _ rfl; (with_reducible repeat (first | refine blk_drewN ?_ _ | refine blk_drew ?_ | refine blk_alloc ?_ _)); exact BK535.out⟩, ⟨bE⟩⟩
    · rw [if_neg c24] at H
      have c24b0 : (t530 == 0) = false := beq_eq_false_iff_ne.mpr c24
      have c24b1 : (t530 != 0) = true := bne_iff_ne.mpr c24
      (first | rw [c24b0] | (simp only [i64_w, i32_w]; rw [c24b0]) | skip)
      have H' := Aside0.mk H
      clear H
      go_wp2
      go_meet
      case rel => exact ⟨_, (false), (by first | rfl | (simp; done) | (simp [*]; done)), H', ⟨by first | omega | exact Nat.le_refl _⟩, ⟨by (with_reducible repeat (first | refine blk_drewN ?_ _ | refine blk_drew ?_ | refine blk_alloc ?_ _)); refine blk_far ?_ NB526_535.out _; (with_reducible repeat (first | refine blk_drewN ?_ _ | refine blk_drew ?_ | refine blk_alloc ?_ _)); refine blk_far ?_ NB526_535.out _; (with_reducible repeat (first | refine blk_drewN ?_ _ | refine blk_drew ?_ | refine blk_alloc ?_ _)); exact BK526.out⟩, ⟨by (with_reducible repeat (first | refine blk_drewN ?_ _ | refine blk_drew ?_ | refine blk_alloc ?_ _)); refine blk_far ?_ NB527_535.out _; (with_reducible repeat (first | refine blk_drewN ?_ _ | refine blk_drew ?_ | refine blk_alloc ?_ _)); refine blk_far ?_ NB527_535.out _; (with_reducible repeat (first | refine blk_drewN ?_ _ | refine blk_drew ?_ | refine blk_alloc ?_ _)); exact BK527.out⟩, ⟨by (with_reducible repeat (first | refine blk_drewN ?_ _ | refine blk_drew ?_ | refine blk_alloc ?_ _)); refine blk_far ?_ NB531_535.out _; (with_reducible repeat (first | refine blk_drewN ?_ _ | refine blk_drew ?_ | refine blk_alloc ?_ _)); refine blk_far ?_ NB531_535.out _; (with_reducible repeat (first | refine blk_drewN ?_ _ | refine blk_drew ?_ | refine blk_alloc ?_ _)); exact BK531.out⟩, ⟨by (with_reducible repeat (first | refine blk_drewN ?_ _ | refine blk_drew ?_ | refine blk_alloc ?_ _)); refine blk_put (cs := #[.int .i64 t532, .int .u64 0]) ?_ 1 _ rfl; (with_reducible repeat (first | refine blk_drewN ?_ _ | refine blk_drew ?_ | refine blk_alloc ?_ _)); refine blk_put (cs := #[.int .i64 0, .int .u64 0]) ?_ 0 _ rfl; (with_reducible repeat (first | refine blk_drewN ?_ _ | refine blk_drew ?_ | refine blk_alloc ?_ _)); exact BK535.out⟩, ⟨bE⟩⟩
  case rest =>
    clear HC6
    try clear c1
    try clear c2
    try clear p2
    try clear c3
    try clear c9
    try clear c14
    try clear c15
    try clear c20
    try clear c21
    try clear c22
    try clear c24
    try clear c24b0
    try clear c24b1
    try clear c25
    try clear c25b0
    try clear c25b1
    try clear c26
    try clear c27
    try clear c28
    try clear c30
    try clear c31
    try clear hcz10_0
    try clear hcz10_1
    try clear hcz11_0
    try clear hcz11_1
    try clear hcz16_0
    try clear hcz16_1
    try clear hcz17_0
    try clear hcz17_1
    try clear hcz23_0
    try clear hcz23_1
    try clear hcz29_0
    try clear hcz29_1
    try clear hcz32_0
    try clear hcz32_1
    try clear hfz10_0
    try clear hfz10_1
    try clear hfz11_0
    try clear hfz11_1
    try clear hfz16_0
    try clear hfz16_1
    try clear hfz17_0
    try clear hfz17_1
    try clear hfz23_0
    try clear hfz23_1
    try clear hfz29_0
    try clear hfz29_1
    try clear hfz32_0
    try clear hfz32_1
    obtain ⟨kq, x39_5, rfl, HA, HJ5, BK526, BK527, BK531, BK535, HB⟩ := hcut
    cases kq with
    | zero => exact absurd HA.out (by simp [corebanklaw01_WideRestores.j0])
    | succ kj5 =>
      have H := HA.out
      clear HA
      simp only [corebanklaw01_WideRestores.j0] at H
      by_cases c33 : x39_5 = true
      · subst c33
        have H1 : (none) = some r := by rw [if_pos rfl] at H; exact H
        clear H
        have H := H1
        clear H1
        exact absurd H (by simp)
      · replace c33 := Bool.eq_false_iff.mpr c33
        subst c33
        have H1 : ((wide_Add.f a1_0 a1_1 a0_0 a0_1).bind fun bt536 => ((wide_Int.f a0_0 a0_1).bind fun bt540 => (if (!(bt536.1 == t528) || (!(bt536.2.1 == t529))) = true then (corebanklaw01_WideRestores.j1 kj5 a2 bt540.1 bt540.2 true) else (corebanklaw01_WideRestores.j1 kj5 a2 bt540.1 bt540.2 (bt536.2.2 != t530))))) = some r := by rw [if_neg (show ¬ (false = true) by decide)] at H; exact H
        clear H
        have H := H1
        clear H1
        replace H := Option.bind_eq_some_iff.mp H
        obtain ⟨⟨t536, t537, t538⟩, A340, H⟩ := H
        replace H : ((wide_Int.f a0_0 a0_1).bind fun bt540 => (if (!(t536 == t528) || (!(t537 == t529))) = true then (corebanklaw01_WideRestores.j1 kj5 a2 bt540.1 bt540.2 true) else (corebanklaw01_WideRestores.j1 kj5 a2 bt540.1 bt540.2 (t538 != t530)))) = some r := H
        have A34 := Aside0.mk A340
        clear A340
        replace H := Option.bind_eq_some_iff.mp H
        obtain ⟨⟨t540, t541⟩, A350, H⟩ := H
        replace H : (if (!(t536 == t528) || (!(t537 == t529))) = true then (corebanklaw01_WideRestores.j1 kj5 a2 t540 t541 true) else (corebanklaw01_WideRestores.j1 kj5 a2 t540 t541 (t538 != t530))) = some r := H
        have A35 := Aside0.mk A350
        clear A350
        have HC36 := Aside0.mk H
        clear H
        have hnb37 := NB527_526.out
        have hnc37 := NB526_527.out
        have hnb38 := NB527_531.out
        have hnc38 := NB531_527.out
        have hnb39 := NB527_535.out
        have hnc39 := NB535_527.out
        have hcz40_0 : wc.cell? ⟨gb527, 0, none⟩ = some (.int .i64 a1_0) := (blk_cell BK527.out 0).trans rfl
        have hcz40_1 : wc.cell? ⟨gb527, 1, none⟩ = some (.int .u64 a1_1) := (blk_cell BK527.out 1).trans rfl
        have hfz40_0 := blk_frozen BK527.out 0
        have hfz40_1 := blk_frozen BK527.out 1
        have hnb41 := NB526_531.out
        have hnc41 := NB531_526.out
        have hnb42 := NB526_535.out
        have hnc42 := NB535_526.out
        have hcz43_0 : wc.cell? ⟨gb526, 0, none⟩ = some (.int .i64 a0_0) := (blk_cell BK526.out 0).trans rfl
        have hcz43_1 : wc.cell? ⟨gb526, 1, none⟩ = some (.int .u64 a0_1) := (blk_cell BK526.out 1).trans rfl
        have hfz43_0 := blk_frozen BK526.out 0
        have hfz43_1 := blk_frozen BK526.out 1
        go_upto_region 7 with (first | ((with_reducible refine gate_callee (f := 25) rfl ?_); refine goesL_ (some 43) rfl rfl Try.func25 (by kernel_rfl) rfl #[.agg #[.int .i64 a1_0, .int .u64 a1_1], .agg #[.int .i64 a0_0, .int .u64 a0_1]] rfl aG ?_; (with_reducible refine (wide_Add.calls a1_0 a1_1 a0_0 a0_1 t536 t537 t538 _ A34.out).mono ?_); rintro e w44 ⟨rfl, hb⟩; refine ⟨_, rfl, ?_⟩; replace BK526 := Aside0.mk (bK BK526 hb); replace BK527 := Aside0.mk (bK BK527 hb); replace BK531 := Aside0.mk (bK BK531 hb); replace BK535 := Aside0.mk (bK BK535 hb); replace HB := Aside0.mk (bS hb); (try clear hb); (try clear hb2); (try clear hk); (try clear hi)) | ((with_reducible refine gate_dst (N := 11) rfl ?_); refine box_event ?hg (N := 11) ?hd (cs := #[.int .i64 0, .int .u64 0]) (t := 24) ?hr ?_; (case hd => rfl); (case hg => rfl); (case hr => first | (go_simp; done) | (go_simp; rfl)); intro gb539 hg w45 hbox hb; have nn_ := bT hb hg; have bgb526_ := bN BK526 hb hg; have bgb527_ := bN BK527 hb hg; have bgb531_ := bN BK531 hb hg; have bgb535_ := bN BK535 hb hg; have BK539 := Aside0.mk (hbox); have GW539 := Aside0.mk nn_.2; have GE539 := GW539; have NB526_539 := Aside0.mk bgb526_.2.1; have NB539_526 := Aside0.mk bgb526_.2.2; have NB527_539 := Aside0.mk bgb527_.2.1; have NB539_527 := Aside0.mk bgb527_.2.2; have NB531_539 := Aside0.mk bgb531_.2.1; have NB539_531 := Aside0.mk bgb531_.2.2; have NB535_539 := Aside0.mk bgb535_.2.1; have NB539_535 := Aside0.mk bgb535_.2.2; replace BK526 := Aside0.mk bgb526_.1; replace BK527 := Aside0.mk bgb527_.1; replace BK531 := Aside0.mk bgb531_.1; replace BK535 := Aside0.mk bgb535_.1; replace HB := Aside0.mk nn_.1; clear nn_ bgb526_ bgb527_ bgb531_ bgb535_; clear hb hbox hg; have hnb46 := NB539_526.out; have hnc46 := NB526_539.out; have hnb47 := NB539_527.out; have hnc47 := NB527_539.out; have hnb48 := NB539_531.out; have hnc48 := NB531_539.out; have hnb49 := NB539_535.out; have hnc49 := NB535_539.out; have hcz50_0 : w45.cell? ⟨gb539, 0, none⟩ = some (.int .i64 0) := (blk_cell BK539.out 0).trans rfl; have hcz50_1 : w45.cell? ⟨gb539, 1, none⟩ = some (.int .u64 0) := (blk_cell BK539.out 1).trans rfl; have hfz50_0 := blk_frozen BK539.out 0; have hfz50_1 := blk_frozen BK539.out 1; have hcz51_0 : w45.cell? ⟨gb526, 0, none⟩ = some (.int .i64 a0_0) := (blk_cell BK526.out 0).trans rfl; have hcz51_1 : w45.cell? ⟨gb526, 1, none⟩ = some (.int .u64 a0_1) := (blk_cell BK526.out 1).trans rfl; have hfz51_0 := blk_frozen BK526.out 0; have hfz51_1 := blk_frozen BK526.out 1) | ((with_reducible refine gate_callee (f := 19) rfl ?_); refine goesL_ (some 48) rfl rfl Try.func19 (by kernel_rfl) rfl #[.agg #[.int .i64 a0_0, .int .u64 a0_1]] rfl aG ?_; (with_reducible refine (wide_Int.calls a0_0 a0_1 t540 t541 _ A35.out).mono ?_); rintro e w52 ⟨rfl, hb⟩; refine ⟨_, rfl, ?_⟩; replace BK526 := Aside0.mk (blk_below (g := gb526) (o := .cells #[.int .i64 a0_0, .int .u64 a0_1] 24 (0, 0)) (by (with_reducible repeat (first | refine blk_drewN ?_ _ | refine blk_drew ?_ | refine blk_alloc ?_ _)); refine blk_far ?_ NB526_539.out _; (with_reducible repeat (first | refine blk_drewN ?_ _ | refine blk_drew ?_ | refine blk_alloc ?_ _)); refine blk_far ?_ NB526_539.out _; (with_reducible repeat (first | refine blk_drewN ?_ _ | refine blk_drew ?_ | refine blk_alloc ?_ _)); exact BK526.out) hb); replace BK527 := Aside0.mk (blk_below (g := gb527) (o := .cells #[.int .i64 a1_0, .int .u64 a1_1] 24 (0, 0)) (by (with_reducible repeat (first | refine blk_drewN ?_ _ | refine blk_drew ?_ | refine blk_alloc ?_ _)); refine blk_far ?_ NB527_539.out _; (with_reducible repeat (first | refine blk_drewN ?_ _ | refine blk_drew ?_ | refine blk_alloc ?_ _)); refine blk_far ?_ NB527_539.out _; (with_reducible repeat (first | refine blk_drewN ?_ _ | refine blk_drew ?_ | refine blk_alloc ?_ _)); exact BK527.out) hb); replace BK531 := Aside0.mk (blk_below (g := gb531) (o := .cells #[.int .i64 t528, .int .u64 t529] 24 (0, 0)) (by (with_reducible repeat (first | refine blk_drewN ?_ _ | refine blk_drew ?_ | refine blk_alloc ?_ _)); refine blk_far ?_ NB531_539.out _; (with_reducible repeat (first | refine blk_drewN ?_ _ | refine blk_drew ?_ | refine blk_alloc ?_ _)); refine blk_far ?_ NB531_539.out _; (with_reducible repeat (first | refine blk_drewN ?_ _ | refine blk_drew ?_ | refine blk_alloc ?_ _)); exact BK531.out) hb); replace BK535 := Aside0.mk (blk_below (g := gb535) (o := .cells #[.int .i64 t532, .int .u64 t533] 24 (0, 0)) (by (with_reducible repeat (first | refine blk_drewN ?_ _ | refine blk_drew ?_ | refine blk_alloc ?_ _)); refine blk_far ?_ NB535_539.out _; (with_reducible repeat (first | refine blk_drewN ?_ _ | refine blk_drew ?_ | refine blk_alloc ?_ _)); refine blk_far ?_ NB535_539.out _; (with_reducible repeat (first | refine blk_drewN ?_ _ | refine blk_drew ?_ | refine blk_alloc ?_ _)); exact BK535.out) hb); replace BK539 := Aside0.mk (blk_below (g := gb539) (o := .cells #[.int .i64 t536, .int .u64 t537] 24 (0, 0)) (by (with_reducible repeat (first | refine blk_drewN ?_ _ | refine blk_drew ?_ | refine blk_alloc ?_ _)); refine blk_put (cs := #[.int .i64 t536, .int .u64 0]) ?_ 1 _ rfl; (with_reducible repeat (first | refine blk_drewN ?_ _ | refine blk_drew ?_ | refine blk_alloc ?_ _)); refine blk_put (cs := #[.int .i64 0, .int .u64 0]) ?_ 0 _ rfl; (with_reducible repeat (first | refine blk_drewN ?_ _ | refine blk_drew ?_ | refine blk_alloc ?_ _)); exact BK539.out) hb); replace HB := Aside0.mk (bS hb); (try clear hb); (try clear hb2); (try clear hk); (try clear hi)))
        (try simp only [Act.put, List.setIfInBounds_toArray, List.set_cons_zero, List.set_cons_succ])
        go_cut [58] (fun v58 wc => ∃ (kq : Nat) (x58_35 : Bool), v58 = .bool x58_35 ∧ Aside0 (corebanklaw01_WideRestores.j1 kq a2 t540 t541 x58_35 = some r) ∧ Aside0 (kq ≤ kj5) ∧ Aside0 (wc.heap[gb526]? = some (.cells #[.int .i64 a0_0, .int .u64 a0_1] 24 (0, 0))) ∧ Aside0 (wc.heap[gb527]? = some (.cells #[.int .i64 a1_0, .int .u64 a1_1] 24 (0, 0))) ∧ Aside0 (wc.heap[gb531]? = some (.cells #[.int .i64 t528, .int .u64 t529] 24 (0, 0))) ∧ Aside0 (wc.heap[gb535]? = some (.cells #[.int .i64 t532, .int .u64 t533] 24 (0, 0))) ∧ Aside0 (wc.heap[gb539]? = some (.cells #[.int .i64 t536, .int .u64 t537] 24 (0, 0))) ∧ Aside0 (Below w.heap.size w wc))
        case first =>
          have H := HC36.out
          clear HC36
          by_cases c53 : (!(t536 == t528) || (!(t537 == t529))) = true
          · rw [if_pos c53] at H
            have c53b0 : (!(t536 == t528) || (!(t537 == t529))) = true := c53
            clear c53
            (first | rw [c53b0] | (simp only [i64_w, i32_w]; rw [c53b0]) | skip)
            have H' := Aside0.mk H
            clear H
            have hnb54 := NB539_526.out
            have hnc54 := NB526_539.out
            have hnb55 := NB539_527.out
            have hnc55 := NB527_539.out
            have hnb56 := NB539_531.out
            have hnc56 := NB531_539.out
            have hnb57 := NB539_535.out
            have hnc57 := NB535_539.out
            have hcz58_0 : w52.cell? ⟨gb539, 0, none⟩ = some (.int .i64 t536) := (blk_cell BK539.out 0).trans rfl
            have hcz58_1 : w52.cell? ⟨gb539, 1, none⟩ = some (.int .u64 t537) := (blk_cell BK539.out 1).trans rfl
            have hfz58_0 := blk_frozen BK539.out 0
            have hfz58_1 := blk_frozen BK539.out 1
            have hnb59 := NB531_526.out
            have hnc59 := NB526_531.out
            have hnb60 := NB531_527.out
            have hnc60 := NB527_531.out
            have hnb61 := NB531_535.out
            have hnc61 := NB535_531.out
            have hcz62_0 : w52.cell? ⟨gb531, 0, none⟩ = some (.int .i64 t528) := (blk_cell BK531.out 0).trans rfl
            have hcz62_1 : w52.cell? ⟨gb531, 1, none⟩ = some (.int .u64 t529) := (blk_cell BK531.out 1).trans rfl
            have hfz62_0 := blk_frozen BK531.out 0
            have hfz62_1 := blk_frozen BK531.out 1
            go_wp2
            go_meet
            case rel => exact ⟨_, (true), (by first | rfl | (simp; done) | (simp [*]; done)), H', ⟨by have := HJ5.out; first | omega | exact Nat.le_refl _⟩, ⟨by (with_reducible repeat (first | refine blk_drewN ?_ _ | refine blk_drew ?_ | refine blk_alloc ?_ _)); exact BK526.out⟩, ⟨by (with_reducible repeat (first | refine blk_drewN ?_ _ | refine blk_drew ?_ | refine blk_alloc ?_ _)); exact BK527.out⟩, ⟨by (with_reducible repeat (first | refine blk_drewN ?_ _ | refine blk_drew ?_ | refine blk_alloc ?_ _)); exact BK531.out⟩, ⟨by (with_reducible repeat (first | refine blk_drewN ?_ _ | refine blk_drew ?_ | refine blk_alloc ?_ _)); exact BK535.out⟩, ⟨by (with_reducible repeat (first | refine blk_drewN ?_ _ | refine blk_drew ?_ | refine blk_alloc ?_ _)); exact BK539.out⟩, ⟨bE⟩⟩
          · rw [if_neg c53] at H
            have c53b0 : (!(t536 == t528) || (!(t537 == t529))) = false := by simpa using c53
            clear c53
            (first | rw [c53b0] | (simp only [i64_w, i32_w]; rw [c53b0]) | skip)
            have H' := Aside0.mk H
            clear H
            have hnb63 := NB539_526.out
            have hnc63 := NB526_539.out
            have hnb64 := NB539_527.out
            have hnc64 := NB527_539.out
            have hnb65 := NB539_531.out
            have hnc65 := NB531_539.out
            have hnb66 := NB539_535.out
            have hnc66 := NB535_539.out
            have hcz67_0 : w52.cell? ⟨gb539, 0, none⟩ = some (.int .i64 t536) := (blk_cell BK539.out 0).trans rfl
            have hcz67_1 : w52.cell? ⟨gb539, 1, none⟩ = some (.int .u64 t537) := (blk_cell BK539.out 1).trans rfl
            have hfz67_0 := blk_frozen BK539.out 0
            have hfz67_1 := blk_frozen BK539.out 1
            have hnb68 := NB531_526.out
            have hnc68 := NB526_531.out
            have hnb69 := NB531_527.out
            have hnc69 := NB527_531.out
            have hnb70 := NB531_535.out
            have hnc70 := NB535_531.out
            have hcz71_0 : w52.cell? ⟨gb531, 0, none⟩ = some (.int .i64 t528) := (blk_cell BK531.out 0).trans rfl
            have hcz71_1 : w52.cell? ⟨gb531, 1, none⟩ = some (.int .u64 t529) := (blk_cell BK531.out 1).trans rfl
            have hfz71_0 := blk_frozen BK531.out 0
            have hfz71_1 := blk_frozen BK531.out 1
            go_wp2
            go_meet
            case rel => exact ⟨_, ((t538 != t530)), (by first | rfl | (simp; done) | (simp [*]; done)), H', ⟨by have := HJ5.out; first | omega | exact Nat.le_refl _⟩, ⟨by (with_reducible repeat (first | refine blk_drewN ?_ _ | refine blk_drew ?_ | refine blk_alloc ?_ _)); exact BK526.out⟩, ⟨by (with_reducible repeat (first | refine blk_drewN ?_ _ | refine blk_drew ?_ | refine blk_alloc ?_ _)); exact BK527.out⟩, ⟨by (with_reducible repeat (first | refine blk_drewN ?_ _ | refine blk_drew ?_ | refine blk_alloc ?_ _)); exact BK531.out⟩, ⟨by (with_reducible repeat (first | refine blk_drewN ?_ _ | refine blk_drew ?_ | refine blk_alloc ?_ _)); exact BK535.out⟩, ⟨by (with_reducible repeat (first | refine blk_drewN ?_ _ | refine blk_drew ?_ | refine blk_alloc ?_ _)); exact BK539.out⟩, ⟨bE⟩⟩
        case rest =>
          clear HC36
          try clear c1
          try clear c2
          try clear p2
          try clear c3
          try clear c4
          try clear c5
          try clear c6
          try clear c7
          try clear c9
          try clear c14
          try clear c15
          try clear c19
          try clear c20
          try clear c21
          try clear c22
          try clear c24
          try clear c24b0
          try clear c24b1
          try clear c25
          try clear c25b0
          try clear c25b1
          try clear c26
          try clear c27
          try clear c28
          try clear c30
          try clear c31
          try clear c33
          try clear c37
          try clear c38
          try clear c39
          try clear c41
          try clear c42
          try clear c46
          try clear c47
          try clear c48
          try clear c49
          try clear c53
          try clear c53b0
          try clear c54
          try clear c55
          try clear c56
          try clear c57
          try clear c59
          try clear c60
          try clear c61
          try clear c63
          try clear c64
          try clear c65
          try clear c66
          try clear c68
          try clear c69
          try clear c70
          try clear hcz10_0
          try clear hcz10_1
          try clear hcz11_0
          try clear hcz11_1
          try clear hcz16_0
          try clear hcz16_1
          try clear hcz17_0
          try clear hcz17_1
          try clear hcz23_0
          try clear hcz23_1
          try clear hcz29_0
          try clear hcz29_1
          try clear hcz32_0
          try clear hcz32_1
          try clear hcz40_0
          try clear hcz40_1
          try clear hcz43_0
          try clear hcz43_1
          try clear hcz50_0
          try clear hcz50_1
          try clear hcz51_0
          try clear hcz51_1
          try clear hcz58_0
          try clear hcz58_1
          try clear hcz62_0
          try clear hcz62_1
          try clear hcz67_0
          try clear hcz67_1
          try clear hcz71_0
          try clear hcz71_1
          try clear hfz10_0
          try clear hfz10_1
          try clear hfz11_0
          try clear hfz11_1
          try clear hfz16_0
          try clear hfz16_1
          try clear hfz17_0
          try clear hfz17_1
          try clear hfz23_0
          try clear hfz23_1
          try clear hfz29_0
          try clear hfz29_1
          try clear hfz32_0
          try clear hfz32_1
          try clear hfz40_0
          try clear hfz40_1
          try clear hfz43_0
          try clear hfz43_1
          try clear hfz50_0
          try clear hfz50_1
          try clear hfz51_0
          try clear hfz51_1
          try clear hfz58_0
          try clear hfz58_1
          try clear hfz62_0
          try clear hfz62_1
          try clear hfz67_0
          try clear hfz67_1
          try clear hfz71_0
          try clear hfz71_1
          try clear p2
          obtain ⟨kq, x58_35, rfl, HA, HJ35, BK526, BK527, BK531, BK535, BK539, HB⟩ := hcut
          cases kq with
          | zero => exact absurd HA.out (by simp [corebanklaw01_WideRestores.j1])
          | succ kj35 =>
            have H := HA.out
            clear HA
            simp only [corebanklaw01_WideRestores.j1] at H
            by_cases c72 : x58_35 = true
            · subst c72
              have H1 : (none) = some r := by rw [if_pos rfl] at H; exact H
              clear H
              have H := H1
              clear H1
              exact absurd H (by simp)
            · replace c72 := Bool.eq_false_iff.mpr c72
              subst c72
              have H1 : ((wide_Of.f a2).bind fun bt542 => ((wide_Scale.f kj35 bt542.1 bt542.2 t540).bind fun bt544 => (if t541 = true then ((wide_Mul.f a2 t540).bind fun bt548 => (if (bt544.1 == bt548.1 && (bt544.2.1 == bt548.2)) = true then (if bt544.2.2 = 0 then ((wide_Mul.f t540 a2).bind fun bt550 => (if (bt550.1 == bt544.1 && (bt550.2 == bt544.2.1)) = true then ((corebanklaw01_live.f kj35).bind fun t552 => (some t552)) else (none))) else (none)) else (none))) else ((corebanklaw01_live.f kj35).bind fun t553 => (some t553))))) = some r := by rw [if_neg (show ¬ (false = true) by decide)] at H; exact H
              clear H
              have H := H1
              clear H1
              replace H := Option.bind_eq_some_iff.mp H
              obtain ⟨⟨t542, t543⟩, A730, H⟩ := H
              replace H : ((wide_Scale.f kj35 t542 t543 t540).bind fun bt544 => (if t541 = true then ((wide_Mul.f a2 t540).bind fun bt548 => (if (bt544.1 == bt548.1 && (bt544.2.1 == bt548.2)) = true then (if bt544.2.2 = 0 then ((wide_Mul.f t540 a2).bind fun bt550 => (if (bt550.1 == bt544.1 && (bt550.2 == bt544.2.1)) = true then ((corebanklaw01_live.f kj35).bind fun t552 => (some t552)) else (none))) else (none)) else (none))) else ((corebanklaw01_live.f kj35).bind fun t553 => (some t553)))) = some r := H
              have A73 := Aside0.mk A730
              clear A730
              replace H := Option.bind_eq_some_iff.mp H
              obtain ⟨⟨t544, t545, t546⟩, A740, H⟩ := H
              replace H : (if t541 = true then ((wide_Mul.f a2 t540).bind fun bt548 => (if (t544 == bt548.1 && (t545 == bt548.2)) = true then (if t546 = 0 then ((wide_Mul.f t540 a2).bind fun bt550 => (if (bt550.1 == t544 && (bt550.2 == t545)) = true then ((corebanklaw01_live.f kj35).bind fun t552 => (some t552)) else (none))) else (none)) else (none))) else ((corebanklaw01_live.f kj35).bind fun t553 => (some t553))) = some r := H
              have A74 := Aside0.mk A740
              clear A740
              by_cases c75 : t541 = true
              · subst c75
                have H1 : ((wide_Mul.f a2 t540).bind fun bt548 => (if (t544 == bt548.1 && (t545 == bt548.2)) = true then (if t546 = 0 then ((wide_Mul.f t540 a2).bind fun bt550 => (if (bt550.1 == t544 && (bt550.2 == t545)) = true then ((corebanklaw01_live.f kj35).bind fun t552 => (some t552)) else (none))) else (none)) else (none))) = some r := by rw [if_pos rfl] at H; exact H
                clear H
                have H := H1
                clear H1
                replace H := Option.bind_eq_some_iff.mp H
                obtain ⟨⟨t548, t549⟩, A760, H⟩ := H
                replace H : (if (t544 == t548 && (t545 == t549)) = true then (if t546 = 0 then ((wide_Mul.f t540 a2).bind fun bt550 => (if (bt550.1 == t544 && (bt550.2 == t545)) = true then ((corebanklaw01_live.f kj35).bind fun t552 => (some t552)) else (none))) else (none)) else (none)) = some r := H
                have A76 := Aside0.mk A760
                clear A760
                by_cases c77 : (t544 == t548 && (t545 == t549)) = true
                · rw [if_pos c77] at H
                  have c77b0 : (t544 == t548 && (t545 == t549)) = true := c77
                  (try (have c77b1 : decide (t544 = t548 && (t545 == t549)) = true := by simpa using c77))
                  (try (have c77b2 : (t544 == t548 && (t545 == t549)) = true := by simpa using c77))
                  clear c77
                  by_cases c78 : t546 = 0
                  · rw [if_pos c78] at H
                    have c78b0 : (t546 == 0) = true := beq_iff_eq.mpr c78
                    have c78b1 : (t546 != 0) = false := bne_eq_false_iff_eq.mpr c78
                    clear c78
                    replace H := Option.bind_eq_some_iff.mp H
                    obtain ⟨⟨t550, t551⟩, A790, H⟩ := H
                    replace H : (if (t550 == t544 && (t551 == t545)) = true then ((corebanklaw01_live.f kj35).bind fun t552 => (some t552)) else (none)) = some r := H
                    have A79 := Aside0.mk A790
                    clear A790
                    by_cases c80 : (t550 == t544 && (t551 == t545)) = true
                    · rw [if_pos c80] at H
                      have c80b0 : (t550 == t544 && (t551 == t545)) = true := c80
                      (try (have c80b1 : decide (t550 = t544 && (t551 == t545)) = true := by simpa using c80))
                      (try (have c80b2 : (t550 == t544 && (t551 == t545)) = true := by simpa using c80))
                      clear c80
                      replace H := Option.bind_eq_some_iff.mp H
                      obtain ⟨t552, A810, H⟩ := H
                      replace H : (some t552) = some r := H
                      have A81 := Aside0.mk A810
                      clear A810
                      obtain rfl := Option.some.inj H
                      try go_wp2_with (first | ((with_reducible refine gate_callee (f := 23) rfl ?_); refine goesL_ (some 61) rfl rfl Try.func23 (by kernel_rfl) rfl #[.int .i64 a2] rfl aG ?_; (with_reducible refine (wide_Of.calls a2 t542 t543 _ A73.out).mono ?_); rintro e w82 ⟨rfl, hb⟩; refine ⟨_, rfl, ?_⟩; replace BK526 := Aside0.mk (bK BK526 hb); replace BK527 := Aside0.mk (bK BK527 hb); replace BK531 := Aside0.mk (bK BK531 hb); replace BK535 := Aside0.mk (bK BK535 hb); replace BK539 := Aside0.mk (bK BK539 hb); replace HB := Aside0.mk (bS hb); (try clear hb); (try clear hb2); (try clear hk); (try clear hi)) | ((with_reducible refine gate_callee (f := 17) rfl ?_); refine goesL_ (some 63) rfl rfl Try.func17 (by kernel_rfl) rfl #[.agg #[.int .i64 t542, .int .u64 t543], .int .i64 t540] rfl aG ?_; (with_reducible refine (wide_Scale.calls kj35 t542 t543 t540 t544 t545 t546 _ A74.out).mono ?_); rintro e w83 ⟨rfl, hb⟩; refine ⟨_, rfl, ?_⟩; replace BK526 := Aside0.mk (bK BK526 hb); replace BK527 := Aside0.mk (bK BK527 hb); replace BK531 := Aside0.mk (bK BK531 hb); replace BK535 := Aside0.mk (bK BK535 hb); replace BK539 := Aside0.mk (bK BK539 hb); replace HB := Aside0.mk (bS hb); (try clear hb); (try clear hb2); (try clear hk); (try clear hi)) | ((with_reducible refine gate_dst (N := 15) rfl ?_); refine box_event ?hg (N := 15) ?hd (cs := #[.int .i64 0, .int .u64 0]) (t := 24) ?hr ?_; (case hd => rfl); (case hg => rfl); (case hr => first | (go_simp; done) | (go_simp; rfl)); intro gb547 hg w84 hbox hb; have nn_ := bT hb hg; have bgb526_ := bN BK526 hb hg; have bgb527_ := bN BK527 hb hg; have bgb531_ := bN BK531 hb hg; have bgb535_ := bN BK535 hb hg; have bgb539_ := bN BK539 hb hg; have BK547 := Aside0.mk (hbox); have GW547 := Aside0.mk nn_.2; have GE547 := GW547; have NB526_547 := Aside0.mk bgb526_.2.1; have NB547_526 := Aside0.mk bgb526_.2.2; have NB527_547 := Aside0.mk bgb527_.2.1; have NB547_527 := Aside0.mk bgb527_.2.2; have NB531_547 := Aside0.mk bgb531_.2.1; have NB547_531 := Aside0.mk bgb531_.2.2; have NB535_547 := Aside0.mk bgb535_.2.1; have NB547_535 := Aside0.mk bgb535_.2.2; have NB539_547 := Aside0.mk bgb539_.2.1; have NB547_539 := Aside0.mk bgb539_.2.2; replace BK526 := Aside0.mk bgb526_.1; replace BK527 := Aside0.mk bgb527_.1; replace BK531 := Aside0.mk bgb531_.1; replace BK535 := Aside0.mk bgb535_.1; replace BK539 := Aside0.mk bgb539_.1; replace HB := Aside0.mk nn_.1; clear nn_ bgb526_ bgb527_ bgb531_ bgb535_ bgb539_; clear hb hbox hg; have hnb85 := NB547_526.out; have hnc85 := NB526_547.out; have hnb86 := NB547_527.out; have hnc86 := NB527_547.out; have hnb87 := NB547_531.out; have hnc87 := NB531_547.out; have hnb88 := NB547_535.out; have hnc88 := NB535_547.out; have hnb89 := NB547_539.out; have hnc89 := NB539_547.out; have hcz90_0 : w84.cell? ⟨gb547, 0, none⟩ = some (.int .i64 0) := (blk_cell BK547.out 0).trans rfl; have hcz90_1 : w84.cell? ⟨gb547, 1, none⟩ = some (.int .u64 0) := (blk_cell BK547.out 1).trans rfl; have hfz90_0 := blk_frozen BK547.out 0; have hfz90_1 := blk_frozen BK547.out 1))
                      have n0_ : Aside0 (((w84.setCell ⟨gb547, 0, none⟩ (.int .i64 t544)).setCell ⟨gb547, 1, none⟩ (.int .u64 t545)).heap[gb526]? = some (.cells #[.int .i64 a0_0, .int .u64 a0_1] 24 (0, 0))) := ⟨by (with_reducible repeat (first | refine blk_drewN ?_ _ | refine blk_drew ?_ | refine blk_alloc ?_ _)); refine blk_far ?_ NB526_547.out _; (with_reducible repeat (first | refine blk_drewN ?_ _ | refine blk_drew ?_ | refine blk_alloc ?_ _)); refine blk_far ?_ NB526_547.out _; (with_reducible repeat (first | refine blk_drewN ?_ _ | refine blk_drew ?_ | refine blk_alloc ?_ _)); exact BK526.out⟩
                      have n1_ : Aside0 (((w84.setCell ⟨gb547, 0, none⟩ (.int .i64 t544)).setCell ⟨gb547, 1, none⟩ (.int .u64 t545)).heap[gb527]? = some (.cells #[.int .i64 a1_0, .int .u64 a1_1] 24 (0, 0))) := ⟨by (with_reducible repeat (first | refine blk_drewN ?_ _ | refine blk_drew ?_ | refine blk_alloc ?_ _)); refine blk_far ?_ NB527_547.out _; (with_reducible repeat (first | refine blk_drewN ?_ _ | refine blk_drew ?_ | refine blk_alloc ?_ _)); refine blk_far ?_ NB527_547.out _; (with_reducible repeat (first | refine blk_drewN ?_ _ | refine blk_drew ?_ | refine blk_alloc ?_ _)); exact BK527.out⟩
                      have n2_ : Aside0 (((w84.setCell ⟨gb547, 0, none⟩ (.int .i64 t544)).setCell ⟨gb547, 1, none⟩ (.int .u64 t545)).heap[gb531]? = some (.cells #[.int .i64 t528, .int .u64 t529] 24 (0, 0))) := ⟨by (with_reducible repeat (first | refine blk_drewN ?_ _ | refine blk_drew ?_ | refine blk_alloc ?_ _)); refine blk_far ?_ NB531_547.out _; (with_reducible repeat (first | refine blk_drewN ?_ _ | refine blk_drew ?_ | refine blk_alloc ?_ _)); refine blk_far ?_ NB531_547.out _; (with_reducible repeat (first | refine blk_drewN ?_ _ | refine blk_drew ?_ | refine blk_alloc ?_ _)); exact BK531.out⟩
                      have n3_ : Aside0 (((w84.setCell ⟨gb547, 0, none⟩ (.int .i64 t544)).setCell ⟨gb547, 1, none⟩ (.int .u64 t545)).heap[gb535]? = some (.cells #[.int .i64 t532, .int .u64 t533] 24 (0, 0))) := ⟨by (with_reducible repeat (first | refine blk_drewN ?_ _ | refine blk_drew ?_ | refine blk_alloc ?_ _)); refine blk_far ?_ NB535_547.out _; (with_reducible repeat (first | refine blk_drewN ?_ _ | refine blk_drew ?_ | refine blk_alloc ?_ _)); refine blk_far ?_ NB535_547.out _; (with_reducible repeat (first | refine blk_drewN ?_ _ | refine blk_drew ?_ | refine blk_alloc ?_ _)); exact BK535.out⟩
                      have n4_ : Aside0 (((w84.setCell ⟨gb547, 0, none⟩ (.int .i64 t544)).setCell ⟨gb547, 1, none⟩ (.int .u64 t545)).heap[gb539]? = some (.cells #[.int .i64 t536, .int .u64 t537] 24 (0, 0))) := ⟨by (with_reducible repeat (first | refine blk_drewN ?_ _ | refine blk_drew ?_ | refine blk_alloc ?_ _)); refine blk_far ?_ NB539_547.out _; (with_reducible repeat (first | refine blk_drewN ?_ _ | refine blk_drew ?_ | refine blk_alloc ?_ _)); refine blk_far ?_ NB539_547.out _; (with_reducible repeat (first | refine blk_drewN ?_ _ | refine blk_drew ?_ | refine blk_alloc ?_ _)); exact BK539.out⟩
                      have n5_ : Aside0 (((w84.setCell ⟨gb547, 0, none⟩ (.int .i64 t544)).setCell ⟨gb547, 1, none⟩ (.int .u64 t545)).heap[gb547]? = some (.cells #[.int .i64 t544, .int .u64 t545] 24 (0, 0))) := ⟨by (with_reducible repeat (first | refine blk_drewN ?_ _ | refine blk_drew ?_ | refine blk_alloc ?_ _)); refine blk_put (cs := #[.int .i64 t544, .int .u64 0]) ?_ 1 _ rfl; (with_reducible repeat (first | refine blk_drewN ?_ _ | refine blk_drew ?_ | refine blk_alloc ?_ _)); refine blk_put (cs := #[.int .i64 0, .int .u64 0]) ?_ 0 _ rfl; (with_reducible repeat (first | refine blk_drewN ?_ _ | refine blk_drew ?_ | refine blk_alloc ?_ _)); exact BK547.out⟩
                      have n6_ : Aside0 (Below w.heap.size w ((w84.setCell ⟨gb547, 0, none⟩ (.int .i64 t544)).setCell ⟨gb547, 1, none⟩ (.int .u64 t545))) := ⟨bE⟩
                      (try clear BK526)
                      (try clear BK527)
                      (try clear BK531)
                      (try clear BK535)
                      (try clear BK539)
                      (try clear BK547)
                      (try clear HB)
                      generalize ((w84.setCell ⟨gb547, 0, none⟩ (.int .i64 t544)).setCell ⟨gb547, 1, none⟩ (.int .u64 t545)) = w91 at n0_ n1_ n2_ n3_ n4_ n5_ n6_ ⊢
                      have BK526 := n0_
                      have BK527 := n1_
                      have BK531 := n2_
                      have BK535 := n3_
                      have BK539 := n4_
                      have BK547 := n5_
                      have HB := n6_
                      clear n0_ n1_ n2_ n3_ n4_ n5_ n6_
                      have n0_ := Aside0.mk (blk_drew BK526.out)
                      have n1_ := Aside0.mk (blk_drew BK527.out)
                      have n2_ := Aside0.mk (blk_drew BK531.out)
                      have n3_ := Aside0.mk (blk_drew BK535.out)
                      have n4_ := Aside0.mk (blk_drew BK539.out)
                      have n5_ := Aside0.mk (blk_drew BK547.out)
                      have n6_ := Aside0.mk (below_drew1 HB.out)
                      clear BK526
                      clear BK527
                      clear BK531
                      clear BK535
                      clear BK539
                      clear BK547
                      clear HB
                      have BK526 := n0_
                      have BK527 := n1_
                      have BK531 := n2_
                      have BK535 := n3_
                      have BK539 := n4_
                      have BK547 := n5_
                      have HB := n6_
                      clear n0_ n1_ n2_ n3_ n4_ n5_ n6_
                      refine start_ (n := 24) (S := fun w' => w'.cell? ⟨gb547, 0, none⟩ = some (.int .i64 t544) ∧ w'.cell? ⟨gb547, 1, none⟩ = some (.int .u64 t545)) (ds := []) #[false, false, false, false, false, false, false, false, false, false, false, false, false, false, false, false, false, false, false, false, false, false, false, false] (by kernel_rfl) rfl rfl ⟨(blk_cell BK547.out 0).trans rfl, (blk_cell BK547.out 1).trans rfl⟩ (fun hHeld => ?_); refine with_tabW corebanklaw01_WideRestores.tab10 corebanklaw01_WideRestores.bits10 (fun HT_ HW_ => ?_)
                      generalize w91.drew = w92 at BK526 BK527 BK531 BK535 BK539 BK547 HB hHeld ⊢
                      refine pure_ (i := 0) (N := some 66) (v := ?_) (a' := ?_) #[true, false, false, false, false, false, false, false, false, false, false, false, false, false, false, false, false, false, false, false, false, false, false, false] rfl rfl (any_of HT_.out (by kernel_rfl)) (fun _ _ _ h => h) (Or.inl ⟨by rfl, ?_⟩) ?_ ?_
                      rotate_left
                      · intro w'
                        go_simp
                        with_reducible rfl
                      rotate_left
                      · simp only [Act.put, List.setIfInBounds_toArray, List.set_cons_zero, List.set_cons_succ, i64_w, i32_w]
                        rfl
                      refine pure_ (i := 1) (N := some 67) (v := ?_) (a' := ?_) #[true, true, false, false, false, false, false, false, false, false, false, false, false, false, false, false, false, false, false, false, false, false, false, false] rfl rfl (any_of HT_.out (by kernel_rfl)) (fun _ _ _ h => h) (Or.inl ⟨by rfl, ?_⟩) ?_ ?_
                      rotate_left
                      · intro w'
                        go_simp
                        with_reducible rfl
                      rotate_left
                      · simp only [Act.put, List.setIfInBounds_toArray, List.set_cons_zero, List.set_cons_succ, i64_w, i32_w]
                        rfl
                      refine pure_ (i := 2) (N := some 68) (v := ?_) (a' := ?_) #[true, true, true, false, false, false, false, false, false, false, false, false, false, false, false, false, false, false, false, false, false, false, false, false] rfl rfl (any_of HT_.out (by kernel_rfl)) (fun _ _ _ h => h) (Or.inl ⟨by rfl, ?_⟩) ?_ ?_
                      rotate_left
                      · intro w'
                        go_simp
                        with_reducible rfl
                      rotate_left
                      · simp only [Act.put, List.setIfInBounds_toArray, List.set_cons_zero, List.set_cons_succ, i64_w, i32_w]
                        rfl
                      refine pure_ (i := 4) (N := some 70) (v := ?_) (a' := ?_) #[true, true, true, false, true, false, false, false, false, false, false, false, false, false, false, false, false, false, false, false, false, false, false, false] rfl rfl (any_of HT_.out (by kernel_rfl)) (fun _ _ _ h => h) (Or.inl ⟨by rfl, ?_⟩) ?_ ?_
                      rotate_left
                      · intro w'
                        go_simp
                        with_reducible rfl
                      rotate_left
                      · simp only [Act.put, List.setIfInBounds_toArray, List.set_cons_zero, List.set_cons_succ, i64_w, i32_w]
                        rfl
                      refine pure_ (i := 5) (N := some 71) (v := ?_) (a' := ?_) #[true, true, true, false, true, true, false, false, false, false, false, false, false, false, false, false, false, false, false, false, false, false, false, false] rfl rfl (any_of HT_.out (by kernel_rfl)) (fun _ _ _ h => h) (Or.inl ⟨by rfl, ?_⟩) ?_ ?_
                      rotate_left
                      · intro w'
                        go_simp
                        with_reducible rfl
                      rotate_left
                      · simp only [Act.put, List.setIfInBounds_toArray, List.set_cons_zero, List.set_cons_succ, i64_w, i32_w]
                        rfl
                      refine take_ (i := 3) (N := some 69) (v := ?_) (a' := ?_) #[true, true, true, true, true, true, false, false, false, false, false, false, false, false, false, false, false, false, false, false, false, false, false, false] rfl rfl (take_ofW HT_.out HW_.out (by kernel_rfl)) (fun _ _ _ h => h) (Or.inl ⟨by rfl, ?_⟩) hHeld ?_ ?_
                      rotate_left
                      · rintro w' ⟨s0, s1⟩
                        go_simp
                        with_reducible rfl
                      rotate_left
                      · simp only [Act.put, List.setIfInBounds_toArray, List.set_cons_zero, List.set_cons_succ, i64_w, i32_w]
                        rfl
                      refine one_ (i := 6) (N := some 72) #[true, true, true, true, true, true, true, false, false, false, false, false, false, false, false, false, false, false, false, false, false, false, false, false] rfl rfl (one_of HT_.out (by kernel_rfl)) (by decide) (fun K hK => ?_)
                      refine goes_ Try.func21 (by kernel_rfl) rfl #[.int .i64 a2, .int .i64 t540] (by rfl) rfl rfl aG ?_
                      with_reducible refine (wide_Mul.calls a2 t540 t548 t549 _ A76.out).mono ?_
                      rintro e w93 ⟨rfl, hb⟩
                      refine ⟨_, rfl, ?_⟩
                      have n0_ := Aside0.mk (bK BK526 hb)
                      have n1_ := Aside0.mk (bK BK527 hb)
                      have n2_ := Aside0.mk (bK BK531 hb)
                      have n3_ := Aside0.mk (bK BK535 hb)
                      have n4_ := Aside0.mk (bK BK539 hb)
                      have n5_ := Aside0.mk (bK BK547 hb)
                      have n6_ := Aside0.mk (bS hb)
                      clear BK526
                      clear BK527
                      clear BK531
                      clear BK535
                      clear BK539
                      clear BK547
                      clear HB
                      have BK526 := n0_
                      have BK527 := n1_
                      have BK531 := n2_
                      have BK535 := n3_
                      have BK539 := n4_
                      have BK547 := n5_
                      have HB := n6_
                      clear n0_ n1_ n2_ n3_ n4_ n5_ n6_
                      (try clear hb)
                      (try clear hb2)
                      (try clear hk)
                      (try clear hi)
                      refine hK.out _ _ ⟨(blk_cell BK547.out 0).trans rfl, (blk_cell BK547.out 1).trans rfl⟩ (fun hHeld => ?_)
                      clear hK K
                      refine norm_ (a' := ?_) ?_ ?_
                      rotate_left
                      · show Act.put _ (some 72) _ = _
                        simp only [Act.put, List.setIfInBounds_toArray, List.set_cons_zero, List.set_cons_succ, i64_w, i32_w]
                        rfl
                      refine pure_ (i := 7) (N := some 73) (v := ?_) (a' := ?_) #[true, true, true, true, true, true, true, true, false, false, false, false, false, false, false, false, false, false, false, false, false, false, false, false] rfl rfl (any_of HT_.out (by kernel_rfl)) (fun _ _ _ h => h) (Or.inl ⟨by rfl, ?_⟩) ?_ ?_
                      rotate_left
                      · intro w'
                        go_simp
                        with_reducible rfl
                      rotate_left
                      · simp only [Act.put, List.setIfInBounds_toArray, List.set_cons_zero, List.set_cons_succ, i64_w, i32_w]
                        rfl
                      refine pure_ (i := 8) (N := some 74) (v := ?_) (a' := ?_) #[true, true, true, true, true, true, true, true, true, false, false, false, false, false, false, false, false, false, false, false, false, false, false, false] rfl rfl (any_of HT_.out (by kernel_rfl)) (fun _ _ _ h => h) (Or.inl ⟨by rfl, ?_⟩) ?_ ?_
                      rotate_left
                      · intro w'
                        go_simp
                        with_reducible rfl
                      rotate_left
                      · simp only [Act.put, List.setIfInBounds_toArray, List.set_cons_zero, List.set_cons_succ, i64_w, i32_w]
                        rfl
                      refine pure_ (i := 9) (N := some 75) (v := ?_) (a' := ?_) #[true, true, true, true, true, true, true, true, true, true, false, false, false, false, false, false, false, false, false, false, false, false, false, false] rfl rfl (any_of HT_.out (by kernel_rfl)) (fun _ _ _ h => h) (Or.inl ⟨by rfl, ?_⟩) ?_ ?_
                      rotate_left
                      · intro w'
                        go_simp
                        with_reducible rfl
                      rotate_left
                      · simp only [Act.put, List.setIfInBounds_toArray, List.set_cons_zero, List.set_cons_succ, i64_w, i32_w]
                        rfl
                      refine pure_ (i := 10) (N := some 76) (v := ?_) (a' := ?_) #[true, true, true, true, true, true, true, true, true, true, true, false, false, false, false, false, false, false, false, false, false, false, false, false] rfl rfl (any_of HT_.out (by kernel_rfl)) (fun _ _ _ h => h) (Or.inl ⟨by rfl, ?_⟩) ?_ ?_
                      rotate_left
                      · intro w'
                        go_simp
                        with_reducible rfl
                      rotate_left
                      · simp only [Act.put, List.setIfInBounds_toArray, List.set_cons_zero, List.set_cons_succ, i64_w, i32_w]
                        rfl
                      refine pure_ (i := 11) (N := some 77) (v := ?_) (a' := ?_) #[true, true, true, true, true, true, true, true, true, true, true, true, false, false, false, false, false, false, false, false, false, false, false, false] rfl rfl (any_of HT_.out (by kernel_rfl)) (fun _ _ _ h => h) (Or.inl ⟨by rfl, ?_⟩) ?_ ?_
                      rotate_left
                      · intro w'
                        go_simp
                        with_reducible rfl
                      rotate_left
                      · simp only [Act.put, List.setIfInBounds_toArray, List.set_cons_zero, List.set_cons_succ, i64_w, i32_w]
                        rfl
                      refine pure_ (i := 12) (N := some 78) (v := ?_) (a' := ?_) #[true, true, true, true, true, true, true, true, true, true, true, true, true, false, false, false, false, false, false, false, false, false, false, false] rfl rfl (any_of HT_.out (by kernel_rfl)) (fun _ _ _ h => h) (Or.inl ⟨by rfl, ?_⟩) ?_ ?_
                      rotate_left
                      · intro w'
                        go_simp
                        with_reducible rfl
                      rotate_left
                      · simp only [Act.put, List.setIfInBounds_toArray, List.set_cons_zero, List.set_cons_succ, i64_w, i32_w]
                        rfl
                      refine pure_ (i := 13) (N := some 79) (v := ?_) (a' := ?_) #[true, true, true, true, true, true, true, true, true, true, true, true, true, true, false, false, false, false, false, false, false, false, false, false] rfl rfl (any_of HT_.out (by kernel_rfl)) (fun _ _ _ h => h) (Or.inl ⟨by rfl, ?_⟩) ?_ ?_
                      rotate_left
                      · intro w'
                        go_simp
                        with_reducible rfl
                      rotate_left
                      · simp only [Act.put, List.setIfInBounds_toArray, List.set_cons_zero, List.set_cons_succ, i64_w, i32_w]
                        rfl
                      refine pure_ (i := 14) (N := some 80) (v := ?_) (a' := ?_) #[true, true, true, true, true, true, true, true, true, true, true, true, true, true, true, false, false, false, false, false, false, false, false, false] rfl rfl (any_of HT_.out (by kernel_rfl)) (fun _ _ _ h => h) (Or.inl ⟨by rfl, ?_⟩) ?_ ?_
                      rotate_left
                      · intro w'
                        go_simp
                        with_reducible rfl
                      rotate_left
                      · simp only [Act.put, List.setIfInBounds_toArray, List.set_cons_zero, List.set_cons_succ, i64_w, i32_w]
                        rfl
                      refine take_ (i := 16) (N := some 82) (v := ?_) (a' := ?_) #[true, true, true, true, true, true, true, true, true, true, true, true, true, true, true, false, true, false, false, false, false, false, false, false] rfl rfl (take_ofW HT_.out HW_.out (by kernel_rfl)) (fun _ _ _ h => h) (Or.inl ⟨by rfl, ?_⟩) hHeld ?_ ?_
                      rotate_left
                      · rintro w' ⟨s0, s1⟩
                        go_simp
                        with_reducible rfl
                      rotate_left
                      · simp only [Act.put, List.setIfInBounds_toArray, List.set_cons_zero, List.set_cons_succ, i64_w, i32_w]
                        rfl
                      refine one_ (i := 15) (N := some 81) #[true, true, true, true, true, true, true, true, true, true, true, true, true, true, true, true, true, false, false, false, false, false, false, false] rfl rfl (one_of HT_.out (by kernel_rfl)) (by decide) (fun K hK => ?_)
                      refine goes_ Try.func21 (by kernel_rfl) rfl #[.int .i64 t540, .int .i64 a2] (by rfl) rfl rfl aG ?_
                      with_reducible refine (wide_Mul.calls t540 a2 t550 t551 _ A79.out).mono ?_
                      rintro e w94 ⟨rfl, hb⟩
                      refine ⟨_, rfl, ?_⟩
                      have n0_ := Aside0.mk (bK BK526 hb)
                      have n1_ := Aside0.mk (bK BK527 hb)
                      have n2_ := Aside0.mk (bK BK531 hb)
                      have n3_ := Aside0.mk (bK BK535 hb)
                      have n4_ := Aside0.mk (bK BK539 hb)
                      have n5_ := Aside0.mk (bK BK547 hb)
                      have n6_ := Aside0.mk (bS hb)
                      clear BK526
                      clear BK527
                      clear BK531
                      clear BK535
                      clear BK539
                      clear BK547
                      clear HB
                      have BK526 := n0_
                      have BK527 := n1_
                      have BK531 := n2_
                      have BK535 := n3_
                      have BK539 := n4_
                      have BK547 := n5_
                      have HB := n6_
                      clear n0_ n1_ n2_ n3_ n4_ n5_ n6_
                      (try clear hb)
                      (try clear hb2)
                      (try clear hk)
                      (try clear hi)
                      refine hK.out _ _ ⟨(blk_cell BK547.out 0).trans rfl, (blk_cell BK547.out 1).trans rfl⟩ (fun hHeld => ?_)
                      clear hK K
                      refine norm_ (a' := ?_) ?_ ?_
                      rotate_left
                      · show Act.put _ (some 81) _ = _
                        simp only [Act.put, List.setIfInBounds_toArray, List.set_cons_zero, List.set_cons_succ, i64_w, i32_w]
                        rfl
                      refine pure_ (i := 17) (N := some 83) (v := ?_) (a' := ?_) #[true, true, true, true, true, true, true, true, true, true, true, true, true, true, true, true, true, true, false, false, false, false, false, false] rfl rfl (any_of HT_.out (by kernel_rfl)) (fun _ _ _ h => h) (Or.inl ⟨by rfl, ?_⟩) ?_ ?_
                      rotate_left
                      · intro w'
                        go_simp
                        with_reducible rfl
                      rotate_left
                      · simp only [Act.put, List.setIfInBounds_toArray, List.set_cons_zero, List.set_cons_succ, i64_w, i32_w]
                        rfl
                      refine pure_ (i := 18) (N := some 84) (v := ?_) (a' := ?_) #[true, true, true, true, true, true, true, true, true, true, true, true, true, true, true, true, true, true, true, false, false, false, false, false] rfl rfl (any_of HT_.out (by kernel_rfl)) (fun _ _ _ h => h) (Or.inl ⟨by rfl, ?_⟩) ?_ ?_
                      rotate_left
                      · intro w'
                        go_simp
                        with_reducible rfl
                      rotate_left
                      · simp only [Act.put, List.setIfInBounds_toArray, List.set_cons_zero, List.set_cons_succ, i64_w, i32_w]
                        rfl
                      refine pure_ (i := 19) (N := some 85) (v := ?_) (a' := ?_) #[true, true, true, true, true, true, true, true, true, true, true, true, true, true, true, true, true, true, true, true, false, false, false, false] rfl rfl (any_of HT_.out (by kernel_rfl)) (fun _ _ _ h => h) (Or.inl ⟨by rfl, ?_⟩) ?_ ?_
                      rotate_left
                      · intro w'
                        go_simp
                        with_reducible rfl
                      rotate_left
                      · simp only [Act.put, List.setIfInBounds_toArray, List.set_cons_zero, List.set_cons_succ, i64_w, i32_w]
                        rfl
                      refine pure_ (i := 20) (N := some 86) (v := ?_) (a' := ?_) #[true, true, true, true, true, true, true, true, true, true, true, true, true, true, true, true, true, true, true, true, true, false, false, false] rfl rfl (any_of HT_.out (by kernel_rfl)) (fun _ _ _ h => h) (Or.inl ⟨by rfl, ?_⟩) ?_ ?_
                      rotate_left
                      · intro w'
                        go_simp
                        with_reducible rfl
                      rotate_left
                      · simp only [Act.put, List.setIfInBounds_toArray, List.set_cons_zero, List.set_cons_succ, i64_w, i32_w]
                        rfl
                      refine one_ (i := 21) (N := some 87) #[true, true, true, true, true, true, true, true, true, true, true, true, true, true, true, true, true, true, true, true, true, true, false, false] rfl rfl (one_of HT_.out (by kernel_rfl)) (by decide) (fun K hK => ?_)
                      refine goes_ Try.func12 (by kernel_rfl) rfl #[] (by rfl) rfl rfl aG ?_
                      with_reducible refine (corebanklaw01_live.calls kj35  t552 _ A81.out).mono ?_
                      rintro e w95 ⟨rfl, hb⟩
                      refine ⟨_, rfl, ?_⟩
                      have n0_ := Aside0.mk (bK BK526 hb)
                      have n1_ := Aside0.mk (bK BK527 hb)
                      have n2_ := Aside0.mk (bK BK531 hb)
                      have n3_ := Aside0.mk (bK BK535 hb)
                      have n4_ := Aside0.mk (bK BK539 hb)
                      have n5_ := Aside0.mk (bK BK547 hb)
                      have n6_ := Aside0.mk (bS hb)
                      clear BK526
                      clear BK527
                      clear BK531
                      clear BK535
                      clear BK539
                      clear BK547
                      clear HB
                      have BK526 := n0_
                      have BK527 := n1_
                      have BK531 := n2_
                      have BK535 := n3_
                      have BK539 := n4_
                      have BK547 := n5_
                      have HB := n6_
                      clear n0_ n1_ n2_ n3_ n4_ n5_ n6_
                      (try clear hb)
                      (try clear hb2)
                      (try clear hk)
                      (try clear hi)
                      refine hK.out _ _ ⟨(blk_cell BK547.out 0).trans rfl, (blk_cell BK547.out 1).trans rfl⟩ (fun hHeld => ?_)
                      clear hK K
                      refine norm_ (a' := ?_) ?_ ?_
                      rotate_left
                      · show Act.put _ (some 87) _ = _
                        simp only [Act.put, List.setIfInBounds_toArray, List.set_cons_zero, List.set_cons_succ, i64_w, i32_w]
                        rfl
                      refine pure_ (i := 22) (N := some 88) (v := ?_) (a' := ?_) #[true, true, true, true, true, true, true, true, true, true, true, true, true, true, true, true, true, true, true, true, true, true, true, false] rfl rfl (any_of HT_.out (by kernel_rfl)) (fun _ _ _ h => h) (Or.inl ⟨by rfl, ?_⟩) ?_ ?_
                      rotate_left
                      · intro w'
                        go_simp
                        with_reducible rfl
                      rotate_left
                      · simp only [Act.put, List.setIfInBounds_toArray, List.set_cons_zero, List.set_cons_succ, i64_w, i32_w]
                        rfl
                      refine pure_ (i := 23) (N := some 6) (v := ?_) (a' := ?_) #[true, true, true, true, true, true, true, true, true, true, true, true, true, true, true, true, true, true, true, true, true, true, true, true] rfl rfl (any_of HT_.out (by kernel_rfl)) (fun _ _ _ h => h) (Or.inl ⟨by rfl, ?_⟩) ?_ ?_
                      rotate_left
                      · intro w'
                        go_simp
                        with_reducible rfl
                      rotate_left
                      · simp only [Act.put, List.setIfInBounds_toArray, List.set_cons_zero, List.set_cons_succ, i64_w, i32_w]
                        rfl
                      refine done_ (done_of HT_.out (by kernel_rfl)) ?_
                      try go_wp2
                      go_ret
                      exact ⟨by first | rfl | (simp [errW_none, errW_some] <;> rfl) | (simp [*, errW_none, errW_some] <;> rfl), bE⟩
                    · rw [if_neg c80] at H
                      exact absurd H (by simp)
                  · rw [if_neg c78] at H
                    exact absurd H (by simp)
                · rw [if_neg c77] at H
                  exact absurd H (by simp)
              · replace c75 := Bool.eq_false_iff.mpr c75
                subst c75
                have H1 : ((corebanklaw01_live.f kj35).bind fun t553 => (some t553)) = some r := by rw [if_neg (show ¬ (false = true) by decide)] at H; exact H
                clear H
                have H := H1
                clear H1
                replace H := Option.bind_eq_some_iff.mp H
                obtain ⟨t553, A960, H⟩ := H
                replace H : (some t553) = some r := H
                have A96 := Aside0.mk A960
                clear A960
                obtain rfl := Option.some.inj H
                try go_wp2_with (first | ((with_reducible refine gate_callee (f := 23) rfl ?_); refine goesL_ (some 61) rfl rfl Try.func23 (by kernel_rfl) rfl #[.int .i64 a2] rfl aG ?_; (with_reducible refine (wide_Of.calls a2 t542 t543 _ A73.out).mono ?_); rintro e w97 ⟨rfl, hb⟩; refine ⟨_, rfl, ?_⟩; replace BK526 := Aside0.mk (bK BK526 hb); replace BK527 := Aside0.mk (bK BK527 hb); replace BK531 := Aside0.mk (bK BK531 hb); replace BK535 := Aside0.mk (bK BK535 hb); replace BK539 := Aside0.mk (bK BK539 hb); replace HB := Aside0.mk (bS hb); (try clear hb); (try clear hb2); (try clear hk); (try clear hi)) | ((with_reducible refine gate_callee (f := 17) rfl ?_); refine goesL_ (some 63) rfl rfl Try.func17 (by kernel_rfl) rfl #[.agg #[.int .i64 t542, .int .u64 t543], .int .i64 t540] rfl aG ?_; (with_reducible refine (wide_Scale.calls kj35 t542 t543 t540 t544 t545 t546 _ A74.out).mono ?_); rintro e w98 ⟨rfl, hb⟩; refine ⟨_, rfl, ?_⟩; replace BK526 := Aside0.mk (bK BK526 hb); replace BK527 := Aside0.mk (bK BK527 hb); replace BK531 := Aside0.mk (bK BK531 hb); replace BK535 := Aside0.mk (bK BK535 hb); replace BK539 := Aside0.mk (bK BK539 hb); replace HB := Aside0.mk (bS hb); (try clear hb); (try clear hb2); (try clear hk); (try clear hi)) | ((with_reducible refine gate_dst (N := 15) rfl ?_); refine box_event ?hg (N := 15) ?hd (cs := #[.int .i64 0, .int .u64 0]) (t := 24) ?hr ?_; (case hd => rfl); (case hg => rfl); (case hr => first | (go_simp; done) | (go_simp; rfl)); intro gb547 hg w99 hbox hb; have nn_ := bT hb hg; have bgb526_ := bN BK526 hb hg; have bgb527_ := bN BK527 hb hg; have bgb531_ := bN BK531 hb hg; have bgb535_ := bN BK535 hb hg; have bgb539_ := bN BK539 hb hg; have BK547 := Aside0.mk (hbox); have GW547 := Aside0.mk nn_.2; have GE547 := GW547; have NB526_547 := Aside0.mk bgb526_.2.1; have NB547_526 := Aside0.mk bgb526_.2.2; have NB527_547 := Aside0.mk bgb527_.2.1; have NB547_527 := Aside0.mk bgb527_.2.2; have NB531_547 := Aside0.mk bgb531_.2.1; have NB547_531 := Aside0.mk bgb531_.2.2; have NB535_547 := Aside0.mk bgb535_.2.1; have NB547_535 := Aside0.mk bgb535_.2.2; have NB539_547 := Aside0.mk bgb539_.2.1; have NB547_539 := Aside0.mk bgb539_.2.2; replace BK526 := Aside0.mk bgb526_.1; replace BK527 := Aside0.mk bgb527_.1; replace BK531 := Aside0.mk bgb531_.1; replace BK535 := Aside0.mk bgb535_.1; replace BK539 := Aside0.mk bgb539_.1; replace HB := Aside0.mk nn_.1; clear nn_ bgb526_ bgb527_ bgb531_ bgb535_ bgb539_; clear hb hbox hg; have hnb100 := NB547_526.out; have hnc100 := NB526_547.out; have hnb101 := NB547_527.out; have hnc101 := NB527_547.out; have hnb102 := NB547_531.out; have hnc102 := NB531_547.out; have hnb103 := NB547_535.out; have hnc103 := NB535_547.out; have hnb104 := NB547_539.out; have hnc104 := NB539_547.out; have hcz105_0 : w99.cell? ⟨gb547, 0, none⟩ = some (.int .i64 0) := (blk_cell BK547.out 0).trans rfl; have hcz105_1 : w99.cell? ⟨gb547, 1, none⟩ = some (.int .u64 0) := (blk_cell BK547.out 1).trans rfl; have hfz105_0 := blk_frozen BK547.out 0; have hfz105_1 := blk_frozen BK547.out 1))
                have n0_ : Aside0 (((w99.setCell ⟨gb547, 0, none⟩ (.int .i64 t544)).setCell ⟨gb547, 1, none⟩ (.int .u64 t545)).heap[gb526]? = some (.cells #[.int .i64 a0_0, .int .u64 a0_1] 24 (0, 0))) := ⟨by (with_reducible repeat (first | refine blk_drewN ?_ _ | refine blk_drew ?_ | refine blk_alloc ?_ _)); refine blk_far ?_ NB526_547.out _; (with_reducible repeat (first | refine blk_drewN ?_ _ | refine blk_drew ?_ | refine blk_alloc ?_ _)); refine blk_far ?_ NB526_547.out _; (with_reducible repeat (first | refine blk_drewN ?_ _ | refine blk_drew ?_ | refine blk_alloc ?_ _)); exact BK526.out⟩
                have n1_ : Aside0 (((w99.setCell ⟨gb547, 0, none⟩ (.int .i64 t544)).setCell ⟨gb547, 1, none⟩ (.int .u64 t545)).heap[gb527]? = some (.cells #[.int .i64 a1_0, .int .u64 a1_1] 24 (0, 0))) := ⟨by (with_reducible repeat (first | refine blk_drewN ?_ _ | refine blk_drew ?_ | refine blk_alloc ?_ _)); refine blk_far ?_ NB527_547.out _; (with_reducible repeat (first | refine blk_drewN ?_ _ | refine blk_drew ?_ | refine blk_alloc ?_ _)); refine blk_far ?_ NB527_547.out _; (with_reducible repeat (first | refine blk_drewN ?_ _ | refine blk_drew ?_ | refine blk_alloc ?_ _)); exact BK527.out⟩
                have n2_ : Aside0 (((w99.setCell ⟨gb547, 0, none⟩ (.int .i64 t544)).setCell ⟨gb547, 1, none⟩ (.int .u64 t545)).heap[gb531]? = some (.cells #[.int .i64 t528, .int .u64 t529] 24 (0, 0))) := ⟨by (with_reducible repeat (first | refine blk_drewN ?_ _ | refine blk_drew ?_ | refine blk_alloc ?_ _)); refine blk_far ?_ NB531_547.out _; (with_reducible repeat (first | refine blk_drewN ?_ _ | refine blk_drew ?_ | refine blk_alloc ?_ _)); refine blk_far ?_ NB531_547.out _; (with_reducible repeat (first | refine blk_drewN ?_ _ | refine blk_drew ?_ | refine blk_alloc ?_ _)); exact BK531.out⟩
                have n3_ : Aside0 (((w99.setCell ⟨gb547, 0, none⟩ (.int .i64 t544)).setCell ⟨gb547, 1, none⟩ (.int .u64 t545)).heap[gb535]? = some (.cells #[.int .i64 t532, .int .u64 t533] 24 (0, 0))) := ⟨by (with_reducible repeat (first | refine blk_drewN ?_ _ | refine blk_drew ?_ | refine blk_alloc ?_ _)); refine blk_far ?_ NB535_547.out _; (with_reducible repeat (first | refine blk_drewN ?_ _ | refine blk_drew ?_ | refine blk_alloc ?_ _)); refine blk_far ?_ NB535_547.out _; (with_reducible repeat (first | refine blk_drewN ?_ _ | refine blk_drew ?_ | refine blk_alloc ?_ _)); exact BK535.out⟩
                have n4_ : Aside0 (((w99.setCell ⟨gb547, 0, none⟩ (.int .i64 t544)).setCell ⟨gb547, 1, none⟩ (.int .u64 t545)).heap[gb539]? = some (.cells #[.int .i64 t536, .int .u64 t537] 24 (0, 0))) := ⟨by (with_reducible repeat (first | refine blk_drewN ?_ _ | refine blk_drew ?_ | refine blk_alloc ?_ _)); refine blk_far ?_ NB539_547.out _; (with_reducible repeat (first | refine blk_drewN ?_ _ | refine blk_drew ?_ | refine blk_alloc ?_ _)); refine blk_far ?_ NB539_547.out _; (with_reducible repeat (first | refine blk_drewN ?_ _ | refine blk_drew ?_ | refine blk_alloc ?_ _)); exact BK539.out⟩
                have n5_ : Aside0 (((w99.setCell ⟨gb547, 0, none⟩ (.int .i64 t544)).setCell ⟨gb547, 1, none⟩ (.int .u64 t545)).heap[gb547]? = some (.cells #[.int .i64 t544, .int .u64 t545] 24 (0, 0))) := ⟨by (with_reducible repeat (first | refine blk_drewN ?_ _ | refine blk_drew ?_ | refine blk_alloc ?_ _)); refine blk_put (cs := #[.int .i64 t544, .int .u64 0]) ?_ 1 _ rfl; (with_reducible repeat (first | refine blk_drewN ?_ _ | refine blk_drew ?_ | refine blk_alloc ?_ _)); refine blk_put (cs := #[.int .i64 0, .int .u64 0]) ?_ 0 _ rfl; (with_reducible repeat (first | refine blk_drewN ?_ _ | refine blk_drew ?_ | refine blk_alloc ?_ _)); exact BK547.out⟩
                have n6_ : Aside0 (Below w.heap.size w ((w99.setCell ⟨gb547, 0, none⟩ (.int .i64 t544)).setCell ⟨gb547, 1, none⟩ (.int .u64 t545))) := ⟨bE⟩
                (try clear BK526)
                (try clear BK527)
                (try clear BK531)
                (try clear BK535)
                (try clear BK539)
                (try clear BK547)
                (try clear HB)
                generalize ((w99.setCell ⟨gb547, 0, none⟩ (.int .i64 t544)).setCell ⟨gb547, 1, none⟩ (.int .u64 t545)) = w106 at n0_ n1_ n2_ n3_ n4_ n5_ n6_ ⊢
                have BK526 := n0_
                have BK527 := n1_
                have BK531 := n2_
                have BK535 := n3_
                have BK539 := n4_
                have BK547 := n5_
                have HB := n6_
                clear n0_ n1_ n2_ n3_ n4_ n5_ n6_
                have n0_ := Aside0.mk (blk_drew BK526.out)
                have n1_ := Aside0.mk (blk_drew BK527.out)
                have n2_ := Aside0.mk (blk_drew BK531.out)
                have n3_ := Aside0.mk (blk_drew BK535.out)
                have n4_ := Aside0.mk (blk_drew BK539.out)
                have n5_ := Aside0.mk (blk_drew BK547.out)
                have n6_ := Aside0.mk (below_drew1 HB.out)
                clear BK526
                clear BK527
                clear BK531
                clear BK535
                clear BK539
                clear BK547
                clear HB
                have BK526 := n0_
                have BK527 := n1_
                have BK531 := n2_
                have BK535 := n3_
                have BK539 := n4_
                have BK547 := n5_
                have HB := n6_
                clear n0_ n1_ n2_ n3_ n4_ n5_ n6_
                refine start_ (n := 24) (S := fun w' => True) (ds := []) #[false, false, false, false, false, false, false, false, false, false, false, false, false, false, false, false, false, false, false, false, false, false, false, false] (by kernel_rfl) rfl rfl trivial (fun hHeld => ?_); refine with_tabW corebanklaw01_WideRestores.tab10 corebanklaw01_WideRestores.bits10 (fun HT_ HW_ => ?_)
                generalize w106.drew = w107 at BK526 BK527 BK531 BK535 BK539 BK547 HB hHeld ⊢
                refine pure_ (i := 0) (N := some 66) (v := ?_) (a' := ?_) #[true, false, false, false, false, false, false, false, false, false, false, false, false, false, false, false, false, false, false, false, false, false, false, false] rfl rfl (any_of HT_.out (by kernel_rfl)) (fun _ _ _ h => h) (Or.inl ⟨by rfl, ?_⟩) ?_ ?_
                rotate_left
                · intro w'
                  go_simp
                  with_reducible rfl
                rotate_left
                · simp only [Act.put, List.setIfInBounds_toArray, List.set_cons_zero, List.set_cons_succ, i64_w, i32_w]
                  rfl
                refine pure_ (i := 1) (N := some 67) (v := ?_) (a' := ?_) #[true, true, false, false, false, false, false, false, false, false, false, false, false, false, false, false, false, false, false, false, false, false, false, false] rfl rfl (any_of HT_.out (by kernel_rfl)) (fun _ _ _ h => h) (Or.inl ⟨by rfl, ?_⟩) ?_ ?_
                rotate_left
                · intro w'
                  go_simp
                  with_reducible rfl
                rotate_left
                · simp only [Act.put, List.setIfInBounds_toArray, List.set_cons_zero, List.set_cons_succ, i64_w, i32_w]
                  rfl
                refine pure_ (i := 2) (N := some 68) (v := ?_) (a' := ?_) #[true, true, true, false, false, false, false, false, false, false, false, false, false, false, false, false, false, false, false, false, false, false, false, false] rfl rfl (any_of HT_.out (by kernel_rfl)) (fun _ _ _ h => h) (Or.inl ⟨by rfl, ?_⟩) ?_ ?_
                rotate_left
                · intro w'
                  go_simp
                  with_reducible rfl
                rotate_left
                · simp only [Act.put, List.setIfInBounds_toArray, List.set_cons_zero, List.set_cons_succ, i64_w, i32_w]
                  rfl
                refine pure_ (i := 3) (N := some 69) (v := undef) (a' := ?_) #[true, true, true, true, false, false, false, false, false, false, false, false, false, false, false, false, false, false, false, false, false, false, false, false] rfl rfl (any_of HT_.out (by kernel_rfl)) (fun _ _ _ h => h) (Or.inr ⟨by rfl, rfl⟩) ?_ ?_
                rotate_left
                · simp only [Act.put, List.setIfInBounds_toArray, List.set_cons_zero, List.set_cons_succ, i64_w, i32_w]
                  rfl
                refine pure_ (i := 4) (N := some 70) (v := undef) (a' := ?_) #[true, true, true, true, true, false, false, false, false, false, false, false, false, false, false, false, false, false, false, false, false, false, false, false] rfl rfl (any_of HT_.out (by kernel_rfl)) (fun _ _ _ h => h) (Or.inr ⟨by rfl, rfl⟩) ?_ ?_
                rotate_left
                · simp only [Act.put, List.setIfInBounds_toArray, List.set_cons_zero, List.set_cons_succ, i64_w, i32_w]
                  rfl
                refine pure_ (i := 5) (N := some 71) (v := undef) (a' := ?_) #[true, true, true, true, true, true, false, false, false, false, false, false, false, false, false, false, false, false, false, false, false, false, false, false] rfl rfl (any_of HT_.out (by kernel_rfl)) (fun _ _ _ h => h) (Or.inr ⟨by rfl, rfl⟩) ?_ ?_
                rotate_left
                · simp only [Act.put, List.setIfInBounds_toArray, List.set_cons_zero, List.set_cons_succ, i64_w, i32_w]
                  rfl
                refine pure_ (i := 6) (N := some 72) (v := undef) (a' := ?_) #[true, true, true, true, true, true, true, false, false, false, false, false, false, false, false, false, false, false, false, false, false, false, false, false] rfl rfl (any_of HT_.out (by kernel_rfl)) (fun _ _ _ h => h) (Or.inr ⟨by rfl, rfl⟩) ?_ ?_
                rotate_left
                · simp only [Act.put, List.setIfInBounds_toArray, List.set_cons_zero, List.set_cons_succ, i64_w, i32_w]
                  rfl
                refine pure_ (i := 7) (N := some 73) (v := undef) (a' := ?_) #[true, true, true, true, true, true, true, true, false, false, false, false, false, false, false, false, false, false, false, false, false, false, false, false] rfl rfl (any_of HT_.out (by kernel_rfl)) (fun _ _ _ h => h) (Or.inr ⟨by rfl, rfl⟩) ?_ ?_
                rotate_left
                · simp only [Act.put, List.setIfInBounds_toArray, List.set_cons_zero, List.set_cons_succ, i64_w, i32_w]
                  rfl
                refine pure_ (i := 8) (N := some 74) (v := undef) (a' := ?_) #[true, true, true, true, true, true, true, true, true, false, false, false, false, false, false, false, false, false, false, false, false, false, false, false] rfl rfl (any_of HT_.out (by kernel_rfl)) (fun _ _ _ h => h) (Or.inr ⟨by rfl, rfl⟩) ?_ ?_
                rotate_left
                · simp only [Act.put, List.setIfInBounds_toArray, List.set_cons_zero, List.set_cons_succ, i64_w, i32_w]
                  rfl
                refine pure_ (i := 9) (N := some 75) (v := undef) (a' := ?_) #[true, true, true, true, true, true, true, true, true, true, false, false, false, false, false, false, false, false, false, false, false, false, false, false] rfl rfl (any_of HT_.out (by kernel_rfl)) (fun _ _ _ h => h) (Or.inr ⟨by rfl, rfl⟩) ?_ ?_
                rotate_left
                · simp only [Act.put, List.setIfInBounds_toArray, List.set_cons_zero, List.set_cons_succ, i64_w, i32_w]
                  rfl
                refine pure_ (i := 10) (N := some 76) (v := undef) (a' := ?_) #[true, true, true, true, true, true, true, true, true, true, true, false, false, false, false, false, false, false, false, false, false, false, false, false] rfl rfl (any_of HT_.out (by kernel_rfl)) (fun _ _ _ h => h) (Or.inr ⟨by rfl, rfl⟩) ?_ ?_
                rotate_left
                · simp only [Act.put, List.setIfInBounds_toArray, List.set_cons_zero, List.set_cons_succ, i64_w, i32_w]
                  rfl
                refine pure_ (i := 11) (N := some 77) (v := undef) (a' := ?_) #[true, true, true, true, true, true, true, true, true, true, true, true, false, false, false, false, false, false, false, false, false, false, false, false] rfl rfl (any_of HT_.out (by kernel_rfl)) (fun _ _ _ h => h) (Or.inr ⟨by rfl, rfl⟩) ?_ ?_
                rotate_left
                · simp only [Act.put, List.setIfInBounds_toArray, List.set_cons_zero, List.set_cons_succ, i64_w, i32_w]
                  rfl
                refine pure_ (i := 12) (N := some 78) (v := undef) (a' := ?_) #[true, true, true, true, true, true, true, true, true, true, true, true, true, false, false, false, false, false, false, false, false, false, false, false] rfl rfl (any_of HT_.out (by kernel_rfl)) (fun _ _ _ h => h) (Or.inr ⟨by rfl, rfl⟩) ?_ ?_
                rotate_left
                · simp only [Act.put, List.setIfInBounds_toArray, List.set_cons_zero, List.set_cons_succ, i64_w, i32_w]
                  rfl
                refine pure_ (i := 13) (N := some 79) (v := undef) (a' := ?_) #[true, true, true, true, true, true, true, true, true, true, true, true, true, true, false, false, false, false, false, false, false, false, false, false] rfl rfl (any_of HT_.out (by kernel_rfl)) (fun _ _ _ h => h) (Or.inr ⟨by rfl, rfl⟩) ?_ ?_
                rotate_left
                · simp only [Act.put, List.setIfInBounds_toArray, List.set_cons_zero, List.set_cons_succ, i64_w, i32_w]
                  rfl
                refine pure_ (i := 14) (N := some 80) (v := undef) (a' := ?_) #[true, true, true, true, true, true, true, true, true, true, true, true, true, true, true, false, false, false, false, false, false, false, false, false] rfl rfl (any_of HT_.out (by kernel_rfl)) (fun _ _ _ h => h) (Or.inr ⟨by rfl, rfl⟩) ?_ ?_
                rotate_left
                · simp only [Act.put, List.setIfInBounds_toArray, List.set_cons_zero, List.set_cons_succ, i64_w, i32_w]
                  rfl
                refine pure_ (i := 15) (N := some 81) (v := undef) (a' := ?_) #[true, true, true, true, true, true, true, true, true, true, true, true, true, true, true, true, false, false, false, false, false, false, false, false] rfl rfl (any_of HT_.out (by kernel_rfl)) (fun _ _ _ h => h) (Or.inr ⟨by rfl, rfl⟩) ?_ ?_
                rotate_left
                · simp only [Act.put, List.setIfInBounds_toArray, List.set_cons_zero, List.set_cons_succ, i64_w, i32_w]
                  rfl
                refine pure_ (i := 16) (N := some 82) (v := undef) (a' := ?_) #[true, true, true, true, true, true, true, true, true, true, true, true, true, true, true, true, true, false, false, false, false, false, false, false] rfl rfl (any_of HT_.out (by kernel_rfl)) (fun _ _ _ h => h) (Or.inr ⟨by rfl, rfl⟩) ?_ ?_
                rotate_left
                · simp only [Act.put, List.setIfInBounds_toArray, List.set_cons_zero, List.set_cons_succ, i64_w, i32_w]
                  rfl
                refine pure_ (i := 17) (N := some 83) (v := undef) (a' := ?_) #[true, true, true, true, true, true, true, true, true, true, true, true, true, true, true, true, true, true, false, false, false, false, false, false] rfl rfl (any_of HT_.out (by kernel_rfl)) (fun _ _ _ h => h) (Or.inr ⟨by rfl, rfl⟩) ?_ ?_
                rotate_left
                · simp only [Act.put, List.setIfInBounds_toArray, List.set_cons_zero, List.set_cons_succ, i64_w, i32_w]
                  rfl
                refine pure_ (i := 18) (N := some 84) (v := undef) (a' := ?_) #[true, true, true, true, true, true, true, true, true, true, true, true, true, true, true, true, true, true, true, false, false, false, false, false] rfl rfl (any_of HT_.out (by kernel_rfl)) (fun _ _ _ h => h) (Or.inr ⟨by rfl, rfl⟩) ?_ ?_
                rotate_left
                · simp only [Act.put, List.setIfInBounds_toArray, List.set_cons_zero, List.set_cons_succ, i64_w, i32_w]
                  rfl
                refine pure_ (i := 19) (N := some 85) (v := ?_) (a' := ?_) #[true, true, true, true, true, true, true, true, true, true, true, true, true, true, true, true, true, true, true, true, false, false, false, false] rfl rfl (any_of HT_.out (by kernel_rfl)) (fun _ _ _ h => h) (Or.inl ⟨by rfl, ?_⟩) ?_ ?_
                rotate_left
                · intro w'
                  go_simp
                  with_reducible rfl
                rotate_left
                · simp only [Act.put, List.setIfInBounds_toArray, List.set_cons_zero, List.set_cons_succ, i64_w, i32_w]
                  rfl
                refine pure_ (i := 20) (N := some 86) (v := ?_) (a' := ?_) #[true, true, true, true, true, true, true, true, true, true, true, true, true, true, true, true, true, true, true, true, true, false, false, false] rfl rfl (any_of HT_.out (by kernel_rfl)) (fun _ _ _ h => h) (Or.inl ⟨by rfl, ?_⟩) ?_ ?_
                rotate_left
                · intro w'
                  go_simp
                  with_reducible rfl
                rotate_left
                · simp only [Act.put, List.setIfInBounds_toArray, List.set_cons_zero, List.set_cons_succ, i64_w, i32_w]
                  rfl
                refine one_ (i := 21) (N := some 87) #[true, true, true, true, true, true, true, true, true, true, true, true, true, true, true, true, true, true, true, true, true, true, false, false] rfl rfl (one_of HT_.out (by kernel_rfl)) (by decide) (fun K hK => ?_)
                refine goes_ Try.func12 (by kernel_rfl) rfl #[] (by rfl) rfl rfl aG ?_
                with_reducible refine (corebanklaw01_live.calls kj35  t553 _ A96.out).mono ?_
                rintro e w108 ⟨rfl, hb⟩
                refine ⟨_, rfl, ?_⟩
                have n0_ := Aside0.mk (bK BK526 hb)
                have n1_ := Aside0.mk (bK BK527 hb)
                have n2_ := Aside0.mk (bK BK531 hb)
                have n3_ := Aside0.mk (bK BK535 hb)
                have n4_ := Aside0.mk (bK BK539 hb)
                have n5_ := Aside0.mk (bK BK547 hb)
                have n6_ := Aside0.mk (bS hb)
                clear BK526
                clear BK527
                clear BK531
                clear BK535
                clear BK539
                clear BK547
                clear HB
                have BK526 := n0_
                have BK527 := n1_
                have BK531 := n2_
                have BK535 := n3_
                have BK539 := n4_
                have BK547 := n5_
                have HB := n6_
                clear n0_ n1_ n2_ n3_ n4_ n5_ n6_
                (try clear hb)
                (try clear hb2)
                (try clear hk)
                (try clear hi)
                refine hK.out _ _ trivial (fun hHeld => ?_)
                clear hK K
                refine norm_ (a' := ?_) ?_ ?_
                rotate_left
                · show Act.put _ (some 87) _ = _
                  simp only [Act.put, List.setIfInBounds_toArray, List.set_cons_zero, List.set_cons_succ, i64_w, i32_w]
                  rfl
                refine pure_ (i := 22) (N := some 88) (v := ?_) (a' := ?_) #[true, true, true, true, true, true, true, true, true, true, true, true, true, true, true, true, true, true, true, true, true, true, true, false] rfl rfl (any_of HT_.out (by kernel_rfl)) (fun _ _ _ h => h) (Or.inl ⟨by rfl, ?_⟩) ?_ ?_
                rotate_left
                · intro w'
                  go_simp
                  with_reducible rfl
                rotate_left
                · simp only [Act.put, List.setIfInBounds_toArray, List.set_cons_zero, List.set_cons_succ, i64_w, i32_w]
                  rfl
                refine pure_ (i := 23) (N := some 6) (v := ?_) (a' := ?_) #[true, true, true, true, true, true, true, true, true, true, true, true, true, true, true, true, true, true, true, true, true, true, true, true] rfl rfl (any_of HT_.out (by kernel_rfl)) (fun _ _ _ h => h) (Or.inl ⟨by rfl, ?_⟩) ?_ ?_
                rotate_left
                · intro w'
                  go_simp
                  with_reducible rfl
                rotate_left
                · simp only [Act.put, List.setIfInBounds_toArray, List.set_cons_zero, List.set_cons_succ, i64_w, i32_w]
                  rfl
                refine done_ (done_of HT_.out (by kernel_rfl)) ?_
                try go_wp2
                go_ret
                exact ⟨by first | rfl | (simp [errW_none, errW_some] <;> rfl) | (simp [*, errW_none, errW_some] <;> rfl), bE⟩

/-- THE ONE PURE STATEMENT of corebanklaw01_WideRestores. -/
def corebanklaw01_WideRestores.Pure : Prop := ∀ (a0_0 : Int) (a0_1 : Int) (a1_0 : Int) (a1_1 : Int) (a2 : Int), (Lit.int .i64 a0_0).wf = true → (Lit.int .u64 a0_1).wf = true → (Lit.int .i64 a1_0).wf = true → (Lit.int .u64 a1_1).wf = true → (Lit.int .i64 a2).wf = true → ∃ k, corebanklaw01_WideRestores.f k a0_0 a0_1 a1_0 a1_1 a2 = some true
theorem corebanklaw01_WideRestores.walk (P : corebanklaw01_WideRestores.Pure) (a0_0 : Int) (a0_1 : Int) (a1_0 : Int) (a1_1 : Int) (a2 : Int) (w : World) (w0_0 : (Lit.int .i64 a0_0).wf = true) (w0_1 : (Lit.int .u64 a0_1).wf = true) (w1_0 : (Lit.int .i64 a1_0).wf = true) (w1_1 : (Lit.int .u64 a1_1).wf = true) (w2 : (Lit.int .i64 a2).wf = true) :
    Calls Try.prog 9 #[.agg #[.int .i64 a0_0, .int .u64 a0_1], .agg #[.int .i64 a1_0, .int .u64 a1_1], .int .i64 a2] w fun e w' => e = .returned (.bool true) ∧ Below w.heap.size w w' := by
  obtain ⟨k, h⟩ := P a0_0 a0_1 a1_0 a1_1 a2 w0_0 w0_1 w1_0 w1_1 w2
  refine (corebanklaw01_WideRestores.calls k a0_0 a0_1 a1_0 a1_1 a2 true w h).mono ?_
  rintro e w' ⟨rfl, hd⟩
  exact ⟨rfl, hd⟩

end Go.Proofs.Ytkhocaehhflpcaa.PA
