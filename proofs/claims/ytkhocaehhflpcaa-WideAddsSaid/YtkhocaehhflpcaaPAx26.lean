/- Contracts of the Go functions and their plain Lean functions, written by a program of this session out of the translation. -/
import Derived.Test.YtkhocaehhflpcaaPAx0
import Derived.Test.YtkhocaehhflpcaaPAx1
import Derived.Test.YtkhocaehhflpcaaPAx11
import Derived.Test.YtkhocaehhflpcaaPAx12
import Derived.Test.YtkhocaehhflpcaaPAx25
namespace Go.Proofs.Ytkhocaehhflpcaa.PA
open Go.RowKit Go.Proofs.YtkhocaehhflpcaaW.PrintWords Go.Proofs.YtkhocaehhflpcaaW.PrintLast Go.Proofs.YtkhocaehhflpcaaW.PrintMore
attribute [local go_sem] max2_int min2_int max_two min_two max_three min_three max_four min_four   -- for this text's walks alone
set_option linter.unusedVariables false
set_option linter.unusedSimpArgs false

attribute [local go_sem high] eqA24
/-! ### corebanklaw01_WideAdds: function 7 -/
def corebanklaw01_WideAdds.f (k : Nat) (a0_0 : Int) (a0_1 : Int) (a1_0 : Int) (a1_1 : Int) : Option (Bool) := (wide_Add.f a0_0 a0_1 a1_0 a1_1).bind fun bt473 => ((corebankref01_Add.f a0_0 a0_1 a1_0 a1_1).bind fun bt477 => ((wide_Sub.f a0_0 a0_1 a1_0 a1_1).bind fun bt481 => ((corebankref01_Sub.f a0_0 a0_1 a1_0 a1_1).bind fun bt485 => (if (bt473.1 == bt477.1 && (bt473.2.1 == bt477.2.1)) = true then (if bt473.2.2 = bt477.2.2 then (if (bt481.1 == bt485.1 && (bt481.2.1 == bt485.2.1)) = true then (if bt481.2.2 = bt485.2.2 then ((wide_Cmp.f a0_0 a0_1 a1_0 a1_1).bind fun t489 => ((corebankref01_Cmp.f a0_0 a0_1 a1_0 a1_1).bind fun t490 => (if t489 = t490 then ((corebanklaw01_live.f k).bind fun t491 => (some t491)) else (none)))) else (none)) else (none)) else (none)) else (none)))))
theorem corebanklaw01_WideAdds.mono : ∀ a0 a1 a2 a3 k, LeO (corebanklaw01_WideAdds.f k a0 a1 a2 a3) (corebanklaw01_WideAdds.f (k + 1) a0 a1 a2 a3) := by
  intro a0 a1 a2 a3 k
  unfold corebanklaw01_WideAdds.f
  repeat' first
      | (with_reducible exact corebanklaw01_live.mono _)
      | (with_reducible exact LeO.refl _)
      | (with_reducible exact LeO.none _)
      | (with_reducible refine LeO.ite ?_ ?_)
      | (with_reducible refine LeO.bind ?_ (fun _ => ?_))
      | exact corebanklaw01_live.mono _
      | exact LeO.none _
      | refine LeO.ite ?_ ?_
      | refine LeO.bind ?_ (fun _ => ?_)
def corebanklaw01_WideAdds.T5 : Bool × List (List Nat × List Nat) := (true, [([], []), ([], []), ([0, 1], [0, 1]), ([2], [2]), ([3], [3]), ([3], [3]), ([4, 5, 3], [3, 4, 5]), ([3, 6], [3, 6]), ([7, 3], [7]), ([8], [8]), ([8], [8]), ([9, 10, 8], [8, 9, 10]), ([8, 11], [8, 11]), ([12, 8], [12]), ([13], [13]), ([13], [13]), ([14, 15, 13], [13, 14, 15]), ([13, 16], [13, 16]), ([17, 13], [17]), ([18], [18]), ([18], [18]), ([19, 20, 18, 18], [18, 19, 20]), ([18], [18]), ([18], [18]), ([22, 23, 21, 18], [18, 22, 23]), ([21, 24, 18], [18, 21, 24]), ([18, 25], [18, 25]), ([26, 24], [26]), ([27, 27], [27]), ([27, 28], [27, 28]), ([29, 28, 0, 1, 2, 3, 4, 5, 6, 7, 8, 9, 10, 11, 12, 13, 14, 15, 16, 17, 18, 19, 20, 21, 22, 23, 24, 25, 26, 27, 28, 29], [29])])
def corebanklaw01_WideAdds.B5 : List Nat := [0, 0, 3, 7, 15, 15, 63, 127, 255, 511, 511, 2047, 4095, 8191, 16383, 16383, 65535, 131071, 262143, 524287, 524287, 2097151, 524287, 524287, 16777215, 33554431, 67108863, 134217727, 268435455, 536870911, 1073741823]
theorem corebanklaw01_WideAdds.tab5 : rtab .any (opsOf Try.f7 5) = corebanklaw01_WideAdds.T5 := by kernel_rfl
theorem corebanklaw01_WideAdds.bits5 : waitsOk corebanklaw01_WideAdds.T5.2 corebanklaw01_WideAdds.B5 = true := by kernel_rfl
set_option maxHeartbeats 8000000 in
set_option maxRecDepth 100000 in
theorem corebanklaw01_WideAdds.calls (k : Nat) (a0_0 : Int) (a0_1 : Int) (a1_0 : Int) (a1_1 : Int) (r : Bool) (w : World) (h : corebanklaw01_WideAdds.f k a0_0 a0_1 a1_0 a1_1 = some r) :
    Calls Try.prog 7 #[.agg #[.int .i64 a0_0, .int .u64 a0_1], .agg #[.int .i64 a1_0, .int .u64 a1_1]] w fun e w' => e = .returned (.bool r) ∧ Below w.heap.size w w' := by
  have hu24 := Try.underlying24
  have HB := Aside0.mk (Below.refl w.heap.size w)
  have H : ((wide_Add.f a0_0 a0_1 a1_0 a1_1).bind fun bt473 => ((corebankref01_Add.f a0_0 a0_1 a1_0 a1_1).bind fun bt477 => ((wide_Sub.f a0_0 a0_1 a1_0 a1_1).bind fun bt481 => ((corebankref01_Sub.f a0_0 a0_1 a1_0 a1_1).bind fun bt485 => (if (bt473.1 == bt477.1 && (bt473.2.1 == bt477.2.1)) = true then (if bt473.2.2 = bt477.2.2 then (if (bt481.1 == bt485.1 && (bt481.2.1 == bt485.2.1)) = true then (if bt481.2.2 = bt485.2.2 then ((wide_Cmp.f a0_0 a0_1 a1_0 a1_1).bind fun t489 => ((corebankref01_Cmp.f a0_0 a0_1 a1_0 a1_1).bind fun t490 => (if t489 = t490 then ((corebanklaw01_live.f k).bind fun t491 => (some t491)) else (none)))) else (none)) else (none)) else (none)) else (none)))))) = some r := h
  clear h
  replace H := Option.bind_eq_some_iff.mp H
  obtain ⟨⟨t473, t474, t475⟩, A30, H⟩ := H
  replace H : ((corebankref01_Add.f a0_0 a0_1 a1_0 a1_1).bind fun bt477 => ((wide_Sub.f a0_0 a0_1 a1_0 a1_1).bind fun bt481 => ((corebankref01_Sub.f a0_0 a0_1 a1_0 a1_1).bind fun bt485 => (if (t473 == bt477.1 && (t474 == bt477.2.1)) = true then (if t475 = bt477.2.2 then (if (bt481.1 == bt485.1 && (bt481.2.1 == bt485.2.1)) = true then (if bt481.2.2 = bt485.2.2 then ((wide_Cmp.f a0_0 a0_1 a1_0 a1_1).bind fun t489 => ((corebankref01_Cmp.f a0_0 a0_1 a1_0 a1_1).bind fun t490 => (if t489 = t490 then ((corebanklaw01_live.f k).bind fun t491 => (some t491)) else (none)))) else (none)) else (none)) else (none)) else (none))))) = some r := H
  have A3 := Aside0.mk A30
  clear A30
  replace H := Option.bind_eq_some_iff.mp H
  obtain ⟨⟨t477, t478, t479⟩, A40, H⟩ := H
  replace H : ((wide_Sub.f a0_0 a0_1 a1_0 a1_1).bind fun bt481 => ((corebankref01_Sub.f a0_0 a0_1 a1_0 a1_1).bind fun bt485 => (if (t473 == t477 && (t474 == t478)) = true then (if t475 = t479 then (if (bt481.1 == bt485.1 && (bt481.2.1 == bt485.2.1)) = true then (if bt481.2.2 = bt485.2.2 then ((wide_Cmp.f a0_0 a0_1 a1_0 a1_1).bind fun t489 => ((corebankref01_Cmp.f a0_0 a0_1 a1_0 a1_1).bind fun t490 => (if t489 = t490 then ((corebanklaw01_live.f k).bind fun t491 => (some t491)) else (none)))) else (none)) else (none)) else (none)) else (none)))) = some r := H
  have A4 := Aside0.mk A40
  clear A40
  replace H := Option.bind_eq_some_iff.mp H
  obtain ⟨⟨t481, t482, t483⟩, A50, H⟩ := H
  replace H : ((corebankref01_Sub.f a0_0 a0_1 a1_0 a1_1).bind fun bt485 => (if (t473 == t477 && (t474 == t478)) = true then (if t475 = t479 then (if (t481 == bt485.1 && (t482 == bt485.2.1)) = true then (if t483 = bt485.2.2 then ((wide_Cmp.f a0_0 a0_1 a1_0 a1_1).bind fun t489 => ((corebankref01_Cmp.f a0_0 a0_1 a1_0 a1_1).bind fun t490 => (if t489 = t490 then ((corebanklaw01_live.f k).bind fun t491 => (some t491)) else (none)))) else (none)) else (none)) else (none)) else (none))) = some r := H
  have A5 := Aside0.mk A50
  clear A50
  replace H := Option.bind_eq_some_iff.mp H
  obtain ⟨⟨t485, t486, t487⟩, A60, H⟩ := H
  replace H : (if (t473 == t477 && (t474 == t478)) = true then (if t475 = t479 then (if (t481 == t485 && (t482 == t486)) = true then (if t483 = t487 then ((wide_Cmp.f a0_0 a0_1 a1_0 a1_1).bind fun t489 => ((corebankref01_Cmp.f a0_0 a0_1 a1_0 a1_1).bind fun t490 => (if t489 = t490 then ((corebanklaw01_live.f k).bind fun t491 => (some t491)) else (none)))) else (none)) else (none)) else (none)) else (none)) = some r := H
  have A6 := Aside0.mk A60
  clear A60
  by_cases c7 : (t473 == t477 && (t474 == t478)) = true
  · rw [if_pos c7] at H
    have c7b0 : (t473 == t477 && (t474 == t478)) = true := c7
    (try (have c7b1 : decide (t473 = t477 && (t474 == t478)) = true := by simpa using c7))
    (try (have c7b2 : (t473 == t477 && (t474 == t478)) = true := by simpa using c7))
    clear c7
    by_cases c8 : t475 = t479
    · rw [if_pos c8] at H
      have c8b0 : (t475 == t479) = true := beq_iff_eq.mpr c8
      have c8b1 : (t475 != t479) = false := bne_eq_false_iff_eq.mpr c8
      clear c8
      by_cases c9 : (t481 == t485 && (t482 == t486)) = true
      · rw [if_pos c9] at H
        have c9b0 : (t481 == t485 && (t482 == t486)) = true := c9
        (try (have c9b1 : decide (t481 = t485 && (t482 == t486)) = true := by simpa using c9))
        (try (have c9b2 : (t481 == t485 && (t482 == t486)) = true := by simpa using c9))
        clear c9
        by_cases c10 : t483 = t487
        · rw [if_pos c10] at H
          have c10b0 : (t483 == t487) = true := beq_iff_eq.mpr c10
          have c10b1 : (t483 != t487) = false := bne_eq_false_iff_eq.mpr c10
          clear c10
          replace H := Option.bind_eq_some_iff.mp H
          obtain ⟨t489, A110, H⟩ := H
          replace H : ((corebankref01_Cmp.f a0_0 a0_1 a1_0 a1_1).bind fun t490 => (if t489 = t490 then ((corebanklaw01_live.f k).bind fun t491 => (some t491)) else (none))) = some r := H
          have A11 := Aside0.mk A110
          clear A110
          replace H := Option.bind_eq_some_iff.mp H
          obtain ⟨t490, A120, H⟩ := H
          replace H : (if t489 = t490 then ((corebanklaw01_live.f k).bind fun t491 => (some t491)) else (none)) = some r := H
          have A12 := Aside0.mk A120
          clear A120
          by_cases c13 : t489 = t490
          · rw [if_pos c13] at H
            have c13b0 : (t489 == t490) = true := beq_iff_eq.mpr c13
            have c13b1 : (t489 != t490) = false := bne_eq_false_iff_eq.mpr c13
            clear c13
            replace H := Option.bind_eq_some_iff.mp H
            obtain ⟨t491, A140, H⟩ := H
            replace H : (some t491) = some r := H
            have A14 := Aside0.mk A140
            clear A140
            obtain rfl := Option.some.inj H
            go_enter Try.func7, Try.ntmps7
            try go_wp2_with (first | ((with_reducible refine gate_dst (N := 2) rfl ?_); refine box_event ?hg (N := 2) ?hd (cs := #[.int .i64 a0_0, .int .u64 a0_1]) (t := 24) ?hr ?_; (case hd => rfl); (case hg => rfl); (case hr => first | (go_simp; done) | (go_simp; rfl)); intro gb471 hg w15 hbox hb; have nn_ := bT hb hg; have BK471 := Aside0.mk (hbox); have GW471 := Aside0.mk nn_.2; have GE471 := GW471; replace HB := Aside0.mk nn_.1; clear nn_; clear hb hbox hg) | ((with_reducible refine gate_dst (N := 3) rfl ?_); refine box_event ?hg (N := 3) ?hd (cs := #[.int .i64 a1_0, .int .u64 a1_1]) (t := 24) ?hr ?_; (case hd => rfl); (case hg => rfl); (case hr => first | (go_simp; done) | (go_simp; rfl)); intro gb472 hg w16 hbox hb; have nn_ := bT hb hg; have bgb471_ := bN BK471 hb hg; have BK472 := Aside0.mk (hbox); have GW472 := Aside0.mk nn_.2; have GE472 := GW472; have NB471_472 := Aside0.mk bgb471_.2.1; have NB472_471 := Aside0.mk bgb471_.2.2; replace BK471 := Aside0.mk bgb471_.1; replace HB := Aside0.mk nn_.1; clear nn_ bgb471_; clear hb hbox hg; have hnb17 := NB471_472.out; have hnc17 := NB472_471.out; have hcz18_0 : w16.cell? ⟨gb471, 0, none⟩ = some (.int .i64 a0_0) := (blk_cell BK471.out 0).trans rfl; have hcz18_1 : w16.cell? ⟨gb471, 1, none⟩ = some (.int .u64 a0_1) := (blk_cell BK471.out 1).trans rfl; have hfz18_0 := blk_frozen BK471.out 0; have hfz18_1 := blk_frozen BK471.out 1; have hcz19_0 : w16.cell? ⟨gb472, 0, none⟩ = some (.int .i64 a1_0) := (blk_cell BK472.out 0).trans rfl; have hcz19_1 : w16.cell? ⟨gb472, 1, none⟩ = some (.int .u64 a1_1) := (blk_cell BK472.out 1).trans rfl; have hfz19_0 := blk_frozen BK472.out 0; have hfz19_1 := blk_frozen BK472.out 1) | ((with_reducible refine gate_callee (f := 25) rfl ?_); refine goesL_ (some 16) rfl rfl Try.func25 (by kernel_rfl) rfl #[.agg #[.int .i64 a0_0, .int .u64 a0_1], .agg #[.int .i64 a1_0, .int .u64 a1_1]] rfl aG ?_; (with_reducible refine (wide_Add.calls a0_0 a0_1 a1_0 a1_1 t473 t474 t475 _ A3.out).mono ?_); rintro e w20 ⟨rfl, hb⟩; refine ⟨_, rfl, ?_⟩; replace BK471 := Aside0.mk (bK BK471 hb); replace BK472 := Aside0.mk (bK BK472 hb); replace HB := Aside0.mk (bS hb); (try clear hb); (try clear hb2); (try clear hk); (try clear hi)) | ((with_reducible refine gate_dst (N := 5) rfl ?_); refine box_event ?hg (N := 5) ?hd (cs := #[.int .i64 0, .int .u64 0]) (t := 24) ?hr ?_; (case hd => rfl); (case hg => rfl); (case hr => first | (go_simp; done) | (go_simp; rfl)); intro gb476 hg w21 hbox hb; have nn_ := bT hb hg; have bgb471_ := bN BK471 hb hg; have bgb472_ := bN BK472 hb hg; have BK476 := Aside0.mk (hbox); have GW476 := Aside0.mk nn_.2; have GE476 := GW476; have NB471_476 := Aside0.mk bgb471_.2.1; have NB476_471 := Aside0.mk bgb471_.2.2; have NB472_476 := Aside0.mk bgb472_.2.1; have NB476_472 := Aside0.mk bgb472_.2.2; replace BK471 := Aside0.mk bgb471_.1; replace BK472 := Aside0.mk bgb472_.1; replace HB := Aside0.mk nn_.1; clear nn_ bgb471_ bgb472_; clear hb hbox hg; have hnb22 := NB476_471.out; have hnc22 := NB471_476.out; have hnb23 := NB476_472.out; have hnc23 := NB472_476.out; have hcz24_0 : w21.cell? ⟨gb476, 0, none⟩ = some (.int .i64 0) := (blk_cell BK476.out 0).trans rfl; have hcz24_1 : w21.cell? ⟨gb476, 1, none⟩ = some (.int .u64 0) := (blk_cell BK476.out 1).trans rfl; have hfz24_0 := blk_frozen BK476.out 0; have hfz24_1 := blk_frozen BK476.out 1; have hcz25_0 : w21.cell? ⟨gb471, 0, none⟩ = some (.int .i64 a0_0) := (blk_cell BK471.out 0).trans rfl; have hcz25_1 : w21.cell? ⟨gb471, 1, none⟩ = some (.int .u64 a0_1) := (blk_cell BK471.out 1).trans rfl; have hfz25_0 := blk_frozen BK471.out 0; have hfz25_1 := blk_frozen BK471.out 1; have hcz26_0 : w21.cell? ⟨gb472, 0, none⟩ = some (.int .i64 a1_0) := (blk_cell BK472.out 0).trans rfl; have hcz26_1 : w21.cell? ⟨gb472, 1, none⟩ = some (.int .u64 a1_1) := (blk_cell BK472.out 1).trans rfl; have hfz26_0 := blk_frozen BK472.out 0; have hfz26_1 := blk_frozen BK472.out 1) | ((with_reducible refine gate_callee (f := 26) rfl ?_); refine goesL_ (some 22) rfl rfl Try.func26 (by kernel_rfl) rfl #[.agg #[.int .i64 a0_0, .int .u64 a0_1], .agg #[.int .i64 a1_0, .int .u64 a1_1]] rfl aG ?_; (with_reducible refine (corebankref01_Add.calls a0_0 a0_1 a1_0 a1_1 t477 t478 t479 _ A4.out).mono ?_); rintro e w27 ⟨rfl, hb⟩; refine ⟨_, rfl, ?_⟩; replace BK471 := Aside0.mk (blk_below (g := gb471) (o := .cells #[.int .i64 a0_0, .int .u64 a0_1] 24 (0, 0)) (by (with_reducible repeat (first | refine blk_drewN ?_ _ | refine blk_drew ?_ | refine blk_alloc ?_ _)); refine blk_far ?_ NB471_476.out _; (with_reducible repeat (first | refine blk_drewN ?_ _ | refine blk_drew ?_ | refine blk_alloc ?_ _)); refine blk_far ?_ NB471_476.out _; (with_reducible repeat (first | refine blk_drewN ?_ _ | refine blk_drew ?_ | refine blk_alloc ?_ _)); exact BK471.out) hb); replace BK472 := Aside0.mk (blk_below (g := gb472) (o := .cells #[.int .i64 a1_0, .int .u64 a1_1] 24 (0, 0)) (by (with_reducible repeat (first | refine blk_drewN ?_ _ | refine blk_drew ?_ | refine blk_alloc ?_ _)); refine blk_far ?_ NB472_476.out _; (with_reducible repeat (first | refine blk_drewN ?_ _ | refine blk_drew ?_ | refine blk_alloc ?_ _)); refine blk_far ?_ NB472_476.out _; (with_reducible repeat (first | refine blk_drewN ?_ _ | refine blk_drew ?_ | refine blk_alloc ?_ _)); exact BK472.out) hb); replace BK476 := Aside0.mk (blk_below (g := gb476) (o := .cells #[.int .i64 t473, .int .u64 t474] 24 (0, 0)) (by (with_reducible repeat (first | refine blk_drewN ?_ _ | refine blk_drew ?_ | refine blk_alloc ?_ _)); refine blk_put (cs := #[.int .i64 t473, .int .u64 0]) ?_ 1 _ rfl; (with_reducible repeat (first | refine blk_drewN ?_ _ | refine blk_drew ?_ | refine blk_alloc ?_ _)); refine blk_put (cs := #[.int .i64 0, .int .u64 0]) ?_ 0 _ rfl; (with_reducible repeat (first | refine blk_drewN ?_ _ | refine blk_drew ?_ | refine blk_alloc ?_ _)); exact BK476.out) hb); replace HB := Aside0.mk (bS hb); (try clear hb); (try clear hb2); (try clear hk); (try clear hi)) | ((with_reducible refine gate_dst (N := 7) rfl ?_); refine box_event ?hg (N := 7) ?hd (cs := #[.int .i64 0, .int .u64 0]) (t := 24) ?hr ?_; (case hd => rfl); (case hg => rfl); (case hr => first | (go_simp; done) | (go_simp; rfl)); intro gb480 hg w28 hbox hb; have nn_ := bT hb hg; have bgb471_ := bN BK471 hb hg; have bgb472_ := bN BK472 hb hg; have bgb476_ := bN BK476 hb hg; have BK480 := Aside0.mk (hbox); have GW480 := Aside0.mk nn_.2; have GE480 := GW480; have NB471_480 := Aside0.mk bgb471_.2.1; have NB480_471 := Aside0.mk bgb471_.2.2; have NB472_480 := Aside0.mk bgb472_.2.1; have NB480_472 := Aside0.mk bgb472_.2.2; have NB476_480 := Aside0.mk bgb476_.2.1; have NB480_476 := Aside0.mk bgb476_.2.2; replace BK471 := Aside0.mk bgb471_.1; replace BK472 := Aside0.mk bgb472_.1; replace BK476 := Aside0.mk bgb476_.1; replace HB := Aside0.mk nn_.1; clear nn_ bgb471_ bgb472_ bgb476_; clear hb hbox hg; have hnb29 := NB480_471.out; have hnc29 := NB471_480.out; have hnb30 := NB480_472.out; have hnc30 := NB472_480.out; have hnb31 := NB480_476.out; have hnc31 := NB476_480.out; have hcz32_0 : w28.cell? ⟨gb480, 0, none⟩ = some (.int .i64 0) := (blk_cell BK480.out 0).trans rfl; have hcz32_1 : w28.cell? ⟨gb480, 1, none⟩ = some (.int .u64 0) := (blk_cell BK480.out 1).trans rfl; have hfz32_0 := blk_frozen BK480.out 0; have hfz32_1 := blk_frozen BK480.out 1; have hcz33_0 : w28.cell? ⟨gb471, 0, none⟩ = some (.int .i64 a0_0) := (blk_cell BK471.out 0).trans rfl; have hcz33_1 : w28.cell? ⟨gb471, 1, none⟩ = some (.int .u64 a0_1) := (blk_cell BK471.out 1).trans rfl; have hfz33_0 := blk_frozen BK471.out 0; have hfz33_1 := blk_frozen BK471.out 1; have hcz34_0 : w28.cell? ⟨gb472, 0, none⟩ = some (.int .i64 a1_0) := (blk_cell BK472.out 0).trans rfl; have hcz34_1 : w28.cell? ⟨gb472, 1, none⟩ = some (.int .u64 a1_1) := (blk_cell BK472.out 1).trans rfl; have hfz34_0 := blk_frozen BK472.out 0; have hfz34_1 := blk_frozen BK472.out 1) | ((with_reducible refine gate_callee (f := 27) rfl ?_); refine goesL_ (some 28) rfl rfl Try.func27 (by kernel_rfl) rfl #[.agg #[.int .i64 a0_0, .int .u64 a0_1], .agg #[.int .i64 a1_0, .int .u64 a1_1]] rfl aG ?_; (with_reducible refine (wide_Sub.calls a0_0 a0_1 a1_0 a1_1 t481 t482 t483 _ A5.out).mono ?_); rintro e w35 ⟨rfl, hb⟩; refine ⟨_, rfl, ?_⟩; replace BK471 := Aside0.mk (blk_below (g := gb471) (o := .cells #[.int .i64 a0_0, .int .u64 a0_1] 24 (0, 0)) (by (with_reducible repeat (first | refine blk_drewN ?_ _ | refine blk_drew ?_ | refine blk_alloc ?_ _)); refine blk_far ?_ NB471_480.out _; (with_reducible repeat (first | refine blk_drewN ?_ _ | refine blk_drew ?_ | refine blk_alloc ?_ _)); refine blk_far ?_ NB471_480.out _; (with_reducible repeat (first | refine blk_drewN ?_ _ | refine blk_drew ?_ | refine blk_alloc ?_ _)); exact BK471.out) hb); replace BK472 := Aside0.mk (blk_below (g := gb472) (o := .cells #[.int .i64 a1_0, .int .u64 a1_1] 24 (0, 0)) (by (with_reducible repeat (first | refine blk_drewN ?_ _ | refine blk_drew ?_ | refine blk_alloc ?_ _)); refine blk_far ?_ NB472_480.out _; (with_reducible repeat (first | refine blk_drewN ?_ _ | refine blk_drew ?_ | refine blk_alloc ?_ _)); refine blk_far ?_ NB472_480.out _; (with_reducible repeat (first | refine blk_drewN ?_ _ | refine blk_drew ?_ | refine blk_alloc ?_ _)); exact BK472.out) hb); replace BK476 := Aside0.mk (blk_below (g := gb476) (o := .cells #[.int .i64 t473, .int .u64 t474] 24 (0, 0)) (by (with_reducible repeat (first | refine blk_drewN ?_ _ | refine blk_drew ?_ | refine blk_alloc ?_ _)); refine blk_far ?_ NB476_480.out _; (with_reducible repeat (first | refine blk_drewN ?_ _ | refine blk_drew ?_ | refine blk_alloc ?_ _)); refine blk_far ?_ NB476_480.out _; (with_reducible repeat (first | refine blk_drewN ?_ _ | refine blk_drew ?_ | refine blk_alloc ?_ _)); exact BK476.out) hb); replace BK480 := Aside0.mk (blk_below (g := gb480) (o := .cells #[.int .i64 t477, .int .u64 t478] 24 (0, 0)) (by (with_reducible repeat (first | refine blk_drewN ?_ _ | refine blk_drew ?_ | refine blk_alloc ?_ _)); refine blk_put (cs := #[.int .i64 t477, .int .u64 0]) ?_ 1 _ rfl; (with_reducible repeat (first | refine blk_drewN ?_ _ | refine blk_drew ?_ | refine blk_alloc ?_ _)); refine blk_put (cs := #[.int .i64 0, .int .u64 0]) ?_ 0 _ rfl; (with_reducible repeat (first | refine blk_drewN ?_ _ | refine blk_drew ?_ | refine blk_alloc ?_ _)); exact BK480.out) hb); replace HB := Aside0.mk (bS hb); (try clear hb); (try clear hb2); (try clear hk); (try clear hi)) | ((with_reducible refine gate_dst (N := 9) rfl ?_); refine box_event ?hg (N := 9) ?hd (cs := #[.int .i64 0, .int .u64 0]) (t := 24) ?hr ?_; (case hd => rfl); (case hg => rfl); (case hr => first | (go_simp; done) | (go_simp; rfl)); intro gb484 hg w36 hbox hb; have nn_ := bT hb hg; have bgb471_ := bN BK471 hb hg; have bgb472_ := bN BK472 hb hg; have bgb476_ := bN BK476 hb hg; have bgb480_ := bN BK480 hb hg; have BK484 := Aside0.mk (hbox); have GW484 := Aside0.mk nn_.2; have GE484 := GW484; have NB471_484 := Aside0.mk bgb471_.2.1; have NB484_471 := Aside0.mk bgb471_.2.2; have NB472_484 := Aside0.mk bgb472_.2.1; have NB484_472 := Aside0.mk bgb472_.2.2; have NB476_484 := Aside0.mk bgb476_.2.1; have NB484_476 := Aside0.mk bgb476_.2.2; have NB480_484 := Aside0.mk bgb480_.2.1; have NB484_480 := Aside0.mk bgb480_.2.2; replace BK471 := Aside0.mk bgb471_.1; replace BK472 := Aside0.mk bgb472_.1; replace BK476 := Aside0.mk bgb476_.1; replace BK480 := Aside0.mk bgb480_.1; replace HB := Aside0.mk nn_.1; clear nn_ bgb471_ bgb472_ bgb476_ bgb480_; clear hb hbox hg; have hnb37 := NB484_471.out; have hnc37 := NB471_484.out; have hnb38 := NB484_472.out; have hnc38 := NB472_484.out; have hnb39 := NB484_476.out; have hnc39 := NB476_484.out; have hnb40 := NB484_480.out; have hnc40 := NB480_484.out; have hcz41_0 : w36.cell? ⟨gb484, 0, none⟩ = some (.int .i64 0) := (blk_cell BK484.out 0).trans rfl; have hcz41_1 : w36.cell? ⟨gb484, 1, none⟩ = some (.int .u64 0) := (blk_cell BK484.out 1).trans rfl; have hfz41_0 := blk_frozen BK484.out 0; have hfz41_1 := blk_frozen BK484.out 1; have hcz42_0 : w36.cell? ⟨gb471, 0, none⟩ = some (.int .i64 a0_0) := (blk_cell BK471.out 0).trans rfl; have hcz42_1 : w36.cell? ⟨gb471, 1, none⟩ = some (.int .u64 a0_1) := (blk_cell BK471.out 1).trans rfl; have hfz42_0 := blk_frozen BK471.out 0; have hfz42_1 := blk_frozen BK471.out 1; have hcz43_0 : w36.cell? ⟨gb472, 0, none⟩ = some (.int .i64 a1_0) := (blk_cell BK472.out 0).trans rfl; have hcz43_1 : w36.cell? ⟨gb472, 1, none⟩ = some (.int .u64 a1_1) := (blk_cell BK472.out 1).trans rfl; have hfz43_0 := blk_frozen BK472.out 0; have hfz43_1 := blk_frozen BK472.out 1) | ((with_reducible refine gate_callee (f := 28) rfl ?_); refine goesL_ (some 34) rfl rfl Try.func28 (by kernel_rfl) rfl #[.agg #[.int .i64 a0_0, .int .u64 a0_1], .agg #[.int .i64 a1_0, .int .u64 a1_1]] rfl aG ?_; (with_reducible refine (corebankref01_Sub.calls a0_0 a0_1 a1_0 a1_1 t485 t486 t487 _ A6.out).mono ?_); rintro e w44 ⟨rfl, hb⟩; refine ⟨_, rfl, ?_⟩; replace BK471 := Aside0.mk (blk_below (g := gb471) (o := .cells #[.int .i64 a0_0, .int .u64 a0_1] 24 (0, 0)) (by (with_reducible repeat (first | refine blk_drewN ?_ _ | refine blk_drew ?_ | refine blk_alloc ?_ _)); refine blk_far ?_ NB471_484.out _; (with_reducible repeat (first | refine blk_drewN ?_ _ | refine blk_drew ?_ | refine blk_alloc ?_ _)); refine blk_far ?_ NB471_484.out _; (with_reducible repeat (first | refine blk_drewN ?_ _ | refine blk_drew ?_ | refine blk_alloc ?_ _)); exact BK471.out) hb); replace BK472 := Aside0.mk (blk_below (g := gb472) (o := .cells #[.int .i64 a1_0, .int .u64 a1_1] 24 (0, 0)) (by (with_reducible repeat (first | refine blk_drewN ?_ _ | refine blk_drew ?_ | refine blk_alloc ?_ _)); refine blk_far ?_ NB472_484.out _; (with_reducible repeat (first | refine blk_drewN ?_ _ | refine blk_drew ?_ | refine blk_alloc ?_ _)); refine blk_far ?_ NB472_484.out _; (with_reducible repeat (first | refine blk_drewN ?_ _ | refine blk_drew ?_ | refine blk_alloc ?_ _)); exact BK472.out) hb); replace BK476 := Aside0.mk (blk_below (g := gb476) (o := .cells #[.int .i64 t473, .int .u64 t474] 24 (0, 0)) (by (with_reducible repeat (first | refine blk_drewN ?_ _ | refine blk_drew ?_ | refine blk_alloc ?_ _)); refine blk_far ?_ NB476_484.out _; (with_reducible repeat (first | refine blk_drewN ?_ _ | refine blk_drew ?_ | refine blk_alloc ?_ _)); refine blk_far ?_ NB476_484.out _; (with_reducible repeat (first | refine blk_drewN ?_ _ | refine blk_drew ?_ | refine blk_alloc ?_ _)); exact BK476.out) hb); replace BK480 := Aside0.mk (blk_below (g := gb480) (o := .cells #[.int .i64 t477, .int .u64 t478] 24 (0, 0)) (by (with_reducible repeat (first | refine blk_drewN ?_ _ | refine blk_drew ?_ | refine blk_alloc ?_ _)); refine blk_far ?_ NB480_484.out _; (with_reducible repeat (first | refine blk_drewN ?_ _ | refine blk_drew ?_ | refine blk_alloc ?_ _)); refine blk_far ?_ NB480_484.out _; (with_reducible repeat (first | refine blk_drewN ?_ _ | refine blk_drew ?_ | refine blk_alloc ?_ _)); exact BK480.out) hb); replace BK484 := Aside0.mk (blk_below (g := gb484) (o := .cells #[.int .i64 t481, .int .u64 t482] 24 (0, 0)) (by (with_reducible repeat (first | refine blk_drewN ?_ _ | refine blk_drew ?_ | refine blk_alloc ?_ _)); refine blk_put (cs := #[.int .i64 t481, .int .u64 0]) ?_ 1 _ rfl; (with_reducible repeat (first | refine blk_drewN ?_ _ | refine blk_drew ?_ | refine blk_alloc ?_ _)); refine blk_put (cs := #[.int .i64 0, .int .u64 0]) ?_ 0 _ rfl; (with_reducible repeat (first | refine blk_drewN ?_ _ | refine blk_drew ?_ | refine blk_alloc ?_ _)); exact BK484.out) hb); replace HB := Aside0.mk (bS hb); (try clear hb); (try clear hb2); (try clear hk); (try clear hi)) | ((with_reducible refine gate_dst (N := 11) rfl ?_); refine box_event ?hg (N := 11) ?hd (cs := #[.int .i64 0, .int .u64 0]) (t := 24) ?hr ?_; (case hd => rfl); (case hg => rfl); (case hr => first | (go_simp; done) | (go_simp; rfl)); intro gb488 hg w45 hbox hb; have nn_ := bT hb hg; have bgb471_ := bN BK471 hb hg; have bgb472_ := bN BK472 hb hg; have bgb476_ := bN BK476 hb hg; have bgb480_ := bN BK480 hb hg; have bgb484_ := bN BK484 hb hg; have BK488 := Aside0.mk (hbox); have GW488 := Aside0.mk nn_.2; have GE488 := GW488; have NB471_488 := Aside0.mk bgb471_.2.1; have NB488_471 := Aside0.mk bgb471_.2.2; have NB472_488 := Aside0.mk bgb472_.2.1; have NB488_472 := Aside0.mk bgb472_.2.2; have NB476_488 := Aside0.mk bgb476_.2.1; have NB488_476 := Aside0.mk bgb476_.2.2; have NB480_488 := Aside0.mk bgb480_.2.1; have NB488_480 := Aside0.mk bgb480_.2.2; have NB484_488 := Aside0.mk bgb484_.2.1; have NB488_484 := Aside0.mk bgb484_.2.2; replace BK471 := Aside0.mk bgb471_.1; replace BK472 := Aside0.mk bgb472_.1; replace BK476 := Aside0.mk bgb476_.1; replace BK480 := Aside0.mk bgb480_.1; replace BK484 := Aside0.mk bgb484_.1; replace HB := Aside0.mk nn_.1; clear nn_ bgb471_ bgb472_ bgb476_ bgb480_ bgb484_; clear hb hbox hg; have hnb46 := NB488_471.out; have hnc46 := NB471_488.out; have hnb47 := NB488_472.out; have hnc47 := NB472_488.out; have hnb48 := NB488_476.out; have hnc48 := NB476_488.out; have hnb49 := NB488_480.out; have hnc49 := NB480_488.out; have hnb50 := NB488_484.out; have hnc50 := NB484_488.out; have hcz51_0 : w45.cell? ⟨gb488, 0, none⟩ = some (.int .i64 0) := (blk_cell BK488.out 0).trans rfl; have hcz51_1 : w45.cell? ⟨gb488, 1, none⟩ = some (.int .u64 0) := (blk_cell BK488.out 1).trans rfl; have hfz51_0 := blk_frozen BK488.out 0; have hfz51_1 := blk_frozen BK488.out 1))
            have n0_ : Aside0 (((w45.setCell ⟨gb488, 0, none⟩ (.int .i64 t485)).setCell ⟨gb488, 1, none⟩ (.int .u64 t486)).heap[gb471]? = some (.cells #[.int .i64 a0_0, .int .u64 a0_1] 24 (0, 0))) := ⟨by (with_reducible repeat (first | refine blk_drewN ?_ _ | refine blk_drew ?_ | refine blk_alloc ?_ _)); refine blk_far ?_ NB471_488.out _; (with_reducible repeat (first | refine blk_drewN ?_ _ | refine blk_drew ?_ | refine blk_alloc ?_ _)); refine blk_far ?_ NB471_488.out _; (with_reducible repeat (first | refine blk_drewN ?_ _ | refine blk_drew ?_ | refine blk_alloc ?_ _)); exact BK471.out⟩
            have n1_ : Aside0 (((w45.setCell ⟨gb488, 0, none⟩ (.int .i64 t485)).setCell ⟨gb488, 1, none⟩ (.int .u64 t486)).heap[gb472]? = some (.cells #[.int .i64 a1_0, .int .u64 a1_1] 24 (0, 0))) := ⟨by (with_reducible repeat (first | refine blk_drewN ?_ _ | refine blk_drew ?_ | refine blk_alloc ?_ _)); refine blk_far ?_ NB472_488.out _; (with_reducible repeat (first | refine blk_drewN ?_ _ | refine blk_drew ?_ | refine blk_alloc ?_ _)); refine blk_far ?_ NB472_488.out _; (with_reducible repeat (first | refine blk_drewN ?_ _ | refine blk_drew ?_ | refine blk_alloc ?_ _)); exact BK472.out⟩
            have n2_ : Aside0 (((w45.setCell ⟨gb488, 0, none⟩ (.int .i64 t485)).setCell ⟨gb488, 1, none⟩ (.int .u64 t486)).heap[gb476]? = some (.cells #[.int .i64 t473, .int .u64 t474] 24 (0, 0))) := ⟨by (with_reducible repeat (first | refine blk_drewN ?_ _ | refine blk_drew ?_ | refine blk_alloc ?_ _)); refine blk_far ?_ NB476_488.out _; (with_reducible repeat (first | refine blk_drewN ?_ _ | refine blk_drew ?_ | refine blk_alloc ?_ _)); refine blk_far ?_ NB476_488.out _; (with_reducible repeat (first | refine blk_drewN ?_ _ | refine blk_drew ?_ | refine blk_alloc ?_ _)); exact BK476.out⟩
            have n3_ : Aside0 (((w45.setCell ⟨gb488, 0, none⟩ (.int .i64 t485)).setCell ⟨gb488, 1, none⟩ (.int .u64 t486)).heap[gb480]? = some (.cells #[.int .i64 t477, .int .u64 t478] 24 (0, 0))) := ⟨by (with_reducible repeat (first | refine blk_drewN ?_ _ | refine blk_drew ?_ | refine blk_alloc ?_ _)); refine blk_far ?_ NB480_488.out _; (with_reducible repeat (first | refine blk_drewN ?_ _ | refine blk_drew ?_ | refine blk_alloc ?_ _)); refine blk_far ?_ NB480_488.out _; (with_reducible repeat (first | refine blk_drewN ?_ _ | refine blk_drew ?_ | refine blk_alloc ?_ _)); exact BK480.out⟩
            have n4_ : Aside0 (((w45.setCell ⟨gb488, 0, none⟩ (.int .i64 t485)).setCell ⟨gb488, 1, none⟩ (.int .u64 t486)).heap[gb484]? = some (.cells #[.int .i64 t481, .int .u64 t482] 24 (0, 0))) := ⟨by (with_reducible repeat (first | refine blk_drewN ?_ _ | refine blk_drew ?_ | refine blk_alloc ?_ _)); refine blk_far ?_ NB484_488.out _; (with_reducible repeat (first | refine blk_drewN ?_ _ | refine blk_drew ?_ | refine blk_alloc ?_ _)); refine blk_far ?_ NB484_488.out _; (with_reducible repeat (first | refine blk_drewN ?_ _ | refine blk_drew ?_ | refine blk_alloc ?_ _)); exact BK484.out⟩
            have n5_ : Aside0 (((w45.setCell ⟨gb488, 0, none⟩ (.int .i64 t485)).setCell ⟨gb488, 1, none⟩ (.int .u64 t486)).heap[gb488]? = some (.cells #[.int .i64 t485, .int .u64 t486] 24 (0, 0))) := ⟨by (with_reducible repeat (first | refine blk_drewN ?_ _ | refine blk_drew ?_ | refine blk_alloc ?_ _)); refine blk_put (cs := #[.int .i64 t485, .int .u64 0]) ?_ 1 _ rfl; (with_reducible repeat (first | refine blk_drewN ?_ _ | refine blk_drew ?_ | refine blk_alloc ?_ _)); refine blk_put (cs := #[.int .i64 0, .int .u64 0]) ?_ 0 _ rfl; (with_reducible repeat (first | refine blk_drewN ?_ _ | refine blk_drew ?_ | refine blk_alloc ?_ _)); exact BK488.out⟩
            have n6_ : Aside0 (Below w.heap.size w ((w45.setCell ⟨gb488, 0, none⟩ (.int .i64 t485)).setCell ⟨gb488, 1, none⟩ (.int .u64 t486))) := ⟨bE⟩
            (try clear BK471)
            (try clear BK472)
            (try clear BK476)
            (try clear BK480)
            (try clear BK484)
            (try clear BK488)
            (try clear HB)
            generalize ((w45.setCell ⟨gb488, 0, none⟩ (.int .i64 t485)).setCell ⟨gb488, 1, none⟩ (.int .u64 t486)) = w52 at n0_ n1_ n2_ n3_ n4_ n5_ n6_ ⊢
            have BK471 := n0_
            have BK472 := n1_
            have BK476 := n2_
            have BK480 := n3_
            have BK484 := n4_
            have BK488 := n5_
            have HB := n6_
            clear n0_ n1_ n2_ n3_ n4_ n5_ n6_
            have n0_ := Aside0.mk (blk_drew BK471.out)
            have n1_ := Aside0.mk (blk_drew BK472.out)
            have n2_ := Aside0.mk (blk_drew BK476.out)
            have n3_ := Aside0.mk (blk_drew BK480.out)
            have n4_ := Aside0.mk (blk_drew BK484.out)
            have n5_ := Aside0.mk (blk_drew BK488.out)
            have n6_ := Aside0.mk (below_drew1 HB.out)
            clear BK471
            clear BK472
            clear BK476
            clear BK480
            clear BK484
            clear BK488
            clear HB
            have BK471 := n0_
            have BK472 := n1_
            have BK476 := n2_
            have BK480 := n3_
            have BK484 := n4_
            have BK488 := n5_
            have HB := n6_
            clear n0_ n1_ n2_ n3_ n4_ n5_ n6_
            refine start_ (n := 31) (S := fun w' => w'.cell? ⟨gb476, 0, none⟩ = some (.int .i64 t473) ∧ w'.cell? ⟨gb476, 1, none⟩ = some (.int .u64 t474) ∧ w'.cell? ⟨gb480, 0, none⟩ = some (.int .i64 t477) ∧ w'.cell? ⟨gb480, 1, none⟩ = some (.int .u64 t478) ∧ w'.cell? ⟨gb484, 0, none⟩ = some (.int .i64 t481) ∧ w'.cell? ⟨gb484, 1, none⟩ = some (.int .u64 t482) ∧ w'.cell? ⟨gb488, 0, none⟩ = some (.int .i64 t485) ∧ w'.cell? ⟨gb488, 1, none⟩ = some (.int .u64 t486) ∧ w'.cell? ⟨gb471, 0, none⟩ = some (.int .i64 a0_0) ∧ w'.cell? ⟨gb471, 1, none⟩ = some (.int .u64 a0_1) ∧ w'.cell? ⟨gb472, 0, none⟩ = some (.int .i64 a1_0) ∧ w'.cell? ⟨gb472, 1, none⟩ = some (.int .u64 a1_1)) (ds := []) #[false, false, false, false, false, false, false, false, false, false, false, false, false, false, false, false, false, false, false, false, false, false, false, false, false, false, false, false, false, false, false] (by kernel_rfl) rfl rfl ⟨(blk_cell BK476.out 0).trans rfl, (blk_cell BK476.out 1).trans rfl, (blk_cell BK480.out 0).trans rfl, (blk_cell BK480.out 1).trans rfl, (blk_cell BK484.out 0).trans rfl, (blk_cell BK484.out 1).trans rfl, (blk_cell BK488.out 0).trans rfl, (blk_cell BK488.out 1).trans rfl, (blk_cell BK471.out 0).trans rfl, (blk_cell BK471.out 1).trans rfl, (blk_cell BK472.out 0).trans rfl, (blk_cell BK472.out 1).trans rfl⟩ (fun hHeld => ?_); refine with_tabW corebanklaw01_WideAdds.tab5 corebanklaw01_WideAdds.bits5 (fun HT_ HW_ => ?_)
            generalize w52.drew = w53 at BK471 BK472 BK476 BK480 BK484 BK488 HB hHeld ⊢
            refine take_ (i := 0) (N := some 37) (v := ?_) (a' := ?_) #[true, false, false, false, false, false, false, false, false, false, false, false, false, false, false, false, false, false, false, false, false, false, false, false, false, false, false, false, false, false, false] rfl rfl (take_ofW HT_.out HW_.out (by kernel_rfl)) (fun _ _ _ h => h) (Or.inl ⟨by rfl, ?_⟩) hHeld ?_ ?_
            rotate_left
            · rintro w' ⟨s0, s1, s2, s3, s4, s5, s6, s7, s8, s9, s10, s11⟩
              go_simp
              with_reducible rfl
            rotate_left
            · simp only [Act.put, List.setIfInBounds_toArray, List.set_cons_zero, List.set_cons_succ, i64_w, i32_w]
              rfl
            refine take_ (i := 1) (N := some 38) (v := ?_) (a' := ?_) #[true, true, false, false, false, false, false, false, false, false, false, false, false, false, false, false, false, false, false, false, false, false, false, false, false, false, false, false, false, false, false] rfl rfl (take_ofW HT_.out HW_.out (by kernel_rfl)) (fun _ _ _ h => h) (Or.inl ⟨by rfl, ?_⟩) hHeld ?_ ?_
            rotate_left
            · rintro w' ⟨s0, s1, s2, s3, s4, s5, s6, s7, s8, s9, s10, s11⟩
              go_simp
              with_reducible rfl
            rotate_left
            · simp only [Act.put, List.setIfInBounds_toArray, List.set_cons_zero, List.set_cons_succ, i64_w, i32_w]
              rfl
            refine pure_ (i := 2) (N := some 39) (v := ?_) (a' := ?_) #[true, true, true, false, false, false, false, false, false, false, false, false, false, false, false, false, false, false, false, false, false, false, false, false, false, false, false, false, false, false, false] rfl rfl (any_of HT_.out (by kernel_rfl)) (fun _ _ _ h => h) (Or.inl ⟨by rfl, ?_⟩) ?_ ?_
            rotate_left
            · intro w'
              go_simp
              with_reducible rfl
            rotate_left
            · simp only [Act.put, List.setIfInBounds_toArray, List.set_cons_zero, List.set_cons_succ, i64_w, i32_w]
              rfl
            refine pure_ (i := 3) (N := some 40) (v := ?_) (a' := ?_) #[true, true, true, true, false, false, false, false, false, false, false, false, false, false, false, false, false, false, false, false, false, false, false, false, false, false, false, false, false, false, false] rfl rfl (any_of HT_.out (by kernel_rfl)) (fun _ _ _ h => h) (Or.inl ⟨by rfl, ?_⟩) ?_ ?_
            rotate_left
            · intro w'
              go_simp
              with_reducible rfl
            rotate_left
            · simp only [Act.put, List.setIfInBounds_toArray, List.set_cons_zero, List.set_cons_succ, i64_w, i32_w]
              rfl
            refine pure_ (i := 4) (N := some 41) (v := ?_) (a' := ?_) #[true, true, true, true, true, false, false, false, false, false, false, false, false, false, false, false, false, false, false, false, false, false, false, false, false, false, false, false, false, false, false] rfl rfl (any_of HT_.out (by kernel_rfl)) (fun _ _ _ h => h) (Or.inl ⟨by rfl, ?_⟩) ?_ ?_
            rotate_left
            · intro w'
              go_simp
              with_reducible rfl
            rotate_left
            · simp only [Act.put, List.setIfInBounds_toArray, List.set_cons_zero, List.set_cons_succ, i64_w, i32_w]
              rfl
            refine pure_ (i := 5) (N := some 42) (v := ?_) (a' := ?_) #[true, true, true, true, true, true, false, false, false, false, false, false, false, false, false, false, false, false, false, false, false, false, false, false, false, false, false, false, false, false, false] rfl rfl (any_of HT_.out (by kernel_rfl)) (fun _ _ _ h => h) (Or.inl ⟨by rfl, ?_⟩) ?_ ?_
            rotate_left
            · intro w'
              go_simp
              with_reducible rfl
            rotate_left
            · simp only [Act.put, List.setIfInBounds_toArray, List.set_cons_zero, List.set_cons_succ, i64_w, i32_w]
              rfl
            refine pure_ (i := 6) (N := some 43) (v := ?_) (a' := ?_) #[true, true, true, true, true, true, true, false, false, false, false, false, false, false, false, false, false, false, false, false, false, false, false, false, false, false, false, false, false, false, false] rfl rfl (any_of HT_.out (by kernel_rfl)) (fun _ _ _ h => h) (Or.inl ⟨by rfl, ?_⟩) ?_ ?_
            rotate_left
            · intro w'
              go_simp
              with_reducible rfl
            rotate_left
            · simp only [Act.put, List.setIfInBounds_toArray, List.set_cons_zero, List.set_cons_succ, i64_w, i32_w]
              rfl
            refine pure_ (i := 7) (N := some 44) (v := ?_) (a' := ?_) #[true, true, true, true, true, true, true, true, false, false, false, false, false, false, false, false, false, false, false, false, false, false, false, false, false, false, false, false, false, false, false] rfl rfl (any_of HT_.out (by kernel_rfl)) (fun _ _ _ h => h) (Or.inl ⟨by rfl, ?_⟩) ?_ ?_
            rotate_left
            · intro w'
              go_simp
              with_reducible rfl
            rotate_left
            · simp only [Act.put, List.setIfInBounds_toArray, List.set_cons_zero, List.set_cons_succ, i64_w, i32_w]
              rfl
            refine pure_ (i := 8) (N := some 45) (v := ?_) (a' := ?_) #[true, true, true, true, true, true, true, true, true, false, false, false, false, false, false, false, false, false, false, false, false, false, false, false, false, false, false, false, false, false, false] rfl rfl (any_of HT_.out (by kernel_rfl)) (fun _ _ _ h => h) (Or.inl ⟨by rfl, ?_⟩) ?_ ?_
            rotate_left
            · intro w'
              go_simp
              with_reducible rfl
            rotate_left
            · simp only [Act.put, List.setIfInBounds_toArray, List.set_cons_zero, List.set_cons_succ, i64_w, i32_w]
              rfl
            refine take_ (i := 9) (N := some 46) (v := ?_) (a' := ?_) #[true, true, true, true, true, true, true, true, true, true, false, false, false, false, false, false, false, false, false, false, false, false, false, false, false, false, false, false, false, false, false] rfl rfl (take_ofW HT_.out HW_.out (by kernel_rfl)) (fun _ _ _ h => h) (Or.inl ⟨by rfl, ?_⟩) hHeld ?_ ?_
            rotate_left
            · rintro w' ⟨s0, s1, s2, s3, s4, s5, s6, s7, s8, s9, s10, s11⟩
              go_simp
              with_reducible rfl
            rotate_left
            · simp only [Act.put, List.setIfInBounds_toArray, List.set_cons_zero, List.set_cons_succ, i64_w, i32_w]
              rfl
            refine take_ (i := 10) (N := some 47) (v := ?_) (a' := ?_) #[true, true, true, true, true, true, true, true, true, true, true, false, false, false, false, false, false, false, false, false, false, false, false, false, false, false, false, false, false, false, false] rfl rfl (take_ofW HT_.out HW_.out (by kernel_rfl)) (fun _ _ _ h => h) (Or.inl ⟨by rfl, ?_⟩) hHeld ?_ ?_
            rotate_left
            · rintro w' ⟨s0, s1, s2, s3, s4, s5, s6, s7, s8, s9, s10, s11⟩
              go_simp
              with_reducible rfl
            rotate_left
            · simp only [Act.put, List.setIfInBounds_toArray, List.set_cons_zero, List.set_cons_succ, i64_w, i32_w]
              rfl
            refine pure_ (i := 11) (N := some 48) (v := ?_) (a' := ?_) #[true, true, true, true, true, true, true, true, true, true, true, true, false, false, false, false, false, false, false, false, false, false, false, false, false, false, false, false, false, false, false] rfl rfl (any_of HT_.out (by kernel_rfl)) (fun _ _ _ h => h) (Or.inl ⟨by rfl, ?_⟩) ?_ ?_
            rotate_left
            · intro w'
              go_simp
              with_reducible rfl
            rotate_left
            · simp only [Act.put, List.setIfInBounds_toArray, List.set_cons_zero, List.set_cons_succ, i64_w, i32_w]
              rfl
            refine pure_ (i := 12) (N := some 49) (v := ?_) (a' := ?_) #[true, true, true, true, true, true, true, true, true, true, true, true, true, false, false, false, false, false, false, false, false, false, false, false, false, false, false, false, false, false, false] rfl rfl (any_of HT_.out (by kernel_rfl)) (fun _ _ _ h => h) (Or.inl ⟨by rfl, ?_⟩) ?_ ?_
            rotate_left
            · intro w'
              go_simp
              with_reducible rfl
            rotate_left
            · simp only [Act.put, List.setIfInBounds_toArray, List.set_cons_zero, List.set_cons_succ, i64_w, i32_w]
              rfl
            refine pure_ (i := 13) (N := some 50) (v := ?_) (a' := ?_) #[true, true, true, true, true, true, true, true, true, true, true, true, true, true, false, false, false, false, false, false, false, false, false, false, false, false, false, false, false, false, false] rfl rfl (any_of HT_.out (by kernel_rfl)) (fun _ _ _ h => h) (Or.inl ⟨by rfl, ?_⟩) ?_ ?_
            rotate_left
            · intro w'
              go_simp
              with_reducible rfl
            rotate_left
            · simp only [Act.put, List.setIfInBounds_toArray, List.set_cons_zero, List.set_cons_succ, i64_w, i32_w]
              rfl
            refine pure_ (i := 14) (N := some 51) (v := ?_) (a' := ?_) #[true, true, true, true, true, true, true, true, true, true, true, true, true, true, true, false, false, false, false, false, false, false, false, false, false, false, false, false, false, false, false] rfl rfl (any_of HT_.out (by kernel_rfl)) (fun _ _ _ h => h) (Or.inl ⟨by rfl, ?_⟩) ?_ ?_
            rotate_left
            · intro w'
              go_simp
              with_reducible rfl
            rotate_left
            · simp only [Act.put, List.setIfInBounds_toArray, List.set_cons_zero, List.set_cons_succ, i64_w, i32_w]
              rfl
            refine pure_ (i := 15) (N := some 52) (v := ?_) (a' := ?_) #[true, true, true, true, true, true, true, true, true, true, true, true, true, true, true, true, false, false, false, false, false, false, false, false, false, false, false, false, false, false, false] rfl rfl (any_of HT_.out (by kernel_rfl)) (fun _ _ _ h => h) (Or.inl ⟨by rfl, ?_⟩) ?_ ?_
            rotate_left
            · intro w'
              go_simp
              with_reducible rfl
            rotate_left
            · simp only [Act.put, List.setIfInBounds_toArray, List.set_cons_zero, List.set_cons_succ, i64_w, i32_w]
              rfl
            refine pure_ (i := 16) (N := some 53) (v := ?_) (a' := ?_) #[true, true, true, true, true, true, true, true, true, true, true, true, true, true, true, true, true, false, false, false, false, false, false, false, false, false, false, false, false, false, false] rfl rfl (any_of HT_.out (by kernel_rfl)) (fun _ _ _ h => h) (Or.inl ⟨by rfl, ?_⟩) ?_ ?_
            rotate_left
            · intro w'
              go_simp
              with_reducible rfl
            rotate_left
            · simp only [Act.put, List.setIfInBounds_toArray, List.set_cons_zero, List.set_cons_succ, i64_w, i32_w]
              rfl
            refine pure_ (i := 17) (N := some 54) (v := ?_) (a' := ?_) #[true, true, true, true, true, true, true, true, true, true, true, true, true, true, true, true, true, true, false, false, false, false, false, false, false, false, false, false, false, false, false] rfl rfl (any_of HT_.out (by kernel_rfl)) (fun _ _ _ h => h) (Or.inl ⟨by rfl, ?_⟩) ?_ ?_
            rotate_left
            · intro w'
              go_simp
              with_reducible rfl
            rotate_left
            · simp only [Act.put, List.setIfInBounds_toArray, List.set_cons_zero, List.set_cons_succ, i64_w, i32_w]
              rfl
            refine pure_ (i := 18) (N := some 55) (v := ?_) (a' := ?_) #[true, true, true, true, true, true, true, true, true, true, true, true, true, true, true, true, true, true, true, false, false, false, false, false, false, false, false, false, false, false, false] rfl rfl (any_of HT_.out (by kernel_rfl)) (fun _ _ _ h => h) (Or.inl ⟨by rfl, ?_⟩) ?_ ?_
            rotate_left
            · intro w'
              go_simp
              with_reducible rfl
            rotate_left
            · simp only [Act.put, List.setIfInBounds_toArray, List.set_cons_zero, List.set_cons_succ, i64_w, i32_w]
              rfl
            refine take_ (i := 19) (N := some 56) (v := ?_) (a' := ?_) #[true, true, true, true, true, true, true, true, true, true, true, true, true, true, true, true, true, true, true, true, false, false, false, false, false, false, false, false, false, false, false] rfl rfl (take_ofW HT_.out HW_.out (by kernel_rfl)) (fun _ _ _ h => h) (Or.inl ⟨by rfl, ?_⟩) hHeld ?_ ?_
            rotate_left
            · rintro w' ⟨s0, s1, s2, s3, s4, s5, s6, s7, s8, s9, s10, s11⟩
              go_simp
              with_reducible rfl
            rotate_left
            · simp only [Act.put, List.setIfInBounds_toArray, List.set_cons_zero, List.set_cons_succ, i64_w, i32_w]
              rfl
            refine take_ (i := 20) (N := some 57) (v := ?_) (a' := ?_) #[true, true, true, true, true, true, true, true, true, true, true, true, true, true, true, true, true, true, true, true, true, false, false, false, false, false, false, false, false, false, false] rfl rfl (take_ofW HT_.out HW_.out (by kernel_rfl)) (fun _ _ _ h => h) (Or.inl ⟨by rfl, ?_⟩) hHeld ?_ ?_
            rotate_left
            · rintro w' ⟨s0, s1, s2, s3, s4, s5, s6, s7, s8, s9, s10, s11⟩
              go_simp
              with_reducible rfl
            rotate_left
            · simp only [Act.put, List.setIfInBounds_toArray, List.set_cons_zero, List.set_cons_succ, i64_w, i32_w]
              rfl
            refine take_ (i := 22) (N := some 59) (v := ?_) (a' := ?_) #[true, true, true, true, true, true, true, true, true, true, true, true, true, true, true, true, true, true, true, true, true, false, true, false, false, false, false, false, false, false, false] rfl rfl (take_ofW HT_.out HW_.out (by kernel_rfl)) (fun _ _ _ h => h) (Or.inl ⟨by rfl, ?_⟩) hHeld ?_ ?_
            rotate_left
            · rintro w' ⟨s0, s1, s2, s3, s4, s5, s6, s7, s8, s9, s10, s11⟩
              go_simp
              with_reducible rfl
            rotate_left
            · simp only [Act.put, List.setIfInBounds_toArray, List.set_cons_zero, List.set_cons_succ, i64_w, i32_w]
              rfl
            refine take_ (i := 23) (N := some 60) (v := ?_) (a' := ?_) #[true, true, true, true, true, true, true, true, true, true, true, true, true, true, true, true, true, true, true, true, true, false, true, true, false, false, false, false, false, false, false] rfl rfl (take_ofW HT_.out HW_.out (by kernel_rfl)) (fun _ _ _ h => h) (Or.inl ⟨by rfl, ?_⟩) hHeld ?_ ?_
            rotate_left
            · rintro w' ⟨s0, s1, s2, s3, s4, s5, s6, s7, s8, s9, s10, s11⟩
              go_simp
              with_reducible rfl
            rotate_left
            · simp only [Act.put, List.setIfInBounds_toArray, List.set_cons_zero, List.set_cons_succ, i64_w, i32_w]
              rfl
            refine one_ (i := 21) (N := some 58) #[true, true, true, true, true, true, true, true, true, true, true, true, true, true, true, true, true, true, true, true, true, true, true, true, false, false, false, false, false, false, false] rfl rfl (one_of HT_.out (by kernel_rfl)) (by decide) (fun K hK => ?_)
            refine goes_ Try.func29 (by kernel_rfl) rfl #[.agg #[.int .i64 a0_0, .int .u64 a0_1], .agg #[.int .i64 a1_0, .int .u64 a1_1]] (by rfl) rfl rfl aG ?_
            with_reducible refine (wide_Cmp.calls a0_0 a0_1 a1_0 a1_1 t489 _ A11.out).mono ?_
            rintro e w54 ⟨rfl, hb⟩
            refine ⟨_, rfl, ?_⟩
            have n0_ := Aside0.mk (bK BK471 hb)
            have n1_ := Aside0.mk (bK BK472 hb)
            have n2_ := Aside0.mk (bK BK476 hb)
            have n3_ := Aside0.mk (bK BK480 hb)
            have n4_ := Aside0.mk (bK BK484 hb)
            have n5_ := Aside0.mk (bK BK488 hb)
            have n6_ := Aside0.mk (bS hb)
            clear BK471
            clear BK472
            clear BK476
            clear BK480
            clear BK484
            clear BK488
            clear HB
            have BK471 := n0_
            have BK472 := n1_
            have BK476 := n2_
            have BK480 := n3_
            have BK484 := n4_
            have BK488 := n5_
            have HB := n6_
            clear n0_ n1_ n2_ n3_ n4_ n5_ n6_
            (try clear hb)
            (try clear hb2)
            (try clear hk)
            (try clear hi)
            refine hK.out _ _ ⟨(blk_cell BK476.out 0).trans rfl, (blk_cell BK476.out 1).trans rfl, (blk_cell BK480.out 0).trans rfl, (blk_cell BK480.out 1).trans rfl, (blk_cell BK484.out 0).trans rfl, (blk_cell BK484.out 1).trans rfl, (blk_cell BK488.out 0).trans rfl, (blk_cell BK488.out 1).trans rfl, (blk_cell BK471.out 0).trans rfl, (blk_cell BK471.out 1).trans rfl, (blk_cell BK472.out 0).trans rfl, (blk_cell BK472.out 1).trans rfl⟩ (fun hHeld => ?_)
            clear hK K
            refine norm_ (a' := ?_) ?_ ?_
            rotate_left
            · show Act.put _ (some 58) _ = _
              simp only [Act.put, List.setIfInBounds_toArray, List.set_cons_zero, List.set_cons_succ, i64_w, i32_w]
              rfl
            refine one_ (i := 24) (N := some 61) #[true, true, true, true, true, true, true, true, true, true, true, true, true, true, true, true, true, true, true, true, true, true, true, true, true, false, false, false, false, false, false] rfl rfl (one_of HT_.out (by kernel_rfl)) (by decide) (fun K hK => ?_)
            refine goes_ Try.func30 (by kernel_rfl) rfl #[.agg #[.int .i64 a0_0, .int .u64 a0_1], .agg #[.int .i64 a1_0, .int .u64 a1_1]] (by rfl) rfl rfl aG ?_
            with_reducible refine (corebankref01_Cmp.calls a0_0 a0_1 a1_0 a1_1 t490 _ A12.out).mono ?_
            rintro e w55 ⟨rfl, hb⟩
            refine ⟨_, rfl, ?_⟩
            have n0_ := Aside0.mk (bK BK471 hb)
            have n1_ := Aside0.mk (bK BK472 hb)
            have n2_ := Aside0.mk (bK BK476 hb)
            have n3_ := Aside0.mk (bK BK480 hb)
            have n4_ := Aside0.mk (bK BK484 hb)
            have n5_ := Aside0.mk (bK BK488 hb)
            have n6_ := Aside0.mk (bS hb)
            clear BK471
            clear BK472
            clear BK476
            clear BK480
            clear BK484
            clear BK488
            clear HB
            have BK471 := n0_
            have BK472 := n1_
            have BK476 := n2_
            have BK480 := n3_
            have BK484 := n4_
            have BK488 := n5_
            have HB := n6_
            clear n0_ n1_ n2_ n3_ n4_ n5_ n6_
            (try clear hb)
            (try clear hb2)
            (try clear hk)
            (try clear hi)
            refine hK.out _ _ ⟨(blk_cell BK476.out 0).trans rfl, (blk_cell BK476.out 1).trans rfl, (blk_cell BK480.out 0).trans rfl, (blk_cell BK480.out 1).trans rfl, (blk_cell BK484.out 0).trans rfl, (blk_cell BK484.out 1).trans rfl, (blk_cell BK488.out 0).trans rfl, (blk_cell BK488.out 1).trans rfl, (blk_cell BK471.out 0).trans rfl, (blk_cell BK471.out 1).trans rfl, (blk_cell BK472.out 0).trans rfl, (blk_cell BK472.out 1).trans rfl⟩ (fun hHeld => ?_)
            clear hK K
            refine norm_ (a' := ?_) ?_ ?_
            rotate_left
            · show Act.put _ (some 61) _ = _
              simp only [Act.put, List.setIfInBounds_toArray, List.set_cons_zero, List.set_cons_succ, i64_w, i32_w]
              rfl
            refine pure_ (i := 25) (N := some 62) (v := ?_) (a' := ?_) #[true, true, true, true, true, true, true, true, true, true, true, true, true, true, true, true, true, true, true, true, true, true, true, true, true, true, false, false, false, false, false] rfl rfl (any_of HT_.out (by kernel_rfl)) (fun _ _ _ h => h) (Or.inl ⟨by rfl, ?_⟩) ?_ ?_
            rotate_left
            · intro w'
              go_simp
              with_reducible rfl
            rotate_left
            · simp only [Act.put, List.setIfInBounds_toArray, List.set_cons_zero, List.set_cons_succ, i64_w, i32_w]
              rfl
            refine pure_ (i := 26) (N := some 63) (v := ?_) (a' := ?_) #[true, true, true, true, true, true, true, true, true, true, true, true, true, true, true, true, true, true, true, true, true, true, true, true, true, true, true, false, false, false, false] rfl rfl (any_of HT_.out (by kernel_rfl)) (fun _ _ _ h => h) (Or.inl ⟨by rfl, ?_⟩) ?_ ?_
            rotate_left
            · intro w'
              go_simp
              with_reducible rfl
            rotate_left
            · simp only [Act.put, List.setIfInBounds_toArray, List.set_cons_zero, List.set_cons_succ, i64_w, i32_w]
              rfl
            refine pure_ (i := 27) (N := some 64) (v := ?_) (a' := ?_) #[true, true, true, true, true, true, true, true, true, true, true, true, true, true, true, true, true, true, true, true, true, true, true, true, true, true, true, true, false, false, false] rfl rfl (any_of HT_.out (by kernel_rfl)) (fun _ _ _ h => h) (Or.inl ⟨by rfl, ?_⟩) ?_ ?_
            rotate_left
            · intro w'
              go_simp
              with_reducible rfl
            rotate_left
            · simp only [Act.put, List.setIfInBounds_toArray, List.set_cons_zero, List.set_cons_succ, i64_w, i32_w]
              rfl
            refine one_ (i := 28) (N := some 65) #[true, true, true, true, true, true, true, true, true, true, true, true, true, true, true, true, true, true, true, true, true, true, true, true, true, true, true, true, true, false, false] rfl rfl (one_of HT_.out (by kernel_rfl)) (by decide) (fun K hK => ?_)
            refine goes_ Try.func12 (by kernel_rfl) rfl #[] (by rfl) rfl rfl aG ?_
            with_reducible refine (corebanklaw01_live.calls k  t491 _ A14.out).mono ?_
            rintro e w56 ⟨rfl, hb⟩
            refine ⟨_, rfl, ?_⟩
            have n0_ := Aside0.mk (bK BK471 hb)
            have n1_ := Aside0.mk (bK BK472 hb)
            have n2_ := Aside0.mk (bK BK476 hb)
            have n3_ := Aside0.mk (bK BK480 hb)
            have n4_ := Aside0.mk (bK BK484 hb)
            have n5_ := Aside0.mk (bK BK488 hb)
            have n6_ := Aside0.mk (bS hb)
            clear BK471
            clear BK472
            clear BK476
            clear BK480
            clear BK484
            clear BK488
            clear HB
            have BK471 := n0_
            have BK472 := n1_
            have BK476 := n2_
            have BK480 := n3_
            have BK484 := n4_
            have BK488 := n5_
            have HB := n6_
            clear n0_ n1_ n2_ n3_ n4_ n5_ n6_
            (try clear hb)
            (try clear hb2)
            (try clear hk)
            (try clear hi)
            refine hK.out _ _ ⟨(blk_cell BK476.out 0).trans rfl, (blk_cell BK476.out 1).trans rfl, (blk_cell BK480.out 0).trans rfl, (blk_cell BK480.out 1).trans rfl, (blk_cell BK484.out 0).trans rfl, (blk_cell BK484.out 1).trans rfl, (blk_cell BK488.out 0).trans rfl, (blk_cell BK488.out 1).trans rfl, (blk_cell BK471.out 0).trans rfl, (blk_cell BK471.out 1).trans rfl, (blk_cell BK472.out 0).trans rfl, (blk_cell BK472.out 1).trans rfl⟩ (fun hHeld => ?_)
            clear hK K
            refine norm_ (a' := ?_) ?_ ?_
            rotate_left
            · show Act.put _ (some 65) _ = _
              simp only [Act.put, List.setIfInBounds_toArray, List.set_cons_zero, List.set_cons_succ, i64_w, i32_w]
              rfl
            refine pure_ (i := 29) (N := some 66) (v := ?_) (a' := ?_) #[true, true, true, true, true, true, true, true, true, true, true, true, true, true, true, true, true, true, true, true, true, true, true, true, true, true, true, true, true, true, false] rfl rfl (any_of HT_.out (by kernel_rfl)) (fun _ _ _ h => h) (Or.inl ⟨by rfl, ?_⟩) ?_ ?_
            rotate_left
            · intro w'
              go_simp
              with_reducible rfl
            rotate_left
            · simp only [Act.put, List.setIfInBounds_toArray, List.set_cons_zero, List.set_cons_succ, i64_w, i32_w]
              rfl
            refine pure_ (i := 30) (N := some 4) (v := ?_) (a' := ?_) #[true, true, true, true, true, true, true, true, true, true, true, true, true, true, true, true, true, true, true, true, true, true, true, true, true, true, true, true, true, true, true] rfl rfl (any_of HT_.out (by kernel_rfl)) (fun _ _ _ h => h) (Or.inl ⟨by rfl, ?_⟩) ?_ ?_
            rotate_left
            · intro w'
              go_simp
              with_reducible rfl
            rotate_left
            · simp only [Act.put, List.setIfInBounds_toArray, List.set_cons_zero, List.set_cons_succ, i64_w, i32_w]
              rfl
            refine done_ (done_of HT_.out (by kernel_rfl)) ?_
            try go_wp2
            go_ret
            exact ⟨by first | rfl | (simp [errW_none, errW_some] <;> rfl) | (simp [*, errW_none, errW_some] <;> rfl), bE⟩
          · rw [if_neg c13] at H
            exact absurd H (by simp)
        · rw [if_neg c10] at H
          exact absurd H (by simp)
      · rw [if_neg c9] at H
        exact absurd H (by simp)
    · rw [if_neg c8] at H
      exact absurd H (by simp)
  · rw [if_neg c7] at H
    exact absurd H (by simp)

/-- THE ONE PURE STATEMENT of corebanklaw01_WideAdds. -/
def corebanklaw01_WideAdds.Pure : Prop := ∀ (a0_0 : Int) (a0_1 : Int) (a1_0 : Int) (a1_1 : Int), (Lit.int .i64 a0_0).wf = true → (Lit.int .u64 a0_1).wf = true → (Lit.int .i64 a1_0).wf = true → (Lit.int .u64 a1_1).wf = true → ∃ k, corebanklaw01_WideAdds.f k a0_0 a0_1 a1_0 a1_1 = some true
theorem corebanklaw01_WideAdds.walk (P : corebanklaw01_WideAdds.Pure) (a0_0 : Int) (a0_1 : Int) (a1_0 : Int) (a1_1 : Int) (w : World) (w0_0 : (Lit.int .i64 a0_0).wf = true) (w0_1 : (Lit.int .u64 a0_1).wf = true) (w1_0 : (Lit.int .i64 a1_0).wf = true) (w1_1 : (Lit.int .u64 a1_1).wf = true) :
    Calls Try.prog 7 #[.agg #[.int .i64 a0_0, .int .u64 a0_1], .agg #[.int .i64 a1_0, .int .u64 a1_1]] w fun e w' => e = .returned (.bool true) ∧ Below w.heap.size w w' := by
  obtain ⟨k, h⟩ := P a0_0 a0_1 a1_0 a1_1 w0_0 w0_1 w1_0 w1_1
  refine (corebanklaw01_WideAdds.calls k a0_0 a0_1 a1_0 a1_1 true w h).mono ?_
  rintro e w' ⟨rfl, hd⟩
  exact ⟨rfl, hd⟩

end Go.Proofs.Ytkhocaehhflpcaa.PA
