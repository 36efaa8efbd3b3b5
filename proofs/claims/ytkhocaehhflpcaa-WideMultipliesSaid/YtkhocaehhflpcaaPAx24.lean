/- Contracts of the Go functions and their plain Lean functions, written by a program of this session out of the translation. -/
import Derived.Test.YtkhocaehhflpcaaPAx0
import Derived.Test.YtkhocaehhflpcaaPAx7
import Derived.Test.YtkhocaehhflpcaaPAx8
import Derived.Test.YtkhocaehhflpcaaPAx23
namespace Go.Proofs.Ytkhocaehhflpcaa.PA
open Go.RowKit Go.Proofs.YtkhocaehhflpcaaW.PrintWords Go.Proofs.YtkhocaehhflpcaaW.PrintLast Go.Proofs.YtkhocaehhflpcaaW.PrintMore
attribute [local go_sem] max2_int min2_int max_two min_two max_three min_three max_four min_four   -- for this text's walks alone
set_option linter.unusedVariables false
set_option linter.unusedSimpArgs false

/-! ### corebankref01_sum: function 46 -/
def corebankref01_sum.f (a0 : Bool) (a1_0 : Int) (a1_1 : Int) (a2 : Bool) (a3_0 : Int) (a3_1 : Int) : Option (Int × Int × Int) := if (a0 == a2) = true then ((corebankref01_plus.f a1_0 a1_1 a3_0 a3_1).bind fun bt420 => ((corebankref01_Join.f a0 bt420.1 bt420.2.1).bind fun bt423 => (if bt420.2.2 = true then (if bt423.2.2 = true then (some (bt423.1, bt423.2.1, 0)) else (some (0, 0, 6))) else (some (0, 0, 6))))) else ((corebankref01_Less.f a1_0 a1_1 a3_0 a3_1).bind fun t427 => (if t427 = true then ((corebankref01_minus.f a3_0 a3_1 a1_0 a1_1).bind fun bt428 => ((corebankref01_Join.f a2 bt428.1 bt428.2).bind fun bt430 => (if bt430.2.2 = true then (some (bt430.1, bt430.2.1, 0)) else (some (0, 0, 6))))) else ((corebankref01_minus.f a1_0 a1_1 a3_0 a3_1).bind fun bt434 => ((corebankref01_Join.f a0 bt434.1 bt434.2).bind fun bt436 => (if bt436.2.2 = true then (some (bt436.1, bt436.2.1, 0)) else (some (0, 0, 6)))))))
set_option maxHeartbeats 8000000 in
set_option maxRecDepth 100000 in
theorem corebankref01_sum.calls (a0 : Bool) (a1_0 : Int) (a1_1 : Int) (a2 : Bool) (a3_0 : Int) (a3_1 : Int) (r1 : Int) (r2 : Int) (r3 : Int) (w : World) (h : corebankref01_sum.f a0 a1_0 a1_1 a2 a3_0 a3_1 = some (r1, r2, r3)) :
    Calls Try.prog 46 #[.bool a0, .agg #[.int .u64 a1_0, .int .u64 a1_1], .bool a2, .agg #[.int .u64 a3_0, .int .u64 a3_1]] w fun e w' => e = .returned (.tuple #[.agg #[.int .i64 r1, .int .u64 r2], .int .i64 r3]) ∧ Below w.heap.size w w' := by
  have hu53 := Try.underlying53
  have hu24 := Try.underlying24
  have HB := Aside0.mk (Below.refl w.heap.size w)
  have H : (if (a0 == a2) = true then ((corebankref01_plus.f a1_0 a1_1 a3_0 a3_1).bind fun bt420 => ((corebankref01_Join.f a0 bt420.1 bt420.2.1).bind fun bt423 => (if bt420.2.2 = true then (if bt423.2.2 = true then (some (bt423.1, bt423.2.1, 0)) else (some (0, 0, 6))) else (some (0, 0, 6))))) else ((corebankref01_Less.f a1_0 a1_1 a3_0 a3_1).bind fun t427 => (if t427 = true then ((corebankref01_minus.f a3_0 a3_1 a1_0 a1_1).bind fun bt428 => ((corebankref01_Join.f a2 bt428.1 bt428.2).bind fun bt430 => (if bt430.2.2 = true then (some (bt430.1, bt430.2.1, 0)) else (some (0, 0, 6))))) else ((corebankref01_minus.f a1_0 a1_1 a3_0 a3_1).bind fun bt434 => ((corebankref01_Join.f a0 bt434.1 bt434.2).bind fun bt436 => (if bt436.2.2 = true then (some (bt436.1, bt436.2.1, 0)) else (some (0, 0, 6)))))))) = some (r1, r2, r3) := h
  clear h
  by_cases c5 : (a0 == a2) = true
  · rw [if_pos c5] at H
    have c5b0 : (a0 == a2) = true := c5
    (try (have c5b1 : decide (a0 = a2) = true := by simpa using c5))
    (try (have c5b2 : (a0 == a2) = true := by simpa using c5))
    clear c5
    replace H := Option.bind_eq_some_iff.mp H
    obtain ⟨⟨t420, t421, t422⟩, A60, H⟩ := H
    replace H : ((corebankref01_Join.f a0 t420 t421).bind fun bt423 => (if t422 = true then (if bt423.2.2 = true then (some (bt423.1, bt423.2.1, 0)) else (some (0, 0, 6))) else (some (0, 0, 6)))) = some (r1, r2, r3) := H
    have A6 := Aside0.mk A60
    clear A60
    replace H := Option.bind_eq_some_iff.mp H
    obtain ⟨⟨t423, t424, t425⟩, A70, H⟩ := H
    replace H : (if t422 = true then (if t425 = true then (some (t423, t424, 0)) else (some (0, 0, 6))) else (some (0, 0, 6))) = some (r1, r2, r3) := H
    have A7 := Aside0.mk A70
    clear A70
    by_cases c8 : t422 = true
    · subst c8
      have H1 : (if t425 = true then (some (t423, t424, 0)) else (some (0, 0, 6))) = some (r1, r2, r3) := by rw [if_pos rfl] at H; exact H
      clear H
      have H := H1
      clear H1
      by_cases c9 : t425 = true
      · subst c9
        have H1 : (some (t423, t424, 0)) = some (r1, r2, r3) := by rw [if_pos rfl] at H; exact H
        clear H
        have H := H1
        clear H1
        simp only [Option.some.injEq, Prod.mk.injEq] at H
        obtain ⟨rfl, rfl, rfl⟩ := H
        go_enter Try.func46, Try.ntmps46
        try go_wp2_with (first | ((with_reducible refine gate_dst (N := 5) rfl ?_); refine box_event ?hg (N := 5) ?hd (cs := #[.int .u64 a1_0, .int .u64 a1_1]) (t := 53) ?hr ?_; (case hd => rfl); (case hg => rfl); (case hr => first | (go_simp; done) | (go_simp; rfl)); intro gb416 hg w10 hbox hb; have nn_ := bT hb hg; have BK416 := Aside0.mk (hbox); have GW416 := Aside0.mk nn_.2; have GE416 := GW416; replace HB := Aside0.mk nn_.1; clear nn_; clear hb hbox hg) | ((with_reducible refine gate_dst (N := 7) rfl ?_); refine box_event ?hg (N := 7) ?hd (cs := #[.int .u64 a3_0, .int .u64 a3_1]) (t := 53) ?hr ?_; (case hd => rfl); (case hg => rfl); (case hr => first | (go_simp; done) | (go_simp; rfl)); intro gb417 hg w11 hbox hb; have nn_ := bT hb hg; have bgb416_ := bN BK416 hb hg; have BK417 := Aside0.mk (hbox); have GW417 := Aside0.mk nn_.2; have GE417 := GW417; have NB416_417 := Aside0.mk bgb416_.2.1; have NB417_416 := Aside0.mk bgb416_.2.2; replace BK416 := Aside0.mk bgb416_.1; replace HB := Aside0.mk nn_.1; clear nn_ bgb416_; clear hb hbox hg) | ((with_reducible refine gate_dst (N := 8) rfl ?_); refine box_event ?hg (N := 8) ?hd (cs := #[.int .i64 0, .int .u64 0]) (t := 24) ?hr ?_; (case hd => rfl); (case hg => rfl); (case hr => first | (go_simp; done) | (go_simp; rfl)); intro gb418 hg w12 hbox hb; have nn_ := bT hb hg; have bgb416_ := bN BK416 hb hg; have bgb417_ := bN BK417 hb hg; have BK418 := Aside0.mk (hbox); have GW418 := Aside0.mk nn_.2; have GE418 := GW418; have NB416_418 := Aside0.mk bgb416_.2.1; have NB418_416 := Aside0.mk bgb416_.2.2; have NB417_418 := Aside0.mk bgb417_.2.1; have NB418_417 := Aside0.mk bgb417_.2.2; replace BK416 := Aside0.mk bgb416_.1; replace BK417 := Aside0.mk bgb417_.1; replace HB := Aside0.mk nn_.1; clear nn_ bgb416_ bgb417_; clear hb hbox hg))
        have n0_ := Aside0.mk (blk_drew BK416.out)
        have n1_ := Aside0.mk (blk_drew BK417.out)
        have n2_ := Aside0.mk (blk_drew BK418.out)
        have n3_ := Aside0.mk (below_drew1 HB.out)
        clear BK416
        clear BK417
        clear BK418
        clear HB
        have BK416 := n0_
        have BK417 := n1_
        have BK418 := n2_
        have HB := n3_
        clear n0_ n1_ n2_ n3_
        refine start_ (n := 6) (S := fun w' => w'.cell? ⟨gb416, 0, none⟩ = some (.int .u64 a1_0) ∧ w'.cell? ⟨gb416, 1, none⟩ = some (.int .u64 a1_1)) (ds := []) #[false, false, false, false, false, false] (by kernel_rfl) rfl rfl ⟨(blk_cell BK416.out 0).trans rfl, (blk_cell BK416.out 1).trans rfl⟩ (fun hHeld => ?_)
        generalize w12.drew = w13 at BK416 BK417 BK418 HB hHeld ⊢
        refine pure_ (i := 0) (N := some 15) (v := ?_) (a' := ?_) #[true, false, false, false, false, false] rfl rfl (by kernel_rfl) (fun _ _ _ h => h) (Or.inl ⟨by rfl, ?_⟩) ?_ ?_
        rotate_left
        · intro w'
          go_simp
          with_reducible rfl
        rotate_left
        · simp only [Act.put, List.setIfInBounds_toArray, List.set_cons_zero, List.set_cons_succ, i64_w, i32_w]
          rfl
        refine take_ (i := 1) (N := some 16) (v := ?_) (a' := ?_) #[true, true, false, false, false, false] rfl rfl (by kernel_rfl) (fun _ _ _ h => h) (Or.inl ⟨by rfl, ?_⟩) hHeld ?_ ?_
        rotate_left
        · rintro w' ⟨s0, s1⟩
          go_simp
          with_reducible rfl
        rotate_left
        · simp only [Act.put, List.setIfInBounds_toArray, List.set_cons_zero, List.set_cons_succ, i64_w, i32_w]
          rfl
        refine one_ (i := 2) (N := some 11) #[true, true, true, false, false, false] rfl rfl (by kernel_rfl) (by decide) (fun K hK => ?_)
        refine box_step ?hg (N := 11) ?hd (cs := #[.int .u64 0, .int .u64 0]) (t := 53) ?hr ?_; (case hd => rfl); (case hg => rfl); (case hr => first | (go_simp; done) | (go_simp; rfl))
        intro gb419 hg w14 hbox hb
        have n0_ := Aside0.mk (bK BK416 hb)
        have n1_ := Aside0.mk (bK BK417 hb)
        have n2_ := Aside0.mk (bK BK418 hb)
        have n3_ := Aside0.mk (bS hb)
        have n4_ := Aside0.mk (hbox)
        have n5_ := Aside0.mk ((by rw [hg]; exact (below_size (bE)) : w.heap.size ≤ gb419))
        have n6_ := Aside0.mk ((by rw [hg]; exact (below_size (bE)) : w.heap.size ≤ gb419))
        have n7_ := Aside0.mk ((by rw [hg]; exact Nat.ne_of_lt (blk_lt (g := gb416) (o := .cells #[.int .u64 a1_0, .int .u64 a1_1] 53 (0, 0)) (by (with_reducible repeat (first | refine blk_drewN ?_ _ | refine blk_drew ?_ | refine blk_alloc ?_ _)); exact BK416.out)) : gb416 ≠ gb419))
        have n8_ := Aside0.mk ((by rw [hg]; exact Nat.ne_of_gt (blk_lt (g := gb416) (o := .cells #[.int .u64 a1_0, .int .u64 a1_1] 53 (0, 0)) (by (with_reducible repeat (first | refine blk_drewN ?_ _ | refine blk_drew ?_ | refine blk_alloc ?_ _)); exact BK416.out)) : gb419 ≠ gb416))
        have n9_ := Aside0.mk ((by rw [hg]; exact Nat.ne_of_lt (blk_lt (g := gb417) (o := .cells #[.int .u64 a3_0, .int .u64 a3_1] 53 (0, 0)) (by (with_reducible repeat (first | refine blk_drewN ?_ _ | refine blk_drew ?_ | refine blk_alloc ?_ _)); exact BK417.out)) : gb417 ≠ gb419))
        have n10_ := Aside0.mk ((by rw [hg]; exact Nat.ne_of_gt (blk_lt (g := gb417) (o := .cells #[.int .u64 a3_0, .int .u64 a3_1] 53 (0, 0)) (by (with_reducible repeat (first | refine blk_drewN ?_ _ | refine blk_drew ?_ | refine blk_alloc ?_ _)); exact BK417.out)) : gb419 ≠ gb417))
        have n11_ := Aside0.mk ((by rw [hg]; exact Nat.ne_of_lt (blk_lt (g := gb418) (o := .cells #[.int .i64 0, .int .u64 0] 24 (0, 0)) (by (with_reducible repeat (first | refine blk_drewN ?_ _ | refine blk_drew ?_ | refine blk_alloc ?_ _)); exact BK418.out)) : gb418 ≠ gb419))
        have n12_ := Aside0.mk ((by rw [hg]; exact Nat.ne_of_gt (blk_lt (g := gb418) (o := .cells #[.int .i64 0, .int .u64 0] 24 (0, 0)) (by (with_reducible repeat (first | refine blk_drewN ?_ _ | refine blk_drew ?_ | refine blk_alloc ?_ _)); exact BK418.out)) : gb419 ≠ gb418))
        clear BK416
        clear BK417
        clear BK418
        clear HB
        have BK416 := n0_
        have BK417 := n1_
        have BK418 := n2_
        have HB := n3_
        have BK419 := n4_
        have GW419 := n5_
        have GE419 := n6_
        have NB416_419 := n7_
        have NB419_416 := n8_
        have NB417_419 := n9_
        have NB419_417 := n10_
        have NB418_419 := n11_
        have NB419_418 := n12_
        clear n0_ n1_ n2_ n3_ n4_ n5_ n6_ n7_ n8_ n9_ n10_ n11_ n12_
        clear hb hbox hg
        refine hK.out _ _ ⟨(blk_cell BK416.out 0).trans rfl, (blk_cell BK416.out 1).trans rfl⟩ (fun hHeld => ?_)
        clear hK K
        refine norm_ (a' := ?_) ?_ ?_
        rotate_left
        · show Act.put _ (some 11) _ = _
          simp only [Act.put, List.setIfInBounds_toArray, List.set_cons_zero, List.set_cons_succ, i64_w, i32_w]
          rfl
        refine pure_ (i := 3) (N := some 10) (v := ?_) (a' := ?_) #[true, true, true, true, false, false] rfl rfl (by kernel_rfl) (fun _ _ _ h => h) (Or.inl ⟨by rfl, ?_⟩) ?_ ?_
        rotate_left
        · intro w'
          go_simp
          with_reducible rfl
        rotate_left
        · simp only [Act.put, List.setIfInBounds_toArray, List.set_cons_zero, List.set_cons_succ, i64_w, i32_w]
          rfl
        refine one_ (i := 4) (N := none) #[true, true, true, true, true, false] rfl rfl (by kernel_rfl) (by decide) (fun K hK => ?_)
        have hs15 : w14.cell? ⟨gb419, 0, none⟩ = some (.int .u64 0) := (blk_cell BK419.out 0).trans rfl
        have hfs15 := blk_frozen BK419.out 0
        have hns15_0 := NB416_419.out
        have hns15_1 := NB417_419.out
        have hns15_2 := NB418_419.out
        have hms15_0 := NB419_416.out
        have hms15_1 := NB419_417.out
        have hms15_2 := NB419_418.out
        have hs16 : w14.cell? ⟨gb419, 1, none⟩ = some (.int .u64 0) := (blk_cell BK419.out 1).trans rfl
        have hfs16 := blk_frozen BK419.out 1
        have hns16_0 := NB416_419.out
        have hns16_1 := NB417_419.out
        have hns16_2 := NB418_419.out
        have hms16_0 := NB419_416.out
        have hms16_1 := NB419_417.out
        have hms16_2 := NB419_418.out
        refine skip_ (w1 := ?_) (by rfl) rfl ?_ ?_
        rotate_left
        · go_simp
          rfl
        refine hK.out _ _ ⟨((cell_far (p := ⟨gb419, _, none⟩) NB416_419.out _).trans (((cell_far (p := ⟨gb419, _, none⟩) NB416_419.out _).trans (hHeld.1)))), ((cell_far (p := ⟨gb419, _, none⟩) NB416_419.out _).trans (((cell_far (p := ⟨gb419, _, none⟩) NB416_419.out _).trans (hHeld.2))))⟩ (fun hHeld => ?_)
        clear hK K
        refine pure_ (i := 5) (N := some 12) (v := ?_) (a' := ?_) #[true, true, true, true, true, true] rfl rfl (by kernel_rfl) (fun _ _ _ h => h) (Or.inl ⟨by rfl, ?_⟩) ?_ ?_
        rotate_left
        · intro w'
          go_simp
          with_reducible rfl
        rotate_left
        · simp only [Act.put, List.setIfInBounds_toArray, List.set_cons_zero, List.set_cons_succ, i64_w, i32_w]
          rfl
        refine done_ (by kernel_rfl) ?_
        have hnb17 := NB416_417.out
        have hnc17 := NB417_416.out
        have hnb18 := NB416_418.out
        have hnc18 := NB418_416.out
        have hnb19 := NB416_419.out
        have hnc19 := NB419_416.out
        have hcz20_0 : w14.cell? ⟨gb416, 0, none⟩ = some (.int .u64 a1_0) := (blk_cell BK416.out 0).trans rfl
        have hcz20_1 : w14.cell? ⟨gb416, 1, none⟩ = some (.int .u64 a1_1) := (blk_cell BK416.out 1).trans rfl
        have hfz20_0 := blk_frozen BK416.out 0
        have hfz20_1 := blk_frozen BK416.out 1
        have hnb21 := NB417_418.out
        have hnc21 := NB418_417.out
        have hnb22 := NB417_419.out
        have hnc22 := NB419_417.out
        have hcz23_0 : w14.cell? ⟨gb417, 0, none⟩ = some (.int .u64 a3_0) := (blk_cell BK417.out 0).trans rfl
        have hcz23_1 : w14.cell? ⟨gb417, 1, none⟩ = some (.int .u64 a3_1) := (blk_cell BK417.out 1).trans rfl
        have hfz23_0 := blk_frozen BK417.out 0
        have hfz23_1 := blk_frozen BK417.out 1
        try go_wp2_with (first | ((with_reducible refine gate_callee (f := 37) rfl ?_); refine goesL_ (some 27) rfl rfl Try.func37 (by kernel_rfl) rfl #[.agg #[.int .u64 a1_0, .int .u64 a1_1], .agg #[.int .u64 a3_0, .int .u64 a3_1]] rfl aG ?_; (with_reducible refine (corebankref01_plus.calls a1_0 a1_1 a3_0 a3_1 t420 t421 true _ A6.out).mono ?_); rintro e w24 ⟨rfl, hb⟩; refine ⟨_, rfl, ?_⟩; replace BK416 := Aside0.mk (blk_below (g := gb416) (o := .cells #[.int .u64 a1_0, .int .u64 a1_1] 53 (0, 0)) (by (with_reducible repeat (first | refine blk_drewN ?_ _ | refine blk_drew ?_ | refine blk_alloc ?_ _)); refine blk_far ?_ NB416_419.out _; (with_reducible repeat (first | refine blk_drewN ?_ _ | refine blk_drew ?_ | refine blk_alloc ?_ _)); refine blk_far ?_ NB416_419.out _; (with_reducible repeat (first | refine blk_drewN ?_ _ | refine blk_drew ?_ | refine blk_alloc ?_ _)); exact BK416.out) hb); replace BK417 := Aside0.mk (blk_below (g := gb417) (o := .cells #[.int .u64 a3_0, .int .u64 a3_1] 53 (0, 0)) (by (with_reducible repeat (first | refine blk_drewN ?_ _ | refine blk_drew ?_ | refine blk_alloc ?_ _)); refine blk_far ?_ NB417_419.out _; (with_reducible repeat (first | refine blk_drewN ?_ _ | refine blk_drew ?_ | refine blk_alloc ?_ _)); refine blk_far ?_ NB417_419.out _; (with_reducible repeat (first | refine blk_drewN ?_ _ | refine blk_drew ?_ | refine blk_alloc ?_ _)); exact BK417.out) hb); replace BK418 := Aside0.mk (blk_below (g := gb418) (o := .cells #[.int .i64 0, .int .u64 0] 24 (0, 0)) (by (with_reducible repeat (first | refine blk_drewN ?_ _ | refine blk_drew ?_ | refine blk_alloc ?_ _)); refine blk_far ?_ NB418_419.out _; (with_reducible repeat (first | refine blk_drewN ?_ _ | refine blk_drew ?_ | refine blk_alloc ?_ _)); refine blk_far ?_ NB418_419.out _; (with_reducible repeat (first | refine blk_drewN ?_ _ | refine blk_drew ?_ | refine blk_alloc ?_ _)); exact BK418.out) hb); replace BK419 := Aside0.mk (blk_below (g := gb419) (o := .cells #[.int .u64 a1_0, .int .u64 a1_1] 53 (0, 0)) (by (with_reducible repeat (first | refine blk_drewN ?_ _ | refine blk_drew ?_ | refine blk_alloc ?_ _)); refine blk_put (cs := #[.int .u64 a1_0, .int .u64 0]) ?_ 1 _ rfl; (with_reducible repeat (first | refine blk_drewN ?_ _ | refine blk_drew ?_ | refine blk_alloc ?_ _)); refine blk_put (cs := #[.int .u64 0, .int .u64 0]) ?_ 0 _ rfl; (with_reducible repeat (first | refine blk_drewN ?_ _ | refine blk_drew ?_ | refine blk_alloc ?_ _)); exact BK419.out) hb); replace HB := Aside0.mk (bS hb); (try clear hb); (try clear hb2); (try clear hk); (try clear hi); have hnb25 := NB419_418.out; have hnc25 := NB418_419.out; have hcz26_0 : w24.cell? ⟨gb419, 0, none⟩ = some (.int .u64 a1_0) := (blk_cell BK419.out 0).trans rfl; have hcz26_1 : w24.cell? ⟨gb419, 1, none⟩ = some (.int .u64 a1_1) := (blk_cell BK419.out 1).trans rfl; have hfz26_0 := blk_frozen BK419.out 0; have hfz26_1 := blk_frozen BK419.out 1) | ((with_reducible refine gate_callee (f := 38) rfl ?_); refine goesL_ (some 41) rfl rfl Try.func38 (by kernel_rfl) rfl #[.bool a0, .agg #[.int .u64 t420, .int .u64 t421]] rfl aG ?_; (with_reducible refine (corebankref01_Join.calls a0 t420 t421 t423 t424 true _ A7.out).mono ?_); rintro e w27 ⟨rfl, hb⟩; refine ⟨_, rfl, ?_⟩; replace BK416 := Aside0.mk (blk_below (g := gb416) (o := .cells #[.int .u64 a1_0, .int .u64 a1_1] 53 (0, 0)) (by (with_reducible repeat (first | refine blk_drewN ?_ _ | refine blk_drew ?_ | refine blk_alloc ?_ _)); refine blk_far ?_ NB416_419.out _; (with_reducible repeat (first | refine blk_drewN ?_ _ | refine blk_drew ?_ | refine blk_alloc ?_ _)); refine blk_far ?_ NB416_419.out _; (with_reducible repeat (first | refine blk_drewN ?_ _ | refine blk_drew ?_ | refine blk_alloc ?_ _)); exact BK416.out) hb); replace BK417 := Aside0.mk (blk_below (g := gb417) (o := .cells #[.int .u64 a3_0, .int .u64 a3_1] 53 (0, 0)) (by (with_reducible repeat (first | refine blk_drewN ?_ _ | refine blk_drew ?_ | refine blk_alloc ?_ _)); refine blk_far ?_ NB417_419.out _; (with_reducible repeat (first | refine blk_drewN ?_ _ | refine blk_drew ?_ | refine blk_alloc ?_ _)); refine blk_far ?_ NB417_419.out _; (with_reducible repeat (first | refine blk_drewN ?_ _ | refine blk_drew ?_ | refine blk_alloc ?_ _)); exact BK417.out) hb); replace BK418 := Aside0.mk (blk_below (g := gb418) (o := .cells #[.int .i64 0, .int .u64 0] 24 (0, 0)) (by (with_reducible repeat (first | refine blk_drewN ?_ _ | refine blk_drew ?_ | refine blk_alloc ?_ _)); refine blk_far ?_ NB418_419.out _; (with_reducible repeat (first | refine blk_drewN ?_ _ | refine blk_drew ?_ | refine blk_alloc ?_ _)); refine blk_far ?_ NB418_419.out _; (with_reducible repeat (first | refine blk_drewN ?_ _ | refine blk_drew ?_ | refine blk_alloc ?_ _)); exact BK418.out) hb); replace BK419 := Aside0.mk (blk_below (g := gb419) (o := .cells #[.int .u64 t420, .int .u64 t421] 53 (0, 0)) (by (with_reducible repeat (first | refine blk_drewN ?_ _ | refine blk_drew ?_ | refine blk_alloc ?_ _)); refine blk_put (cs := #[.int .u64 t420, .int .u64 a1_1]) ?_ 1 _ rfl; (with_reducible repeat (first | refine blk_drewN ?_ _ | refine blk_drew ?_ | refine blk_alloc ?_ _)); refine blk_put (cs := #[.int .u64 a1_0, .int .u64 a1_1]) ?_ 0 _ rfl; (with_reducible repeat (first | refine blk_drewN ?_ _ | refine blk_drew ?_ | refine blk_alloc ?_ _)); exact BK419.out) hb); replace HB := Aside0.mk (bS hb); (try clear hb); (try clear hb2); (try clear hk); (try clear hi)) | ((with_reducible refine gate_dst (N := 13) rfl ?_); refine box_event ?hg (N := 13) ?hd (cs := #[.int .i64 0, .int .u64 0]) (t := 24) ?hr ?_; (case hd => rfl); (case hg => rfl); (case hr => first | (go_simp; done) | (go_simp; rfl)); intro gb426 hg w28 hbox hb; have nn_ := bT hb hg; have bgb416_ := bN BK416 hb hg; have bgb417_ := bN BK417 hb hg; have bgb418_ := bN BK418 hb hg; have bgb419_ := bN BK419 hb hg; have BK426 := Aside0.mk (hbox); have GW426 := Aside0.mk nn_.2; have GE426 := GW426; have NB416_426 := Aside0.mk bgb416_.2.1; have NB426_416 := Aside0.mk bgb416_.2.2; have NB417_426 := Aside0.mk bgb417_.2.1; have NB426_417 := Aside0.mk bgb417_.2.2; have NB418_426 := Aside0.mk bgb418_.2.1; have NB426_418 := Aside0.mk bgb418_.2.2; have NB419_426 := Aside0.mk bgb419_.2.1; have NB426_419 := Aside0.mk bgb419_.2.2; replace BK416 := Aside0.mk bgb416_.1; replace BK417 := Aside0.mk bgb417_.1; replace BK418 := Aside0.mk bgb418_.1; replace BK419 := Aside0.mk bgb419_.1; replace HB := Aside0.mk nn_.1; clear nn_ bgb416_ bgb417_ bgb418_ bgb419_; clear hb hbox hg; have hnb29 := NB426_416.out; have hnc29 := NB416_426.out; have hnb30 := NB426_417.out; have hnc30 := NB417_426.out; have hnb31 := NB426_418.out; have hnc31 := NB418_426.out; have hnb32 := NB426_419.out; have hnc32 := NB419_426.out; have hcz33_0 : w28.cell? ⟨gb426, 0, none⟩ = some (.int .i64 0) := (blk_cell BK426.out 0).trans rfl; have hcz33_1 : w28.cell? ⟨gb426, 1, none⟩ = some (.int .u64 0) := (blk_cell BK426.out 1).trans rfl; have hfz33_0 := blk_frozen BK426.out 0; have hfz33_1 := blk_frozen BK426.out 1; have hcz34_0 : w28.cell? ⟨gb418, 0, none⟩ = some (.int .i64 0) := (blk_cell BK418.out 0).trans rfl; have hcz34_1 : w28.cell? ⟨gb418, 1, none⟩ = some (.int .u64 0) := (blk_cell BK418.out 1).trans rfl; have hfz34_0 := blk_frozen BK418.out 0; have hfz34_1 := blk_frozen BK418.out 1))
        refine bodyPost_ret (results_ct rfl _ _ gb418 24 #[.int .i64 t423, .int .u64 t424] (0, 0) _ rfl (by (with_reducible repeat (first | refine blk_drewN ?_ _ | refine blk_drew ?_ | refine blk_alloc ?_ _)); refine blk_put (cs := #[.int .i64 t423, .int .u64 0]) ?_ 1 _ rfl; (with_reducible repeat (first | refine blk_drewN ?_ _ | refine blk_drew ?_ | refine blk_alloc ?_ _)); refine blk_put (cs := #[.int .i64 0, .int .u64 0]) ?_ 0 _ rfl; (with_reducible repeat (first | refine blk_drewN ?_ _ | refine blk_drew ?_ | refine blk_alloc ?_ _)); refine blk_far ?_ NB418_426.out _; (with_reducible repeat (first | refine blk_drewN ?_ _ | refine blk_drew ?_ | refine blk_alloc ?_ _)); refine blk_far ?_ NB418_426.out _; (with_reducible repeat (first | refine blk_drewN ?_ _ | refine blk_drew ?_ | refine blk_alloc ?_ _)); exact BK418.out) Try.underlying24 rfl (by kernel_rfl)) rfl ?_
        exact ⟨by first | rfl | (simp [errW_none, errW_some] <;> rfl) | (simp [*, errW_none, errW_some] <;> rfl), bE⟩
      · replace c9 := Bool.eq_false_iff.mpr c9
        subst c9
        have H1 : (some (0, 0, 6)) = some (r1, r2, r3) := by rw [if_neg (show ¬ (false = true) by decide)] at H; exact H
        clear H
        have H := H1
        clear H1
        simp only [Option.some.injEq, Prod.mk.injEq] at H
        obtain ⟨rfl, rfl, rfl⟩ := H
        go_enter Try.func46, Try.ntmps46
        try go_wp2_with (first | ((with_reducible refine gate_dst (N := 5) rfl ?_); refine box_event ?hg (N := 5) ?hd (cs := #[.int .u64 a1_0, .int .u64 a1_1]) (t := 53) ?hr ?_; (case hd => rfl); (case hg => rfl); (case hr => first | (go_simp; done) | (go_simp; rfl)); intro gb416 hg w35 hbox hb; have nn_ := bT hb hg; have BK416 := Aside0.mk (hbox); have GW416 := Aside0.mk nn_.2; have GE416 := GW416; replace HB := Aside0.mk nn_.1; clear nn_; clear hb hbox hg) | ((with_reducible refine gate_dst (N := 7) rfl ?_); refine box_event ?hg (N := 7) ?hd (cs := #[.int .u64 a3_0, .int .u64 a3_1]) (t := 53) ?hr ?_; (case hd => rfl); (case hg => rfl); (case hr => first | (go_simp; done) | (go_simp; rfl)); intro gb417 hg w36 hbox hb; have nn_ := bT hb hg; have bgb416_ := bN BK416 hb hg; have BK417 := Aside0.mk (hbox); have GW417 := Aside0.mk nn_.2; have GE417 := GW417; have NB416_417 := Aside0.mk bgb416_.2.1; have NB417_416 := Aside0.mk bgb416_.2.2; replace BK416 := Aside0.mk bgb416_.1; replace HB := Aside0.mk nn_.1; clear nn_ bgb416_; clear hb hbox hg) | ((with_reducible refine gate_dst (N := 8) rfl ?_); refine box_event ?hg (N := 8) ?hd (cs := #[.int .i64 0, .int .u64 0]) (t := 24) ?hr ?_; (case hd => rfl); (case hg => rfl); (case hr => first | (go_simp; done) | (go_simp; rfl)); intro gb418 hg w37 hbox hb; have nn_ := bT hb hg; have bgb416_ := bN BK416 hb hg; have bgb417_ := bN BK417 hb hg; have BK418 := Aside0.mk (hbox); have GW418 := Aside0.mk nn_.2; have GE418 := GW418; have NB416_418 := Aside0.mk bgb416_.2.1; have NB418_416 := Aside0.mk bgb416_.2.2; have NB417_418 := Aside0.mk bgb417_.2.1; have NB418_417 := Aside0.mk bgb417_.2.2; replace BK416 := Aside0.mk bgb416_.1; replace BK417 := Aside0.mk bgb417_.1; replace HB := Aside0.mk nn_.1; clear nn_ bgb416_ bgb417_; clear hb hbox hg))
        have n0_ := Aside0.mk (blk_drew BK416.out)
        have n1_ := Aside0.mk (blk_drew BK417.out)
        have n2_ := Aside0.mk (blk_drew BK418.out)
        have n3_ := Aside0.mk (below_drew1 HB.out)
        clear BK416
        clear BK417
        clear BK418
        clear HB
        have BK416 := n0_
        have BK417 := n1_
        have BK418 := n2_
        have HB := n3_
        clear n0_ n1_ n2_ n3_
        refine start_ (n := 6) (S := fun w' => w'.cell? ⟨gb416, 0, none⟩ = some (.int .u64 a1_0) ∧ w'.cell? ⟨gb416, 1, none⟩ = some (.int .u64 a1_1)) (ds := []) #[false, false, false, false, false, false] (by kernel_rfl) rfl rfl ⟨(blk_cell BK416.out 0).trans rfl, (blk_cell BK416.out 1).trans rfl⟩ (fun hHeld => ?_)
        generalize w37.drew = w38 at BK416 BK417 BK418 HB hHeld ⊢
        refine pure_ (i := 0) (N := some 15) (v := ?_) (a' := ?_) #[true, false, false, false, false, false] rfl rfl (by kernel_rfl) (fun _ _ _ h => h) (Or.inl ⟨by rfl, ?_⟩) ?_ ?_
        rotate_left
        · intro w'
          go_simp
          with_reducible rfl
        rotate_left
        · simp only [Act.put, List.setIfInBounds_toArray, List.set_cons_zero, List.set_cons_succ, i64_w, i32_w]
          rfl
        refine take_ (i := 1) (N := some 16) (v := ?_) (a' := ?_) #[true, true, false, false, false, false] rfl rfl (by kernel_rfl) (fun _ _ _ h => h) (Or.inl ⟨by rfl, ?_⟩) hHeld ?_ ?_
        rotate_left
        · rintro w' ⟨s0, s1⟩
          go_simp
          with_reducible rfl
        rotate_left
        · simp only [Act.put, List.setIfInBounds_toArray, List.set_cons_zero, List.set_cons_succ, i64_w, i32_w]
          rfl
        refine one_ (i := 2) (N := some 11) #[true, true, true, false, false, false] rfl rfl (by kernel_rfl) (by decide) (fun K hK => ?_)
        refine box_step ?hg (N := 11) ?hd (cs := #[.int .u64 0, .int .u64 0]) (t := 53) ?hr ?_; (case hd => rfl); (case hg => rfl); (case hr => first | (go_simp; done) | (go_simp; rfl))
        intro gb419 hg w39 hbox hb
        have n0_ := Aside0.mk (bK BK416 hb)
        have n1_ := Aside0.mk (bK BK417 hb)
        have n2_ := Aside0.mk (bK BK418 hb)
        have n3_ := Aside0.mk (bS hb)
        have n4_ := Aside0.mk (hbox)
        have n5_ := Aside0.mk ((by rw [hg]; exact (below_size (bE)) : w.heap.size ≤ gb419))
        have n6_ := Aside0.mk ((by rw [hg]; exact (below_size (bE)) : w.heap.size ≤ gb419))
        have n7_ := Aside0.mk ((by rw [hg]; exact Nat.ne_of_lt (blk_lt (g := gb416) (o := .cells #[.int .u64 a1_0, .int .u64 a1_1] 53 (0, 0)) (by (with_reducible repeat (first | refine blk_drewN ?_ _ | refine blk_drew ?_ | refine blk_alloc ?_ _)); exact BK416.out)) : gb416 ≠ gb419))
        have n8_ := Aside0.mk ((by rw [hg]; exact Nat.ne_of_gt (blk_lt (g := gb416) (o := .cells #[.int .u64 a1_0, .int .u64 a1_1] 53 (0, 0)) (by (with_reducible repeat (first | refine blk_drewN ?_ _ | refine blk_drew ?_ | refine blk_alloc ?_ _)); exact BK416.out)) : gb419 ≠ gb416))
        have n9_ := Aside0.mk ((by rw [hg]; exact Nat.ne_of_lt (blk_lt (g := gb417) (o := .cells #[.int .u64 a3_0, .int .u64 a3_1] 53 (0, 0)) (by (with_reducible repeat (first | refine blk_drewN ?_ _ | refine blk_drew ?_ | refine blk_alloc ?_ _)); exact BK417.out)) : gb417 ≠ gb419))
        have n10_ := Aside0.mk ((by rw [hg]; exact Nat.ne_of_gt (blk_lt (g := gb417) (o := .cells #[.int .u64 a3_0, .int .u64 a3_1] 53 (0, 0)) (by (with_reducible repeat (first | refine blk_drewN ?_ _ | refine blk_drew ?_ | refine blk_alloc ?_ _)); exact BK417.out)) : gb419 ≠ gb417))
        have n11_ := Aside0.mk ((by rw [hg]; exact Nat.ne_of_lt (blk_lt (g := gb418) (o := .cells #[.int .i64 0, .int .u64 0] 24 (0, 0)) (by (with_reducible repeat (first | refine blk_drewN ?_ _ | refine blk_drew ?_ | refine blk_alloc ?_ _)); exact BK418.out)) : gb418 ≠ gb419))
        have n12_ := Aside0.mk ((by rw [hg]; exact Nat.ne_of_gt (blk_lt (g := gb418) (o := .cells #[.int .i64 0, .int .u64 0] 24 (0, 0)) (by (with_reducible repeat (first | refine blk_drewN ?_ _ | refine blk_drew ?_ | refine blk_alloc ?_ _)); exact BK418.out)) : gb419 ≠ gb418))
        clear BK416
        clear BK417
        clear BK418
        clear HB
        have BK416 := n0_
        have BK417 := n1_
        have BK418 := n2_
        have HB := n3_
        have BK419 := n4_
        have GW419 := n5_
        have GE419 := n6_
        have NB416_419 := n7_
        have NB419_416 := n8_
        have NB417_419 := n9_
        have NB419_417 := n10_
        have NB418_419 := n11_
        have NB419_418 := n12_
        clear n0_ n1_ n2_ n3_ n4_ n5_ n6_ n7_ n8_ n9_ n10_ n11_ n12_
        clear hb hbox hg
        refine hK.out _ _ ⟨(blk_cell BK416.out 0).trans rfl, (blk_cell BK416.out 1).trans rfl⟩ (fun hHeld => ?_)
        clear hK K
        refine norm_ (a' := ?_) ?_ ?_
        rotate_left
        · show Act.put _ (some 11) _ = _
          simp only [Act.put, List.setIfInBounds_toArray, List.set_cons_zero, List.set_cons_succ, i64_w, i32_w]
          rfl
        refine pure_ (i := 3) (N := some 10) (v := ?_) (a' := ?_) #[true, true, true, true, false, false] rfl rfl (by kernel_rfl) (fun _ _ _ h => h) (Or.inl ⟨by rfl, ?_⟩) ?_ ?_
        rotate_left
        · intro w'
          go_simp
          with_reducible rfl
        rotate_left
        · simp only [Act.put, List.setIfInBounds_toArray, List.set_cons_zero, List.set_cons_succ, i64_w, i32_w]
          rfl
        refine one_ (i := 4) (N := none) #[true, true, true, true, true, false] rfl rfl (by kernel_rfl) (by decide) (fun K hK => ?_)
        have hs40 : w39.cell? ⟨gb419, 0, none⟩ = some (.int .u64 0) := (blk_cell BK419.out 0).trans rfl
        have hfs40 := blk_frozen BK419.out 0
        have hns40_0 := NB416_419.out
        have hns40_1 := NB417_419.out
        have hns40_2 := NB418_419.out
        have hms40_0 := NB419_416.out
        have hms40_1 := NB419_417.out
        have hms40_2 := NB419_418.out
        have hs41 : w39.cell? ⟨gb419, 1, none⟩ = some (.int .u64 0) := (blk_cell BK419.out 1).trans rfl
        have hfs41 := blk_frozen BK419.out 1
        have hns41_0 := NB416_419.out
        have hns41_1 := NB417_419.out
        have hns41_2 := NB418_419.out
        have hms41_0 := NB419_416.out
        have hms41_1 := NB419_417.out
        have hms41_2 := NB419_418.out
        refine skip_ (w1 := ?_) (by rfl) rfl ?_ ?_
        rotate_left
        · go_simp
          rfl
        refine hK.out _ _ ⟨((cell_far (p := ⟨gb419, _, none⟩) NB416_419.out _).trans (((cell_far (p := ⟨gb419, _, none⟩) NB416_419.out _).trans (hHeld.1)))), ((cell_far (p := ⟨gb419, _, none⟩) NB416_419.out _).trans (((cell_far (p := ⟨gb419, _, none⟩) NB416_419.out _).trans (hHeld.2))))⟩ (fun hHeld => ?_)
        clear hK K
        refine pure_ (i := 5) (N := some 12) (v := ?_) (a' := ?_) #[true, true, true, true, true, true] rfl rfl (by kernel_rfl) (fun _ _ _ h => h) (Or.inl ⟨by rfl, ?_⟩) ?_ ?_
        rotate_left
        · intro w'
          go_simp
          with_reducible rfl
        rotate_left
        · simp only [Act.put, List.setIfInBounds_toArray, List.set_cons_zero, List.set_cons_succ, i64_w, i32_w]
          rfl
        refine done_ (by kernel_rfl) ?_
        have hnb42 := NB416_417.out
        have hnc42 := NB417_416.out
        have hnb43 := NB416_418.out
        have hnc43 := NB418_416.out
        have hnb44 := NB416_419.out
        have hnc44 := NB419_416.out
        have hcz45_0 : w39.cell? ⟨gb416, 0, none⟩ = some (.int .u64 a1_0) := (blk_cell BK416.out 0).trans rfl
        have hcz45_1 : w39.cell? ⟨gb416, 1, none⟩ = some (.int .u64 a1_1) := (blk_cell BK416.out 1).trans rfl
        have hfz45_0 := blk_frozen BK416.out 0
        have hfz45_1 := blk_frozen BK416.out 1
        have hnb46 := NB417_418.out
        have hnc46 := NB418_417.out
        have hnb47 := NB417_419.out
        have hnc47 := NB419_417.out
        have hcz48_0 : w39.cell? ⟨gb417, 0, none⟩ = some (.int .u64 a3_0) := (blk_cell BK417.out 0).trans rfl
        have hcz48_1 : w39.cell? ⟨gb417, 1, none⟩ = some (.int .u64 a3_1) := (blk_cell BK417.out 1).trans rfl
        have hfz48_0 := blk_frozen BK417.out 0
        have hfz48_1 := blk_frozen BK417.out 1
        try go_wp2_with (first | ((with_reducible refine gate_callee (f := 37) rfl ?_); refine goesL_ (some 27) rfl rfl Try.func37 (by kernel_rfl) rfl #[.agg #[.int .u64 a1_0, .int .u64 a1_1], .agg #[.int .u64 a3_0, .int .u64 a3_1]] rfl aG ?_; (with_reducible refine (corebankref01_plus.calls a1_0 a1_1 a3_0 a3_1 t420 t421 true _ A6.out).mono ?_); rintro e w49 ⟨rfl, hb⟩; refine ⟨_, rfl, ?_⟩; replace BK416 := Aside0.mk (blk_below (g := gb416) (o := .cells #[.int .u64 a1_0, .int .u64 a1_1] 53 (0, 0)) (by (with_reducible repeat (first | refine blk_drewN ?_ _ | refine blk_drew ?_ | refine blk_alloc ?_ _)); refine blk_far ?_ NB416_419.out _; (with_reducible repeat (first | refine blk_drewN ?_ _ | refine blk_drew ?_ | refine blk_alloc ?_ _)); refine blk_far ?_ NB416_419.out _; (with_reducible repeat (first | refine blk_drewN ?_ _ | refine blk_drew ?_ | refine blk_alloc ?_ _)); exact BK416.out) hb); replace BK417 := Aside0.mk (blk_below (g := gb417) (o := .cells #[.int .u64 a3_0, .int .u64 a3_1] 53 (0, 0)) (by (with_reducible repeat (first | refine blk_drewN ?_ _ | refine blk_drew ?_ | refine blk_alloc ?_ _)); refine blk_far ?_ NB417_419.out _; (with_reducible repeat (first | refine blk_drewN ?_ _ | refine blk_drew ?_ | refine blk_alloc ?_ _)); refine blk_far ?_ NB417_419.out _; (with_reducible repeat (first | refine blk_drewN ?_ _ | refine blk_drew ?_ | refine blk_alloc ?_ _)); exact BK417.out) hb); replace BK418 := Aside0.mk (blk_below (g := gb418) (o := .cells #[.int .i64 0, .int .u64 0] 24 (0, 0)) (by (with_reducible repeat (first | refine blk_drewN ?_ _ | refine blk_drew ?_ | refine blk_alloc ?_ _)); refine blk_far ?_ NB418_419.out _; (with_reducible repeat (first | refine blk_drewN ?_ _ | refine blk_drew ?_ | refine blk_alloc ?_ _)); refine blk_far ?_ NB418_419.out _; (with_reducible repeat (first | refine blk_drewN ?_ _ | refine blk_drew ?_ | refine blk_alloc ?_ _)); exact BK418.out) hb); replace BK419 := Aside0.mk (blk_below (g := gb419) (o := .cells #[.int .u64 a1_0, .int .u64 a1_1] 53 (0, 0)) (by (with_reducible repeat (first | refine blk_drewN ?_ _ | refine blk_drew ?_ | refine blk_alloc ?_ _)); refine blk_put (cs := #[.int .u64 a1_0, .int .u64 0]) ?_ 1 _ rfl; (with_reducible repeat (first | refine blk_drewN ?_ _ | refine blk_drew ?_ | refine blk_alloc ?_ _)); refine blk_put (cs := #[.int .u64 0, .int .u64 0]) ?_ 0 _ rfl; (with_reducible repeat (first | refine blk_drewN ?_ _ | refine blk_drew ?_ | refine blk_alloc ?_ _)); exact BK419.out) hb); replace HB := Aside0.mk (bS hb); (try clear hb); (try clear hb2); (try clear hk); (try clear hi); have hnb50 := NB419_418.out; have hnc50 := NB418_419.out; have hcz51_0 : w49.cell? ⟨gb419, 0, none⟩ = some (.int .u64 a1_0) := (blk_cell BK419.out 0).trans rfl; have hcz51_1 : w49.cell? ⟨gb419, 1, none⟩ = some (.int .u64 a1_1) := (blk_cell BK419.out 1).trans rfl; have hfz51_0 := blk_frozen BK419.out 0; have hfz51_1 := blk_frozen BK419.out 1) | ((with_reducible refine gate_callee (f := 38) rfl ?_); refine goesL_ (some 41) rfl rfl Try.func38 (by kernel_rfl) rfl #[.bool a0, .agg #[.int .u64 t420, .int .u64 t421]] rfl aG ?_; (with_reducible refine (corebankref01_Join.calls a0 t420 t421 t423 t424 false _ A7.out).mono ?_); rintro e w52 ⟨rfl, hb⟩; refine ⟨_, rfl, ?_⟩; replace BK416 := Aside0.mk (blk_below (g := gb416) (o := .cells #[.int .u64 a1_0, .int .u64 a1_1] 53 (0, 0)) (by (with_reducible repeat (first | refine blk_drewN ?_ _ | refine blk_drew ?_ | refine blk_alloc ?_ _)); refine blk_far ?_ NB416_419.out _; (with_reducible repeat (first | refine blk_drewN ?_ _ | refine blk_drew ?_ | refine blk_alloc ?_ _)); refine blk_far ?_ NB416_419.out _; (with_reducible repeat (first | refine blk_drewN ?_ _ | refine blk_drew ?_ | refine blk_alloc ?_ _)); exact BK416.out) hb); replace BK417 := Aside0.mk (blk_below (g := gb417) (o := .cells #[.int .u64 a3_0, .int .u64 a3_1] 53 (0, 0)) (by (with_reducible repeat (first | refine blk_drewN ?_ _ | refine blk_drew ?_ | refine blk_alloc ?_ _)); refine blk_far ?_ NB417_419.out _; (with_reducible repeat (first | refine blk_drewN ?_ _ | refine blk_drew ?_ | refine blk_alloc ?_ _)); refine blk_far ?_ NB417_419.out _; (with_reducible repeat (first | refine blk_drewN ?_ _ | refine blk_drew ?_ | refine blk_alloc ?_ _)); exact BK417.out) hb); replace BK418 := Aside0.mk (blk_below (g := gb418) (o := .cells #[.int .i64 0, .int .u64 0] 24 (0, 0)) (by (with_reducible repeat (first | refine blk_drewN ?_ _ | refine blk_drew ?_ | refine blk_alloc ?_ _)); refine blk_far ?_ NB418_419.out _; (with_reducible repeat (first | refine blk_drewN ?_ _ | refine blk_drew ?_ | refine blk_alloc ?_ _)); refine blk_far ?_ NB418_419.out _; (with_reducible repeat (first | refine blk_drewN ?_ _ | refine blk_drew ?_ | refine blk_alloc ?_ _)); exact BK418.out) hb); replace BK419 := Aside0.mk (blk_below (g := gb419) (o := .cells #[.int .u64 t420, .int .u64 t421] 53 (0, 0)) (by (with_reducible repeat (first | refine blk_drewN ?_ _ | refine blk_drew ?_ | refine blk_alloc ?_ _)); refine blk_put (cs := #[.int .u64 t420, .int .u64 a1_1]) ?_ 1 _ rfl; (with_reducible repeat (first | refine blk_drewN ?_ _ | refine blk_drew ?_ | refine blk_alloc ?_ _)); refine blk_put (cs := #[.int .u64 a1_0, .int .u64 a1_1]) ?_ 0 _ rfl; (with_reducible repeat (first | refine blk_drewN ?_ _ | refine blk_drew ?_ | refine blk_alloc ?_ _)); exact BK419.out) hb); replace HB := Aside0.mk (bS hb); (try clear hb); (try clear hb2); (try clear hk); (try clear hi)) | ((with_reducible refine gate_dst (N := 13) rfl ?_); refine box_event ?hg (N := 13) ?hd (cs := #[.int .i64 0, .int .u64 0]) (t := 24) ?hr ?_; (case hd => rfl); (case hg => rfl); (case hr => first | (go_simp; done) | (go_simp; rfl)); intro gb426 hg w53 hbox hb; have nn_ := bT hb hg; have bgb416_ := bN BK416 hb hg; have bgb417_ := bN BK417 hb hg; have bgb418_ := bN BK418 hb hg; have bgb419_ := bN BK419 hb hg; have BK426 := Aside0.mk (hbox); have GW426 := Aside0.mk nn_.2; have GE426 := GW426; have NB416_426 := Aside0.mk bgb416_.2.1; have NB426_416 := Aside0.mk bgb416_.2.2; have NB417_426 := Aside0.mk bgb417_.2.1; have NB426_417 := Aside0.mk bgb417_.2.2; have NB418_426 := Aside0.mk bgb418_.2.1; have NB426_418 := Aside0.mk bgb418_.2.2; have NB419_426 := Aside0.mk bgb419_.2.1; have NB426_419 := Aside0.mk bgb419_.2.2; replace BK416 := Aside0.mk bgb416_.1; replace BK417 := Aside0.mk bgb417_.1; replace BK418 := Aside0.mk bgb418_.1; replace BK419 := Aside0.mk bgb419_.1; replace HB := Aside0.mk nn_.1; clear nn_ bgb416_ bgb417_ bgb418_ bgb419_; clear hb hbox hg; have hnb54 := NB426_416.out; have hnc54 := NB416_426.out; have hnb55 := NB426_417.out; have hnc55 := NB417_426.out; have hnb56 := NB426_418.out; have hnc56 := NB418_426.out; have hnb57 := NB426_419.out; have hnc57 := NB419_426.out; have hcz58_0 : w53.cell? ⟨gb426, 0, none⟩ = some (.int .i64 0) := (blk_cell BK426.out 0).trans rfl; have hcz58_1 : w53.cell? ⟨gb426, 1, none⟩ = some (.int .u64 0) := (blk_cell BK426.out 1).trans rfl; have hfz58_0 := blk_frozen BK426.out 0; have hfz58_1 := blk_frozen BK426.out 1; have hcz59_0 : w53.cell? ⟨gb418, 0, none⟩ = some (.int .i64 0) := (blk_cell BK418.out 0).trans rfl; have hcz59_1 : w53.cell? ⟨gb418, 1, none⟩ = some (.int .u64 0) := (blk_cell BK418.out 1).trans rfl; have hfz59_0 := blk_frozen BK418.out 0; have hfz59_1 := blk_frozen BK418.out 1))
        refine bodyPost_ret (results_ct rfl _ _ gb418 24 #[.int .i64 0, .int .u64 0] (0, 0) _ rfl (by (with_reducible repeat (first | refine blk_drewN ?_ _ | refine blk_drew ?_ | refine blk_alloc ?_ _)); refine blk_put (cs := #[.int .i64 0, .int .u64 0]) ?_ 1 _ rfl; (with_reducible repeat (first | refine blk_drewN ?_ _ | refine blk_drew ?_ | refine blk_alloc ?_ _)); refine blk_put (cs := #[.int .i64 0, .int .u64 0]) ?_ 0 _ rfl; (with_reducible repeat (first | refine blk_drewN ?_ _ | refine blk_drew ?_ | refine blk_alloc ?_ _)); refine blk_far ?_ NB418_426.out _; (with_reducible repeat (first | refine blk_drewN ?_ _ | refine blk_drew ?_ | refine blk_alloc ?_ _)); refine blk_far ?_ NB418_426.out _; (with_reducible repeat (first | refine blk_drewN ?_ _ | refine blk_drew ?_ | refine blk_alloc ?_ _)); exact BK418.out) Try.underlying24 rfl (by kernel_rfl)) rfl ?_
        exact ⟨by first | rfl | (simp [errW_none, errW_some] <;> rfl) | (simp [*, errW_none, errW_some] <;> rfl), bE⟩
    · replace c8 := Bool.eq_false_iff.mpr c8
      subst c8
      have H1 : (some (0, 0, 6)) = some (r1, r2, r3) := by rw [if_neg (show ¬ (false = true) by decide)] at H; exact H
      clear H
      have H := H1
      clear H1
      simp only [Option.some.injEq, Prod.mk.injEq] at H
      obtain ⟨rfl, rfl, rfl⟩ := H
      go_enter Try.func46, Try.ntmps46
      try go_wp2_with (first | ((with_reducible refine gate_dst (N := 5) rfl ?_); refine box_event ?hg (N := 5) ?hd (cs := #[.int .u64 a1_0, .int .u64 a1_1]) (t := 53) ?hr ?_; (case hd => rfl); (case hg => rfl); (case hr => first | (go_simp; done) | (go_simp; rfl)); intro gb416 hg w60 hbox hb; have nn_ := bT hb hg; have BK416 := Aside0.mk (hbox); have GW416 := Aside0.mk nn_.2; have GE416 := GW416; replace HB := Aside0.mk nn_.1; clear nn_; clear hb hbox hg) | ((with_reducible refine gate_dst (N := 7) rfl ?_); refine box_event ?hg (N := 7) ?hd (cs := #[.int .u64 a3_0, .int .u64 a3_1]) (t := 53) ?hr ?_; (case hd => rfl); (case hg => rfl); (case hr => first | (go_simp; done) | (go_simp; rfl)); intro gb417 hg w61 hbox hb; have nn_ := bT hb hg; have bgb416_ := bN BK416 hb hg; have BK417 := Aside0.mk (hbox); have GW417 := Aside0.mk nn_.2; have GE417 := GW417; have NB416_417 := Aside0.mk bgb416_.2.1; have NB417_416 := Aside0.mk bgb416_.2.2; replace BK416 := Aside0.mk bgb416_.1; replace HB := Aside0.mk nn_.1; clear nn_ bgb416_; clear hb hbox hg) | ((with_reducible refine gate_dst (N := 8) rfl ?_); refine box_event ?hg (N := 8) ?hd (cs := #[.int .i64 0, .int .u64 0]) (t := 24) ?hr ?_; (case hd => rfl); (case hg => rfl); (case hr => first | (go_simp; done) | (go_simp; rfl)); intro gb418 hg w62 hbox hb; have nn_ := bT hb hg; have bgb416_ := bN BK416 hb hg; have bgb417_ := bN BK417 hb hg; have BK418 := Aside0.mk (hbox); have GW418 := Aside0.mk nn_.2; have GE418 := GW418; have NB416_418 := Aside0.mk bgb416_.2.1; have NB418_416 := Aside0.mk bgb416_.2.2; have NB417_418 := Aside0.mk bgb417_.2.1; have NB418_417 := Aside0.mk bgb417_.2.2; replace BK416 := Aside0.mk bgb416_.1; replace BK417 := Aside0.mk bgb417_.1; replace HB := Aside0.mk nn_.1; clear nn_ bgb416_ bgb417_; clear hb hbox hg))
      have n0_ := Aside0.mk (blk_drew BK416.out)
      have n1_ := Aside0.mk (blk_drew BK417.out)
      have n2_ := Aside0.mk (blk_drew BK418.out)
      have n3_ := Aside0.mk (below_drew1 HB.out)
      clear BK416
      clear BK417
      clear BK418
      clear HB
      have BK416 := n0_
      have BK417 := n1_
      have BK418 := n2_
      have HB := n3_
      clear n0_ n1_ n2_ n3_
      refine start_ (n := 6) (S := fun w' => w'.cell? ⟨gb416, 0, none⟩ = some (.int .u64 a1_0) ∧ w'.cell? ⟨gb416, 1, none⟩ = some (.int .u64 a1_1)) (ds := []) #[false, false, false, false, false, false] (by kernel_rfl) rfl rfl ⟨(blk_cell BK416.out 0).trans rfl, (blk_cell BK416.out 1).trans rfl⟩ (fun hHeld => ?_)
      generalize w62.drew = w63 at BK416 BK417 BK418 HB hHeld ⊢
      refine pure_ (i := 0) (N := some 15) (v := ?_) (a' := ?_) #[true, false, false, false, false, false] rfl rfl (by kernel_rfl) (fun _ _ _ h => h) (Or.inl ⟨by rfl, ?_⟩) ?_ ?_
      rotate_left
      · intro w'
        go_simp
        with_reducible rfl
      rotate_left
      · simp only [Act.put, List.setIfInBounds_toArray, List.set_cons_zero, List.set_cons_succ, i64_w, i32_w]
        rfl
      refine take_ (i := 1) (N := some 16) (v := ?_) (a' := ?_) #[true, true, false, false, false, false] rfl rfl (by kernel_rfl) (fun _ _ _ h => h) (Or.inl ⟨by rfl, ?_⟩) hHeld ?_ ?_
      rotate_left
      · rintro w' ⟨s0, s1⟩
        go_simp
        with_reducible rfl
      rotate_left
      · simp only [Act.put, List.setIfInBounds_toArray, List.set_cons_zero, List.set_cons_succ, i64_w, i32_w]
        rfl
      refine one_ (i := 2) (N := some 11) #[true, true, true, false, false, false] rfl rfl (by kernel_rfl) (by decide) (fun K hK => ?_)
      refine box_step ?hg (N := 11) ?hd (cs := #[.int .u64 0, .int .u64 0]) (t := 53) ?hr ?_; (case hd => rfl); (case hg => rfl); (case hr => first | (go_simp; done) | (go_simp; rfl))
      intro gb419 hg w64 hbox hb
      have n0_ := Aside0.mk (bK BK416 hb)
      have n1_ := Aside0.mk (bK BK417 hb)
      have n2_ := Aside0.mk (bK BK418 hb)
      have n3_ := Aside0.mk (bS hb)
      have n4_ := Aside0.mk (hbox)
      have n5_ := Aside0.mk ((by rw [hg]; exact (below_size (bE)) : w.heap.size ≤ gb419))
      have n6_ := Aside0.mk ((by rw [hg]; exact (below_size (bE)) : w.heap.size ≤ gb419))
      have n7_ := Aside0.mk ((by rw [hg]; exact Nat.ne_of_lt (blk_lt (g := gb416) (o := .cells #[.int .u64 a1_0, .int .u64 a1_1] 53 (0, 0)) (by (with_reducible repeat (first | refine blk_drewN ?_ _ | refine blk_drew ?_ | refine blk_alloc ?_ _)); exact BK416.out)) : gb416 ≠ gb419))
      have n8_ := Aside0.mk ((by rw [hg]; exact Nat.ne_of_gt (blk_lt (g := gb416) (o := .cells #[.int .u64 a1_0, .int .u64 a1_1] 53 (0, 0)) (by (with_reducible repeat (first | refine blk_drewN ?_ _ | refine blk_drew ?_ | refine blk_alloc ?_ _)); exact BK416.out)) : gb419 ≠ gb416))
      have n9_ := Aside0.mk ((by rw [hg]; exact Nat.ne_of_lt (blk_lt (g := gb417) (o := .cells #[.int .u64 a3_0, .int .u64 a3_1] 53 (0, 0)) (by (with_reducible repeat (first | refine blk_drewN ?_ _ | refine blk_drew ?_ | refine blk_alloc ?_ _)); exact BK417.out)) : gb417 ≠ gb419))
      have n10_ := Aside0.mk ((by rw [hg]; exact Nat.ne_of_gt (blk_lt (g := gb417) (o := .cells #[.int .u64 a3_0, .int .u64 a3_1] 53 (0, 0)) (by (with_reducible repeat (first | refine blk_drewN ?_ _ | refine blk_drew ?_ | refine blk_alloc ?_ _)); exact BK417.out)) : gb419 ≠ gb417))
      have n11_ := Aside0.mk ((by rw [hg]; exact Nat.ne_of_lt (blk_lt (g := gb418) (o := .cells #[.int .i64 0, .int .u64 0] 24 (0, 0)) (by (with_reducible repeat (first | refine blk_drewN ?_ _ | refine blk_drew ?_ | refine blk_alloc ?_ _)); exact BK418.out)) : gb418 ≠ gb419))
      have n12_ := Aside0.mk ((by rw [hg]; exact Nat.ne_of_gt (blk_lt (g := gb418) (o := .cells #[.int .i64 0, .int .u64 0] 24 (0, 0)) (by (with_reducible repeat (first | refine blk_drewN ?_ _ | refine blk_drew ?_ | refine blk_alloc ?_ _)); exact BK418.out)) : gb419 ≠ gb418))
      clear BK416
      clear BK417
      clear BK418
      clear HB
      have BK416 := n0_
      have BK417 := n1_
      have BK418 := n2_
      have HB := n3_
      have BK419 := n4_
      have GW419 := n5_
      have GE419 := n6_
      have NB416_419 := n7_
      have NB419_416 := n8_
      have NB417_419 := n9_
      have NB419_417 := n10_
      have NB418_419 := n11_
      have NB419_418 := n12_
      clear n0_ n1_ n2_ n3_ n4_ n5_ n6_ n7_ n8_ n9_ n10_ n11_ n12_
      clear hb hbox hg
      refine hK.out _ _ ⟨(blk_cell BK416.out 0).trans rfl, (blk_cell BK416.out 1).trans rfl⟩ (fun hHeld => ?_)
      clear hK K
      refine norm_ (a' := ?_) ?_ ?_
      rotate_left
      · show Act.put _ (some 11) _ = _
        simp only [Act.put, List.setIfInBounds_toArray, List.set_cons_zero, List.set_cons_succ, i64_w, i32_w]
        rfl
      refine pure_ (i := 3) (N := some 10) (v := ?_) (a' := ?_) #[true, true, true, true, false, false] rfl rfl (by kernel_rfl) (fun _ _ _ h => h) (Or.inl ⟨by rfl, ?_⟩) ?_ ?_
      rotate_left
      · intro w'
        go_simp
        with_reducible rfl
      rotate_left
      · simp only [Act.put, List.setIfInBounds_toArray, List.set_cons_zero, List.set_cons_succ, i64_w, i32_w]
        rfl
      refine one_ (i := 4) (N := none) #[true, true, true, true, true, false] rfl rfl (by kernel_rfl) (by decide) (fun K hK => ?_)
      have hs65 : w64.cell? ⟨gb419, 0, none⟩ = some (.int .u64 0) := (blk_cell BK419.out 0).trans rfl
      have hfs65 := blk_frozen BK419.out 0
      have hns65_0 := NB416_419.out
      have hns65_1 := NB417_419.out
      have hns65_2 := NB418_419.out
      have hms65_0 := NB419_416.out
      have hms65_1 := NB419_417.out
      have hms65_2 := NB419_418.out
      have hs66 : w64.cell? ⟨gb419, 1, none⟩ = some (.int .u64 0) := (blk_cell BK419.out 1).trans rfl
      have hfs66 := blk_frozen BK419.out 1
      have hns66_0 := NB416_419.out
      have hns66_1 := NB417_419.out
      have hns66_2 := NB418_419.out
      have hms66_0 := NB419_416.out
      have hms66_1 := NB419_417.out
      have hms66_2 := NB419_418.out
      refine skip_ (w1 := ?_) (by rfl) rfl ?_ ?_
      rotate_left
      · go_simp
        rfl
      refine hK.out _ _ ⟨((cell_far (p := ⟨gb419, _, none⟩) NB416_419.out _).trans (((cell_far (p := ⟨gb419, _, none⟩) NB416_419.out _).trans (hHeld.1)))), ((cell_far (p := ⟨gb419, _, none⟩) NB416_419.out _).trans (((cell_far (p := ⟨gb419, _, none⟩) NB416_419.out _).trans (hHeld.2))))⟩ (fun hHeld => ?_)
      clear hK K
      refine pure_ (i := 5) (N := some 12) (v := ?_) (a' := ?_) #[true, true, true, true, true, true] rfl rfl (by kernel_rfl) (fun _ _ _ h => h) (Or.inl ⟨by rfl, ?_⟩) ?_ ?_
      rotate_left
      · intro w'
        go_simp
        with_reducible rfl
      rotate_left
      · simp only [Act.put, List.setIfInBounds_toArray, List.set_cons_zero, List.set_cons_succ, i64_w, i32_w]
        rfl
      refine done_ (by kernel_rfl) ?_
      have hnb67 := NB416_417.out
      have hnc67 := NB417_416.out
      have hnb68 := NB416_418.out
      have hnc68 := NB418_416.out
      have hnb69 := NB416_419.out
      have hnc69 := NB419_416.out
      have hcz70_0 : w64.cell? ⟨gb416, 0, none⟩ = some (.int .u64 a1_0) := (blk_cell BK416.out 0).trans rfl
      have hcz70_1 : w64.cell? ⟨gb416, 1, none⟩ = some (.int .u64 a1_1) := (blk_cell BK416.out 1).trans rfl
      have hfz70_0 := blk_frozen BK416.out 0
      have hfz70_1 := blk_frozen BK416.out 1
      have hnb71 := NB417_418.out
      have hnc71 := NB418_417.out
      have hnb72 := NB417_419.out
      have hnc72 := NB419_417.out
      have hcz73_0 : w64.cell? ⟨gb417, 0, none⟩ = some (.int .u64 a3_0) := (blk_cell BK417.out 0).trans rfl
      have hcz73_1 : w64.cell? ⟨gb417, 1, none⟩ = some (.int .u64 a3_1) := (blk_cell BK417.out 1).trans rfl
      have hfz73_0 := blk_frozen BK417.out 0
      have hfz73_1 := blk_frozen BK417.out 1
      try go_wp2_with (first | ((with_reducible refine gate_callee (f := 37) rfl ?_); refine goesL_ (some 27) rfl rfl Try.func37 (by kernel_rfl) rfl #[.agg #[.int .u64 a1_0, .int .u64 a1_1], .agg #[.int .u64 a3_0, .int .u64 a3_1]] rfl aG ?_; (with_reducible refine (corebankref01_plus.calls a1_0 a1_1 a3_0 a3_1 t420 t421 false _ A6.out).mono ?_); rintro e w74 ⟨rfl, hb⟩; refine ⟨_, rfl, ?_⟩; replace BK416 := Aside0.mk (blk_below (g := gb416) (o := .cells #[.int .u64 a1_0, .int .u64 a1_1] 53 (0, 0)) (by (with_reducible repeat (first | refine blk_drewN ?_ _ | refine blk_drew ?_ | refine blk_alloc ?_ _)); refine blk_far ?_ NB416_419.out _; (with_reducible repeat (first | refine blk_drewN ?_ _ | refine blk_drew ?_ | refine blk_alloc ?_ _)); refine blk_far ?_ NB416_419.out _; (with_reducible repeat (first | refine blk_drewN ?_ _ | refine blk_drew ?_ | refine blk_alloc ?_ _)); exact BK416.out) hb); replace BK417 := Aside0.mk (blk_below (g := gb417) (o := .cells #[.int .u64 a3_0, .int .u64 a3_1] 53 (0, 0)) (by (with_reducible repeat (first | refine blk_drewN ?_ _ | refine blk_drew ?_ | refine blk_alloc ?_ _)); refine blk_far ?_ NB417_419.out _; (with_reducible repeat (first | refine blk_drewN ?_ _ | refine blk_drew ?_ | refine blk_alloc ?_ _)); refine blk_far ?_ NB417_419.out _; (with_reducible repeat (first | refine blk_drewN ?_ _ | refine blk_drew ?_ | refine blk_alloc ?_ _)); exact BK417.out) hb); replace BK418 := Aside0.mk (blk_below (g := gb418) (o := .cells #[.int .i64 0, .int .u64 0] 24 (0, 0)) (by (with_reducible repeat (first | refine blk_drewN ?_ _ | refine blk_drew ?_ | refine blk_alloc ?_ _)); refine blk_far ?_ NB418_419.out _; (with_reducible repeat (first | refine blk_drewN ?_ _ | refine blk_drew ?_ | refine blk_alloc ?_ _)); refine blk_far ?_ NB418_419.out _; (with_reducible repeat (first | refine blk_drewN ?_ _ | refine blk_drew ?_ | refine blk_alloc ?_ _)); exact BK418.out) hb); replace BK419 := Aside0.mk (blk_below (g := gb419) (o := .cells #[.int .u64 a1_0, .int .u64 a1_1] 53 (0, 0)) (by (with_reducible repeat (first | refine blk_drewN ?_ _ | refine blk_drew ?_ | refine blk_alloc ?_ _)); refine blk_put (cs := #[.int .u64 a1_0, .int .u64 0]) ?_ 1 _ rfl; (with_reducible repeat (first | refine blk_drewN ?_ _ | refine blk_drew ?_ | refine blk_alloc ?_ _)); refine blk_put (cs := #[.int .u64 0, .int .u64 0]) ?_ 0 _ rfl; (with_reducible repeat (first | refine blk_drewN ?_ _ | refine blk_drew ?_ | refine blk_alloc ?_ _)); exact BK419.out) hb); replace HB := Aside0.mk (bS hb); (try clear hb); (try clear hb2); (try clear hk); (try clear hi); have hnb75 := NB419_418.out; have hnc75 := NB418_419.out; have hcz76_0 : w74.cell? ⟨gb419, 0, none⟩ = some (.int .u64 a1_0) := (blk_cell BK419.out 0).trans rfl; have hcz76_1 : w74.cell? ⟨gb419, 1, none⟩ = some (.int .u64 a1_1) := (blk_cell BK419.out 1).trans rfl; have hfz76_0 := blk_frozen BK419.out 0; have hfz76_1 := blk_frozen BK419.out 1) | ((with_reducible refine gate_callee (f := 38) rfl ?_); refine goesL_ (some 41) rfl rfl Try.func38 (by kernel_rfl) rfl #[.bool a0, .agg #[.int .u64 t420, .int .u64 t421]] rfl aG ?_; (with_reducible refine (corebankref01_Join.calls a0 t420 t421 t423 t424 t425 _ A7.out).mono ?_); rintro e w77 ⟨rfl, hb⟩; refine ⟨_, rfl, ?_⟩; replace BK416 := Aside0.mk (blk_below (g := gb416) (o := .cells #[.int .u64 a1_0, .int .u64 a1_1] 53 (0, 0)) (by (with_reducible repeat (first | refine blk_drewN ?_ _ | refine blk_drew ?_ | refine blk_alloc ?_ _)); refine blk_far ?_ NB416_419.out _; (with_reducible repeat (first | refine blk_drewN ?_ _ | refine blk_drew ?_ | refine blk_alloc ?_ _)); refine blk_far ?_ NB416_419.out _; (with_reducible repeat (first | refine blk_drewN ?_ _ | refine blk_drew ?_ | refine blk_alloc ?_ _)); exact BK416.out) hb); replace BK417 := Aside0.mk (blk_below (g := gb417) (o := .cells #[.int .u64 a3_0, .int .u64 a3_1] 53 (0, 0)) (by (with_reducible repeat (first | refine blk_drewN ?_ _ | refine blk_drew ?_ | refine blk_alloc ?_ _)); refine blk_far ?_ NB417_419.out _; (with_reducible repeat (first | refine blk_drewN ?_ _ | refine blk_drew ?_ | refine blk_alloc ?_ _)); refine blk_far ?_ NB417_419.out _; (with_reducible repeat (first | refine blk_drewN ?_ _ | refine blk_drew ?_ | refine blk_alloc ?_ _)); exact BK417.out) hb); replace BK418 := Aside0.mk (blk_below (g := gb418) (o := .cells #[.int .i64 0, .int .u64 0] 24 (0, 0)) (by (with_reducible repeat (first | refine blk_drewN ?_ _ | refine blk_drew ?_ | refine blk_alloc ?_ _)); refine blk_far ?_ NB418_419.out _; (with_reducible repeat (first | refine blk_drewN ?_ _ | refine blk_drew ?_ | refine blk_alloc ?_ _)); refine blk_far ?_ NB418_419.out _; (with_reducible repeat (first | refine blk_drewN ?_ _ | refine blk_drew ?_ | refine blk_alloc ?_ _)); exact BK418.out) hb); replace BK419 := Aside0.mk (blk_below (g := gb419) (o := .cells #[.int .u64 t420, .int .u64 t421] 53 (0, 0)) (by (with_reducible repeat (first | refine blk_drewN ?_ _ | refine blk_drew ?_ | refine blk_alloc ?_ _)); refine blk_put (cs := #[.int .u64 t420, .int .u64 a1_1]) ?_ 1 _ rfl; (with_reducible repeat (first | refine blk_drewN ?_ _ | refine blk_drew ?_ | refine blk_alloc ?_ _)); refine blk_put (cs := #[.int .u64 a1_0, .int .u64 a1_1]) ?_ 0 _ rfl; (with_reducible repeat (first | refine blk_drewN ?_ _ | refine blk_drew ?_ | refine blk_alloc ?_ _)); exact BK419.out) hb); replace HB := Aside0.mk (bS hb); (try clear hb); (try clear hb2); (try clear hk); (try clear hi)) | ((with_reducible refine gate_dst (N := 13) rfl ?_); refine box_event ?hg (N := 13) ?hd (cs := #[.int .i64 0, .int .u64 0]) (t := 24) ?hr ?_; (case hd => rfl); (case hg => rfl); (case hr => first | (go_simp; done) | (go_simp; rfl)); intro gb426 hg w78 hbox hb; have nn_ := bT hb hg; have bgb416_ := bN BK416 hb hg; have bgb417_ := bN BK417 hb hg; have bgb418_ := bN BK418 hb hg; have bgb419_ := bN BK419 hb hg; have BK426 := Aside0.mk (hbox); have GW426 := Aside0.mk nn_.2; have GE426 := GW426; have NB416_426 := Aside0.mk bgb416_.2.1; have NB426_416 := Aside0.mk bgb416_.2.2; have NB417_426 := Aside0.mk bgb417_.2.1; have NB426_417 := Aside0.mk bgb417_.2.2; have NB418_426 := Aside0.mk bgb418_.2.1; have NB426_418 := Aside0.mk bgb418_.2.2; have NB419_426 := Aside0.mk bgb419_.2.1; have NB426_419 := Aside0.mk bgb419_.2.2; replace BK416 := Aside0.mk bgb416_.1; replace BK417 := Aside0.mk bgb417_.1; replace BK418 := Aside0.mk bgb418_.1; replace BK419 := Aside0.mk bgb419_.1; replace HB := Aside0.mk nn_.1; clear nn_ bgb416_ bgb417_ bgb418_ bgb419_; clear hb hbox hg; have hnb79 := NB426_416.out; have hnc79 := NB416_426.out; have hnb80 := NB426_417.out; have hnc80 := NB417_426.out; have hnb81 := NB426_418.out; have hnc81 := NB418_426.out; have hnb82 := NB426_419.out; have hnc82 := NB419_426.out; have hcz83_0 : w78.cell? ⟨gb426, 0, none⟩ = some (.int .i64 0) := (blk_cell BK426.out 0).trans rfl; have hcz83_1 : w78.cell? ⟨gb426, 1, none⟩ = some (.int .u64 0) := (blk_cell BK426.out 1).trans rfl; have hfz83_0 := blk_frozen BK426.out 0; have hfz83_1 := blk_frozen BK426.out 1; have hcz84_0 : w78.cell? ⟨gb418, 0, none⟩ = some (.int .i64 0) := (blk_cell BK418.out 0).trans rfl; have hcz84_1 : w78.cell? ⟨gb418, 1, none⟩ = some (.int .u64 0) := (blk_cell BK418.out 1).trans rfl; have hfz84_0 := blk_frozen BK418.out 0; have hfz84_1 := blk_frozen BK418.out 1))
      refine bodyPost_ret (results_ct rfl _ _ gb418 24 #[.int .i64 0, .int .u64 0] (0, 0) _ rfl (by (with_reducible repeat (first | refine blk_drewN ?_ _ | refine blk_drew ?_ | refine blk_alloc ?_ _)); refine blk_put (cs := #[.int .i64 0, .int .u64 0]) ?_ 1 _ rfl; (with_reducible repeat (first | refine blk_drewN ?_ _ | refine blk_drew ?_ | refine blk_alloc ?_ _)); refine blk_put (cs := #[.int .i64 0, .int .u64 0]) ?_ 0 _ rfl; (with_reducible repeat (first | refine blk_drewN ?_ _ | refine blk_drew ?_ | refine blk_alloc ?_ _)); refine blk_far ?_ NB418_426.out _; (with_reducible repeat (first | refine blk_drewN ?_ _ | refine blk_drew ?_ | refine blk_alloc ?_ _)); refine blk_far ?_ NB418_426.out _; (with_reducible repeat (first | refine blk_drewN ?_ _ | refine blk_drew ?_ | refine blk_alloc ?_ _)); exact BK418.out) Try.underlying24 rfl (by kernel_rfl)) rfl ?_
      exact ⟨by first | rfl | (simp [errW_none, errW_some] <;> rfl) | (simp [*, errW_none, errW_some] <;> rfl), bE⟩
  · rw [if_neg c5] at H
    have c5b0 : (a0 == a2) = false := by simpa using c5
    (try (have c5b1 : decide (a0 = a2) = false := by simpa using c5))
    (try (have c5b2 : (a0 == a2) = false := by simpa using c5))
    (try (have c5b3 : ¬ (a0 = a2) := by simpa using c5))
    clear c5
    replace H := Option.bind_eq_some_iff.mp H
    obtain ⟨t427, A850, H⟩ := H
    replace H : (if t427 = true then ((corebankref01_minus.f a3_0 a3_1 a1_0 a1_1).bind fun bt428 => ((corebankref01_Join.f a2 bt428.1 bt428.2).bind fun bt430 => (if bt430.2.2 = true then (some (bt430.1, bt430.2.1, 0)) else (some (0, 0, 6))))) else ((corebankref01_minus.f a1_0 a1_1 a3_0 a3_1).bind fun bt434 => ((corebankref01_Join.f a0 bt434.1 bt434.2).bind fun bt436 => (if bt436.2.2 = true then (some (bt436.1, bt436.2.1, 0)) else (some (0, 0, 6)))))) = some (r1, r2, r3) := H
    have A85 := Aside0.mk A850
    clear A850
    by_cases c86 : t427 = true
    · subst c86
      have H1 : ((corebankref01_minus.f a3_0 a3_1 a1_0 a1_1).bind fun bt428 => ((corebankref01_Join.f a2 bt428.1 bt428.2).bind fun bt430 => (if bt430.2.2 = true then (some (bt430.1, bt430.2.1, 0)) else (some (0, 0, 6))))) = some (r1, r2, r3) := by rw [if_pos rfl] at H; exact H
      clear H
      have H := H1
      clear H1
      replace H := Option.bind_eq_some_iff.mp H
      obtain ⟨⟨t428, t429⟩, A870, H⟩ := H
      replace H : ((corebankref01_Join.f a2 t428 t429).bind fun bt430 => (if bt430.2.2 = true then (some (bt430.1, bt430.2.1, 0)) else (some (0, 0, 6)))) = some (r1, r2, r3) := H
      have A87 := Aside0.mk A870
      clear A870
      replace H := Option.bind_eq_some_iff.mp H
      obtain ⟨⟨t430, t431, t432⟩, A880, H⟩ := H
      replace H : (if t432 = true then (some (t430, t431, 0)) else (some (0, 0, 6))) = some (r1, r2, r3) := H
      have A88 := Aside0.mk A880
      clear A880
      by_cases c89 : t432 = true
      · subst c89
        have H1 : (some (t430, t431, 0)) = some (r1, r2, r3) := by rw [if_pos rfl] at H; exact H
        clear H
        have H := H1
        clear H1
        simp only [Option.some.injEq, Prod.mk.injEq] at H
        obtain ⟨rfl, rfl, rfl⟩ := H
        go_enter Try.func46, Try.ntmps46
        try go_wp2_with (first | ((with_reducible refine gate_dst (N := 5) rfl ?_); refine box_event ?hg (N := 5) ?hd (cs := #[.int .u64 a1_0, .int .u64 a1_1]) (t := 53) ?hr ?_; (case hd => rfl); (case hg => rfl); (case hr => first | (go_simp; done) | (go_simp; rfl)); intro gb416 hg w90 hbox hb; have nn_ := bT hb hg; have BK416 := Aside0.mk (hbox); have GW416 := Aside0.mk nn_.2; have GE416 := GW416; replace HB := Aside0.mk nn_.1; clear nn_; clear hb hbox hg) | ((with_reducible refine gate_dst (N := 7) rfl ?_); refine box_event ?hg (N := 7) ?hd (cs := #[.int .u64 a3_0, .int .u64 a3_1]) (t := 53) ?hr ?_; (case hd => rfl); (case hg => rfl); (case hr => first | (go_simp; done) | (go_simp; rfl)); intro gb417 hg w91 hbox hb; have nn_ := bT hb hg; have bgb416_ := bN BK416 hb hg; have BK417 := Aside0.mk (hbox); have GW417 := Aside0.mk nn_.2; have GE417 := GW417; have NB416_417 := Aside0.mk bgb416_.2.1; have NB417_416 := Aside0.mk bgb416_.2.2; replace BK416 := Aside0.mk bgb416_.1; replace HB := Aside0.mk nn_.1; clear nn_ bgb416_; clear hb hbox hg) | ((with_reducible refine gate_dst (N := 8) rfl ?_); refine box_event ?hg (N := 8) ?hd (cs := #[.int .i64 0, .int .u64 0]) (t := 24) ?hr ?_; (case hd => rfl); (case hg => rfl); (case hr => first | (go_simp; done) | (go_simp; rfl)); intro gb418 hg w92 hbox hb; have nn_ := bT hb hg; have bgb416_ := bN BK416 hb hg; have bgb417_ := bN BK417 hb hg; have BK418 := Aside0.mk (hbox); have GW418 := Aside0.mk nn_.2; have GE418 := GW418; have NB416_418 := Aside0.mk bgb416_.2.1; have NB418_416 := Aside0.mk bgb416_.2.2; have NB417_418 := Aside0.mk bgb417_.2.1; have NB418_417 := Aside0.mk bgb417_.2.2; replace BK416 := Aside0.mk bgb416_.1; replace BK417 := Aside0.mk bgb417_.1; replace HB := Aside0.mk nn_.1; clear nn_ bgb416_ bgb417_; clear hb hbox hg))
        have n0_ := Aside0.mk (blk_drew BK416.out)
        have n1_ := Aside0.mk (blk_drew BK417.out)
        have n2_ := Aside0.mk (blk_drew BK418.out)
        have n3_ := Aside0.mk (below_drew1 HB.out)
        clear BK416
        clear BK417
        clear BK418
        clear HB
        have BK416 := n0_
        have BK417 := n1_
        have BK418 := n2_
        have HB := n3_
        clear n0_ n1_ n2_ n3_
        refine start_ (n := 6) (S := fun w' => w'.cell? ⟨gb416, 0, none⟩ = some (.int .u64 a1_0) ∧ w'.cell? ⟨gb416, 1, none⟩ = some (.int .u64 a1_1)) (ds := []) #[false, false, false, false, false, false] (by kernel_rfl) rfl rfl ⟨(blk_cell BK416.out 0).trans rfl, (blk_cell BK416.out 1).trans rfl⟩ (fun hHeld => ?_)
        generalize w92.drew = w93 at BK416 BK417 BK418 HB hHeld ⊢
        refine pure_ (i := 0) (N := some 15) (v := ?_) (a' := ?_) #[true, false, false, false, false, false] rfl rfl (by kernel_rfl) (fun _ _ _ h => h) (Or.inl ⟨by rfl, ?_⟩) ?_ ?_
        rotate_left
        · intro w'
          go_simp
          with_reducible rfl
        rotate_left
        · simp only [Act.put, List.setIfInBounds_toArray, List.set_cons_zero, List.set_cons_succ, i64_w, i32_w]
          rfl
        refine take_ (i := 1) (N := some 16) (v := ?_) (a' := ?_) #[true, true, false, false, false, false] rfl rfl (by kernel_rfl) (fun _ _ _ h => h) (Or.inl ⟨by rfl, ?_⟩) hHeld ?_ ?_
        rotate_left
        · rintro w' ⟨s0, s1⟩
          go_simp
          with_reducible rfl
        rotate_left
        · simp only [Act.put, List.setIfInBounds_toArray, List.set_cons_zero, List.set_cons_succ, i64_w, i32_w]
          rfl
        refine one_ (i := 2) (N := some 11) #[true, true, true, false, false, false] rfl rfl (by kernel_rfl) (by decide) (fun K hK => ?_)
        refine box_step ?hg (N := 11) ?hd (cs := #[.int .u64 0, .int .u64 0]) (t := 53) ?hr ?_; (case hd => rfl); (case hg => rfl); (case hr => first | (go_simp; done) | (go_simp; rfl))
        intro gb419 hg w94 hbox hb
        have n0_ := Aside0.mk (bK BK416 hb)
        have n1_ := Aside0.mk (bK BK417 hb)
        have n2_ := Aside0.mk (bK BK418 hb)
        have n3_ := Aside0.mk (bS hb)
        have n4_ := Aside0.mk (hbox)
        have n5_ := Aside0.mk ((by rw [hg]; exact (below_size (bE)) : w.heap.size ≤ gb419))
        have n6_ := Aside0.mk ((by rw [hg]; exact (below_size (bE)) : w.heap.size ≤ gb419))
        have n7_ := Aside0.mk ((by rw [hg]; exact Nat.ne_of_lt (blk_lt (g := gb416) (o := .cells #[.int .u64 a1_0, .int .u64 a1_1] 53 (0, 0)) (by (with_reducible repeat (first | refine blk_drewN ?_ _ | refine blk_drew ?_ | refine blk_alloc ?_ _)); exact BK416.out)) : gb416 ≠ gb419))
        have n8_ := Aside0.mk ((by rw [hg]; exact Nat.ne_of_gt (blk_lt (g := gb416) (o := .cells #[.int .u64 a1_0, .int .u64 a1_1] 53 (0, 0)) (by (with_reducible repeat (first | refine blk_drewN ?_ _ | refine blk_drew ?_ | refine blk_alloc ?_ _)); exact BK416.out)) : gb419 ≠ gb416))
        have n9_ := Aside0.mk ((by rw [hg]; exact Nat.ne_of_lt (blk_lt (g := gb417) (o := .cells #[.int .u64 a3_0, .int .u64 a3_1] 53 (0, 0)) (by (with_reducible repeat (first | refine blk_drewN ?_ _ | refine blk_drew ?_ | refine blk_alloc ?_ _)); exact BK417.out)) : gb417 ≠ gb419))
        have n10_ := Aside0.mk ((by rw [hg]; exact Nat.ne_of_gt (blk_lt (g := gb417) (o := .cells #[.int .u64 a3_0, .int .u64 a3_1] 53 (0, 0)) (by (with_reducible repeat (first | refine blk_drewN ?_ _ | refine blk_drew ?_ | refine blk_alloc ?_ _)); exact BK417.out)) : gb419 ≠ gb417))
        have n11_ := Aside0.mk ((by rw [hg]; exact Nat.ne_of_lt (blk_lt (g := gb418) (o := .cells #[.int .i64 0, .int .u64 0] 24 (0, 0)) (by (with_reducible repeat (first | refine blk_drewN ?_ _ | refine blk_drew ?_ | refine blk_alloc ?_ _)); exact BK418.out)) : gb418 ≠ gb419))
        have n12_ := Aside0.mk ((by rw [hg]; exact Nat.ne_of_gt (blk_lt (g := gb418) (o := .cells #[.int .i64 0, .int .u64 0] 24 (0, 0)) (by (with_reducible repeat (first | refine blk_drewN ?_ _ | refine blk_drew ?_ | refine blk_alloc ?_ _)); exact BK418.out)) : gb419 ≠ gb418))
        clear BK416
        clear BK417
        clear BK418
        clear HB
        have BK416 := n0_
        have BK417 := n1_
        have BK418 := n2_
        have HB := n3_
        have BK419 := n4_
        have GW419 := n5_
        have GE419 := n6_
        have NB416_419 := n7_
        have NB419_416 := n8_
        have NB417_419 := n9_
        have NB419_417 := n10_
        have NB418_419 := n11_
        have NB419_418 := n12_
        clear n0_ n1_ n2_ n3_ n4_ n5_ n6_ n7_ n8_ n9_ n10_ n11_ n12_
        clear hb hbox hg
        refine hK.out _ _ ⟨(blk_cell BK416.out 0).trans rfl, (blk_cell BK416.out 1).trans rfl⟩ (fun hHeld => ?_)
        clear hK K
        refine norm_ (a' := ?_) ?_ ?_
        rotate_left
        · show Act.put _ (some 11) _ = _
          simp only [Act.put, List.setIfInBounds_toArray, List.set_cons_zero, List.set_cons_succ, i64_w, i32_w]
          rfl
        refine pure_ (i := 3) (N := some 10) (v := ?_) (a' := ?_) #[true, true, true, true, false, false] rfl rfl (by kernel_rfl) (fun _ _ _ h => h) (Or.inl ⟨by rfl, ?_⟩) ?_ ?_
        rotate_left
        · intro w'
          go_simp
          with_reducible rfl
        rotate_left
        · simp only [Act.put, List.setIfInBounds_toArray, List.set_cons_zero, List.set_cons_succ, i64_w, i32_w]
          rfl
        refine one_ (i := 4) (N := none) #[true, true, true, true, true, false] rfl rfl (by kernel_rfl) (by decide) (fun K hK => ?_)
        have hs95 : w94.cell? ⟨gb419, 0, none⟩ = some (.int .u64 0) := (blk_cell BK419.out 0).trans rfl
        have hfs95 := blk_frozen BK419.out 0
        have hns95_0 := NB416_419.out
        have hns95_1 := NB417_419.out
        have hns95_2 := NB418_419.out
        have hms95_0 := NB419_416.out
        have hms95_1 := NB419_417.out
        have hms95_2 := NB419_418.out
        have hs96 : w94.cell? ⟨gb419, 1, none⟩ = some (.int .u64 0) := (blk_cell BK419.out 1).trans rfl
        have hfs96 := blk_frozen BK419.out 1
        have hns96_0 := NB416_419.out
        have hns96_1 := NB417_419.out
        have hns96_2 := NB418_419.out
        have hms96_0 := NB419_416.out
        have hms96_1 := NB419_417.out
        have hms96_2 := NB419_418.out
        refine skip_ (w1 := ?_) (by rfl) rfl ?_ ?_
        rotate_left
        · go_simp
          rfl
        refine hK.out _ _ ⟨((cell_far (p := ⟨gb419, _, none⟩) NB416_419.out _).trans (((cell_far (p := ⟨gb419, _, none⟩) NB416_419.out _).trans (hHeld.1)))), ((cell_far (p := ⟨gb419, _, none⟩) NB416_419.out _).trans (((cell_far (p := ⟨gb419, _, none⟩) NB416_419.out _).trans (hHeld.2))))⟩ (fun hHeld => ?_)
        clear hK K
        refine pure_ (i := 5) (N := some 12) (v := ?_) (a' := ?_) #[true, true, true, true, true, true] rfl rfl (by kernel_rfl) (fun _ _ _ h => h) (Or.inl ⟨by rfl, ?_⟩) ?_ ?_
        rotate_left
        · intro w'
          go_simp
          with_reducible rfl
        rotate_left
        · simp only [Act.put, List.setIfInBounds_toArray, List.set_cons_zero, List.set_cons_succ, i64_w, i32_w]
          rfl
        refine done_ (by kernel_rfl) ?_
        have hnb97 := NB416_417.out
        have hnc97 := NB417_416.out
        have hnb98 := NB416_418.out
        have hnc98 := NB418_416.out
        have hnb99 := NB416_419.out
        have hnc99 := NB419_416.out
        have hcz100_0 : w94.cell? ⟨gb416, 0, none⟩ = some (.int .u64 a1_0) := (blk_cell BK416.out 0).trans rfl
        have hcz100_1 : w94.cell? ⟨gb416, 1, none⟩ = some (.int .u64 a1_1) := (blk_cell BK416.out 1).trans rfl
        have hfz100_0 := blk_frozen BK416.out 0
        have hfz100_1 := blk_frozen BK416.out 1
        have hnb101 := NB417_418.out
        have hnc101 := NB418_417.out
        have hnb102 := NB417_419.out
        have hnc102 := NB419_417.out
        have hcz103_0 : w94.cell? ⟨gb417, 0, none⟩ = some (.int .u64 a3_0) := (blk_cell BK417.out 0).trans rfl
        have hcz103_1 : w94.cell? ⟨gb417, 1, none⟩ = some (.int .u64 a3_1) := (blk_cell BK417.out 1).trans rfl
        have hfz103_0 := blk_frozen BK417.out 0
        have hfz103_1 := blk_frozen BK417.out 1
        try go_wp2_with (first | ((with_reducible refine gate_callee (f := 50) rfl ?_); refine goesL_ (some 33) rfl rfl Try.func50 (by kernel_rfl) rfl #[.agg #[.int .u64 a1_0, .int .u64 a1_1], .agg #[.int .u64 a3_0, .int .u64 a3_1]] rfl aG ?_; (with_reducible refine (corebankref01_Less.calls a1_0 a1_1 a3_0 a3_1 true _ A85.out).mono ?_); rintro e w104 ⟨rfl, hb⟩; refine ⟨_, rfl, ?_⟩; replace BK416 := Aside0.mk (blk_below (g := gb416) (o := .cells #[.int .u64 a1_0, .int .u64 a1_1] 53 (0, 0)) (by (with_reducible repeat (first | refine blk_drewN ?_ _ | refine blk_drew ?_ | refine blk_alloc ?_ _)); refine blk_far ?_ NB416_419.out _; (with_reducible repeat (first | refine blk_drewN ?_ _ | refine blk_drew ?_ | refine blk_alloc ?_ _)); refine blk_far ?_ NB416_419.out _; (with_reducible repeat (first | refine blk_drewN ?_ _ | refine blk_drew ?_ | refine blk_alloc ?_ _)); exact BK416.out) hb); replace BK417 := Aside0.mk (blk_below (g := gb417) (o := .cells #[.int .u64 a3_0, .int .u64 a3_1] 53 (0, 0)) (by (with_reducible repeat (first | refine blk_drewN ?_ _ | refine blk_drew ?_ | refine blk_alloc ?_ _)); refine blk_far ?_ NB417_419.out _; (with_reducible repeat (first | refine blk_drewN ?_ _ | refine blk_drew ?_ | refine blk_alloc ?_ _)); refine blk_far ?_ NB417_419.out _; (with_reducible repeat (first | refine blk_drewN ?_ _ | refine blk_drew ?_ | refine blk_alloc ?_ _)); exact BK417.out) hb); replace BK418 := Aside0.mk (blk_below (g := gb418) (o := .cells #[.int .i64 0, .int .u64 0] 24 (0, 0)) (by (with_reducible repeat (first | refine blk_drewN ?_ _ | refine blk_drew ?_ | refine blk_alloc ?_ _)); refine blk_far ?_ NB418_419.out _; (with_reducible repeat (first | refine blk_drewN ?_ _ | refine blk_drew ?_ | refine blk_alloc ?_ _)); refine blk_far ?_ NB418_419.out _; (with_reducible repeat (first | refine blk_drewN ?_ _ | refine blk_drew ?_ | refine blk_alloc ?_ _)); exact BK418.out) hb); replace BK419 := Aside0.mk (blk_below (g := gb419) (o := .cells #[.int .u64 a1_0, .int .u64 a1_1] 53 (0, 0)) (by (with_reducible repeat (first | refine blk_drewN ?_ _ | refine blk_drew ?_ | refine blk_alloc ?_ _)); refine blk_put (cs := #[.int .u64 a1_0, .int .u64 0]) ?_ 1 _ rfl; (with_reducible repeat (first | refine blk_drewN ?_ _ | refine blk_drew ?_ | refine blk_alloc ?_ _)); refine blk_put (cs := #[.int .u64 0, .int .u64 0]) ?_ 0 _ rfl; (with_reducible repeat (first | refine blk_drewN ?_ _ | refine blk_drew ?_ | refine blk_alloc ?_ _)); exact BK419.out) hb); replace HB := Aside0.mk (bS hb); (try clear hb); (try clear hb2); (try clear hk); (try clear hi); have hcz105_0 : w104.cell? ⟨gb417, 0, none⟩ = some (.int .u64 a3_0) := (blk_cell BK417.out 0).trans rfl; have hcz105_1 : w104.cell? ⟨gb417, 1, none⟩ = some (.int .u64 a3_1) := (blk_cell BK417.out 1).trans rfl; have hfz105_0 := blk_frozen BK417.out 0; have hfz105_1 := blk_frozen BK417.out 1; have hcz106_0 : w104.cell? ⟨gb416, 0, none⟩ = some (.int .u64 a1_0) := (blk_cell BK416.out 0).trans rfl; have hcz106_1 : w104.cell? ⟨gb416, 1, none⟩ = some (.int .u64 a1_1) := (blk_cell BK416.out 1).trans rfl; have hfz106_0 := blk_frozen BK416.out 0; have hfz106_1 := blk_frozen BK416.out 1) | ((with_reducible refine gate_callee (f := 51) rfl ?_); refine goesL_ (some 37) rfl rfl Try.func51 (by kernel_rfl) rfl #[.agg #[.int .u64 a3_0, .int .u64 a3_1], .agg #[.int .u64 a1_0, .int .u64 a1_1]] rfl aG ?_; (with_reducible refine (corebankref01_minus.calls a3_0 a3_1 a1_0 a1_1 t428 t429 _ A87.out).mono ?_); rintro e w107 ⟨rfl, hb⟩; refine ⟨_, rfl, ?_⟩; replace BK416 := Aside0.mk (bK BK416 hb); replace BK417 := Aside0.mk (bK BK417 hb); replace BK418 := Aside0.mk (bK BK418 hb); replace BK419 := Aside0.mk (bK BK419 hb); replace HB := Aside0.mk (bS hb); (try clear hb); (try clear hb2); (try clear hk); (try clear hi); have hnb108 := NB419_418.out; have hnc108 := NB418_419.out; have hcz109_0 : w107.cell? ⟨gb419, 0, none⟩ = some (.int .u64 a1_0) := (blk_cell BK419.out 0).trans rfl; have hcz109_1 : w107.cell? ⟨gb419, 1, none⟩ = some (.int .u64 a1_1) := (blk_cell BK419.out 1).trans rfl; have hfz109_0 := blk_frozen BK419.out 0; have hfz109_1 := blk_frozen BK419.out 1) | ((with_reducible refine gate_callee (f := 38) rfl ?_); refine goesL_ (some 41) rfl rfl Try.func38 (by kernel_rfl) rfl #[.bool a2, .agg #[.int .u64 t428, .int .u64 t429]] rfl aG ?_; (with_reducible refine (corebankref01_Join.calls a2 t428 t429 t430 t431 true _ A88.out).mono ?_); rintro e w110 ⟨rfl, hb⟩; refine ⟨_, rfl, ?_⟩; replace BK416 := Aside0.mk (blk_below (g := gb416) (o := .cells #[.int .u64 a1_0, .int .u64 a1_1] 53 (0, 0)) (by (with_reducible repeat (first | refine blk_drewN ?_ _ | refine blk_drew ?_ | refine blk_alloc ?_ _)); refine blk_far ?_ NB416_419.out _; (with_reducible repeat (first | refine blk_drewN ?_ _ | refine blk_drew ?_ | refine blk_alloc ?_ _)); refine blk_far ?_ NB416_419.out _; (with_reducible repeat (first | refine blk_drewN ?_ _ | refine blk_drew ?_ | refine blk_alloc ?_ _)); exact BK416.out) hb); replace BK417 := Aside0.mk (blk_below (g := gb417) (o := .cells #[.int .u64 a3_0, .int .u64 a3_1] 53 (0, 0)) (by (with_reducible repeat (first | refine blk_drewN ?_ _ | refine blk_drew ?_ | refine blk_alloc ?_ _)); refine blk_far ?_ NB417_419.out _; (with_reducible repeat (first | refine blk_drewN ?_ _ | refine blk_drew ?_ | refine blk_alloc ?_ _)); refine blk_far ?_ NB417_419.out _; (with_reducible repeat (first | refine blk_drewN ?_ _ | refine blk_drew ?_ | refine blk_alloc ?_ _)); exact BK417.out) hb); replace BK418 := Aside0.mk (blk_below (g := gb418) (o := .cells #[.int .i64 0, .int .u64 0] 24 (0, 0)) (by (with_reducible repeat (first | refine blk_drewN ?_ _ | refine blk_drew ?_ | refine blk_alloc ?_ _)); refine blk_far ?_ NB418_419.out _; (with_reducible repeat (first | refine blk_drewN ?_ _ | refine blk_drew ?_ | refine blk_alloc ?_ _)); refine blk_far ?_ NB418_419.out _; (with_reducible repeat (first | refine blk_drewN ?_ _ | refine blk_drew ?_ | refine blk_alloc ?_ _)); exact BK418.out) hb); replace BK419 := Aside0.mk (blk_below (g := gb419) (o := .cells #[.int .u64 t428, .int .u64 t429] 53 (0, 0)) (by (with_reducible repeat (first | refine blk_drewN ?_ _ | refine blk_drew ?_ | refine blk_alloc ?_ _)); refine blk_put (cs := #[.int .u64 t428, .int .u64 a1_1]) ?_ 1 _ rfl; (with_reducible repeat (first | refine blk_drewN ?_ _ | refine blk_drew ?_ | refine blk_alloc ?_ _)); refine blk_put (cs := #[.int .u64 a1_0, .int .u64 a1_1]) ?_ 0 _ rfl; (with_reducible repeat (first | refine blk_drewN ?_ _ | refine blk_drew ?_ | refine blk_alloc ?_ _)); exact BK419.out) hb); replace HB := Aside0.mk (bS hb); (try clear hb); (try clear hb2); (try clear hk); (try clear hi)) | ((with_reducible refine gate_dst (N := 13) rfl ?_); refine box_event ?hg (N := 13) ?hd (cs := #[.int .i64 0, .int .u64 0]) (t := 24) ?hr ?_; (case hd => rfl); (case hg => rfl); (case hr => first | (go_simp; done) | (go_simp; rfl)); intro gb433 hg w111 hbox hb; have nn_ := bT hb hg; have bgb416_ := bN BK416 hb hg; have bgb417_ := bN BK417 hb hg; have bgb418_ := bN BK418 hb hg; have bgb419_ := bN BK419 hb hg; have BK433 := Aside0.mk (hbox); have GW433 := Aside0.mk nn_.2; have GE433 := GW433; have NB416_433 := Aside0.mk bgb416_.2.1; have NB433_416 := Aside0.mk bgb416_.2.2; have NB417_433 := Aside0.mk bgb417_.2.1; have NB433_417 := Aside0.mk bgb417_.2.2; have NB418_433 := Aside0.mk bgb418_.2.1; have NB433_418 := Aside0.mk bgb418_.2.2; have NB419_433 := Aside0.mk bgb419_.2.1; have NB433_419 := Aside0.mk bgb419_.2.2; replace BK416 := Aside0.mk bgb416_.1; replace BK417 := Aside0.mk bgb417_.1; replace BK418 := Aside0.mk bgb418_.1; replace BK419 := Aside0.mk bgb419_.1; replace HB := Aside0.mk nn_.1; clear nn_ bgb416_ bgb417_ bgb418_ bgb419_; clear hb hbox hg; have hnb112 := NB433_416.out; have hnc112 := NB416_433.out; have hnb113 := NB433_417.out; have hnc113 := NB417_433.out; have hnb114 := NB433_418.out; have hnc114 := NB418_433.out; have hnb115 := NB433_419.out; have hnc115 := NB419_433.out; have hcz116_0 : w111.cell? ⟨gb433, 0, none⟩ = some (.int .i64 0) := (blk_cell BK433.out 0).trans rfl; have hcz116_1 : w111.cell? ⟨gb433, 1, none⟩ = some (.int .u64 0) := (blk_cell BK433.out 1).trans rfl; have hfz116_0 := blk_frozen BK433.out 0; have hfz116_1 := blk_frozen BK433.out 1; have hcz117_0 : w111.cell? ⟨gb418, 0, none⟩ = some (.int .i64 0) := (blk_cell BK418.out 0).trans rfl; have hcz117_1 : w111.cell? ⟨gb418, 1, none⟩ = some (.int .u64 0) := (blk_cell BK418.out 1).trans rfl; have hfz117_0 := blk_frozen BK418.out 0; have hfz117_1 := blk_frozen BK418.out 1))
        refine bodyPost_ret (results_ct rfl _ _ gb418 24 #[.int .i64 t430, .int .u64 t431] (0, 0) _ rfl (by (with_reducible repeat (first | refine blk_drewN ?_ _ | refine blk_drew ?_ | refine blk_alloc ?_ _)); refine blk_put (cs := #[.int .i64 t430, .int .u64 0]) ?_ 1 _ rfl; (with_reducible repeat (first | refine blk_drewN ?_ _ | refine blk_drew ?_ | refine blk_alloc ?_ _)); refine blk_put (cs := #[.int .i64 0, .int .u64 0]) ?_ 0 _ rfl; (with_reducible repeat (first | refine blk_drewN ?_ _ | refine blk_drew ?_ | refine blk_alloc ?_ _)); refine blk_far ?_ NB418_433.out _; (with_reducible repeat (first | refine blk_drewN ?_ _ | refine blk_drew ?_ | refine blk_alloc ?_ _)); refine blk_far ?_ NB418_433.out _; (with_reducible repeat (first | refine blk_drewN ?_ _ | refine blk_drew ?_ | refine blk_alloc ?_ _)); exact BK418.out) Try.underlying24 rfl (by kernel_rfl)) rfl ?_
        exact ⟨by first | rfl | (simp [errW_none, errW_some] <;> rfl) | (simp [*, errW_none, errW_some] <;> rfl), bE⟩
      · replace c89 := Bool.eq_false_iff.mpr c89
        subst c89
        have H1 : (some (0, 0, 6)) = some (r1, r2, r3) := by rw [if_neg (show ¬ (false = true) by decide)] at H; exact H
        clear H
        have H := H1
        clear H1
        simp only [Option.some.injEq, Prod.mk.injEq] at H
        obtain ⟨rfl, rfl, rfl⟩ := H
        go_enter Try.func46, Try.ntmps46
        try go_wp2_with (first | ((with_reducible refine gate_dst (N := 5) rfl ?_); refine box_event ?hg (N := 5) ?hd (cs := #[.int .u64 a1_0, .int .u64 a1_1]) (t := 53) ?hr ?_; (case hd => rfl); (case hg => rfl); (case hr => first | (go_simp; done) | (go_simp; rfl)); intro gb416 hg w118 hbox hb; have nn_ := bT hb hg; have BK416 := Aside0.mk (hbox); have GW416 := Aside0.mk nn_.2; have GE416 := GW416; replace HB := Aside0.mk nn_.1; clear nn_; clear hb hbox hg) | ((with_reducible refine gate_dst (N := 7) rfl ?_); refine box_event ?hg (N := 7) ?hd (cs := #[.int .u64 a3_0, .int .u64 a3_1]) (t := 53) ?hr ?_; (case hd => rfl); (case hg => rfl); (case hr => first | (go_simp; done) | (go_simp; rfl)); intro gb417 hg w119 hbox hb; have nn_ := bT hb hg; have bgb416_ := bN BK416 hb hg; have BK417 := Aside0.mk (hbox); have GW417 := Aside0.mk nn_.2; have GE417 := GW417; have NB416_417 := Aside0.mk bgb416_.2.1; have NB417_416 := Aside0.mk bgb416_.2.2; replace BK416 := Aside0.mk bgb416_.1; replace HB := Aside0.mk nn_.1; clear nn_ bgb416_; clear hb hbox hg) | ((with_reducible refine gate_dst (N := 8) rfl ?_); refine box_event ?hg (N := 8) ?hd (cs := #[.int .i64 0, .int .u64 0]) (t := 24) ?hr ?_; (case hd => rfl); (case hg => rfl); (case hr => first | (go_simp; done) | (go_simp; rfl)); intro gb418 hg w120 hbox hb; have nn_ := bT hb hg; have bgb416_ := bN BK416 hb hg; have bgb417_ := bN BK417 hb hg; have BK418 := Aside0.mk (hbox); have GW418 := Aside0.mk nn_.2; have GE418 := GW418; have NB416_418 := Aside0.mk bgb416_.2.1; have NB418_416 := Aside0.mk bgb416_.2.2; have NB417_418 := Aside0.mk bgb417_.2.1; have NB418_417 := Aside0.mk bgb417_.2.2; replace BK416 := Aside0.mk bgb416_.1; replace BK417 := Aside0.mk bgb417_.1; replace HB := Aside0.mk nn_.1; clear nn_ bgb416_ bgb417_; clear hb hbox hg))
        have n0_ := Aside0.mk (blk_drew BK416.out)
        have n1_ := Aside0.mk (blk_drew BK417.out)
        have n2_ := Aside0.mk (blk_drew BK418.out)
        have n3_ := Aside0.mk (below_drew1 HB.out)
        clear BK416
        clear BK417
        clear BK418
        clear HB
        have BK416 := n0_
        have BK417 := n1_
        have BK418 := n2_
        have HB := n3_
        clear n0_ n1_ n2_ n3_
        refine start_ (n := 6) (S := fun w' => w'.cell? ⟨gb416, 0, none⟩ = some (.int .u64 a1_0) ∧ w'.cell? ⟨gb416, 1, none⟩ = some (.int .u64 a1_1)) (ds := []) #[false, false, false, false, false, false] (by kernel_rfl) rfl rfl ⟨(blk_cell BK416.out 0).trans rfl, (blk_cell BK416.out 1).trans rfl⟩ (fun hHeld => ?_)
        generalize w120.drew = w121 at BK416 BK417 BK418 HB hHeld ⊢
        refine pure_ (i := 0) (N := some 15) (v := ?_) (a' := ?_) #[true, false, false, false, false, false] rfl rfl (by kernel_rfl) (fun _ _ _ h => h) (Or.inl ⟨by rfl, ?_⟩) ?_ ?_
        rotate_left
        · intro w'
          go_simp
          with_reducible rfl
        rotate_left
        · simp only [Act.put, List.setIfInBounds_toArray, List.set_cons_zero, List.set_cons_succ, i64_w, i32_w]
          rfl
        refine take_ (i := 1) (N := some 16) (v := ?_) (a' := ?_) #[true, true, false, false, false, false] rfl rfl (by kernel_rfl) (fun _ _ _ h => h) (Or.inl ⟨by rfl, ?_⟩) hHeld ?_ ?_
        rotate_left
        · rintro w' ⟨s0, s1⟩
          go_simp
          with_reducible rfl
        rotate_left
        · simp only [Act.put, List.setIfInBounds_toArray, List.set_cons_zero, List.set_cons_succ, i64_w, i32_w]
          rfl
        refine one_ (i := 2) (N := some 11) #[true, true, true, false, false, false] rfl rfl (by kernel_rfl) (by decide) (fun K hK => ?_)
        refine box_step ?hg (N := 11) ?hd (cs := #[.int .u64 0, .int .u64 0]) (t := 53) ?hr ?_; (case hd => rfl); (case hg => rfl); (case hr => first | (go_simp; done) | (go_simp; rfl))
        intro gb419 hg w122 hbox hb
        have n0_ := Aside0.mk (bK BK416 hb)
        have n1_ := Aside0.mk (bK BK417 hb)
        have n2_ := Aside0.mk (bK BK418 hb)
        have n3_ := Aside0.mk (bS hb)
        have n4_ := Aside0.mk (hbox)
        have n5_ := Aside0.mk ((by rw [hg]; exact (below_size (bE)) : w.heap.size ≤ gb419))
        have n6_ := Aside0.mk ((by rw [hg]; exact (below_size (bE)) : w.heap.size ≤ gb419))
        have n7_ := Aside0.mk ((by rw [hg]; exact Nat.ne_of_lt (blk_lt (g := gb416) (o := .cells #[.int .u64 a1_0, .int .u64 a1_1] 53 (0, 0)) (by (with_reducible repeat (first | refine blk_drewN ?_ _ | refine blk_drew ?_ | refine blk_alloc ?_ _)); exact BK416.out)) : gb416 ≠ gb419))
        have n8_ := Aside0.mk ((by rw [hg]; exact Nat.ne_of_gt (blk_lt (g := gb416) (o := .cells #[.int .u64 a1_0, .int .u64 a1_1] 53 (0, 0)) (by (with_reducible repeat (first | refine blk_drewN ?_ _ | refine blk_drew ?_ | refine blk_alloc ?_ _)); exact BK416.out)) : gb419 ≠ gb416))
        have n9_ := Aside0.mk ((by rw [hg]; exact Nat.ne_of_lt (blk_lt (g := gb417) (o := .cells #[.int .u64 a3_0, .int .u64 a3_1] 53 (0, 0)) (by (with_reducible repeat (first | refine blk_drewN ?_ _ | refine blk_drew ?_ | refine blk_alloc ?_ _)); exact BK417.out)) : gb417 ≠ gb419))
        have n10_ := Aside0.mk ((by rw [hg]; exact Nat.ne_of_gt (blk_lt (g := gb417) (o := .cells #[.int .u64 a3_0, .int .u64 a3_1] 53 (0, 0)) (by (with_reducible repeat (first | refine blk_drewN ?_ _ | refine blk_drew ?_ | refine blk_alloc ?_ _)); exact BK417.out)) : gb419 ≠ gb417))
        have n11_ := Aside0.mk ((by rw [hg]; exact Nat.ne_of_lt (blk_lt (g := gb418) (o := .cells #[.int .i64 0, .int .u64 0] 24 (0, 0)) (by (with_reducible repeat (first | refine blk_drewN ?_ _ | refine blk_drew ?_ | refine blk_alloc ?_ _)); exact BK418.out)) : gb418 ≠ gb419))
        have n12_ := Aside0.mk ((by rw [hg]; exact Nat.ne_of_gt (blk_lt (g := gb418) (o := .cells #[.int .i64 0, .int .u64 0] 24 (0, 0)) (by (with_reducible repeat (first | refine blk_drewN ?_ _ | refine blk_drew ?_ | refine blk_alloc ?_ _)); exact BK418.out)) : gb419 ≠ gb418))
        clear BK416
        clear BK417
        clear BK418
        clear HB
        have BK416 := n0_
        have BK417 := n1_
        have BK418 := n2_
        have HB := n3_
        have BK419 := n4_
        have GW419 := n5_
        have GE419 := n6_
        have NB416_419 := n7_
        have NB419_416 := n8_
        have NB417_419 := n9_
        have NB419_417 := n10_
        have NB418_419 := n11_
        have NB419_418 := n12_
        clear n0_ n1_ n2_ n3_ n4_ n5_ n6_ n7_ n8_ n9_ n10_ n11_ n12_
        clear hb hbox hg
        refine hK.out _ _ ⟨(blk_cell BK416.out 0).trans rfl, (blk_cell BK416.out 1).trans rfl⟩ (fun hHeld => ?_)
        clear hK K
        refine norm_ (a' := ?_) ?_ ?_
        rotate_left
        · show Act.put _ (some 11) _ = _
          simp only [Act.put, List.setIfInBounds_toArray, List.set_cons_zero, List.set_cons_succ, i64_w, i32_w]
          rfl
        refine pure_ (i := 3) (N := some 10) (v := ?_) (a' := ?_) #[true, true, true, true, false, false] rfl rfl (by kernel_rfl) (fun _ _ _ h => h) (Or.inl ⟨by rfl, ?_⟩) ?_ ?_
        rotate_left
        · intro w'
          go_simp
          with_reducible rfl
        rotate_left
        · simp only [Act.put, List.setIfInBounds_toArray, List.set_cons_zero, List.set_cons_succ, i64_w, i32_w]
          rfl
        refine one_ (i := 4) (N := none) #[true, true, true, true, true, false] rfl rfl (by kernel_rfl) (by decide) (fun K hK => ?_)
        have hs123 : w122.cell? ⟨gb419, 0, none⟩ = some (.int .u64 0) := (blk_cell BK419.out 0).trans rfl
        have hfs123 := blk_frozen BK419.out 0
        have hns123_0 := NB416_419.out
        have hns123_1 := NB417_419.out
        have hns123_2 := NB418_419.out
        have hms123_0 := NB419_416.out
        have hms123_1 := NB419_417.out
        have hms123_2 := NB419_418.out
        have hs124 : w122.cell? ⟨gb419, 1, none⟩ = some (.int .u64 0) := (blk_cell BK419.out 1).trans rfl
        have hfs124 := blk_frozen BK419.out 1
        have hns124_0 := NB416_419.out
        have hns124_1 := NB417_419.out
        have hns124_2 := NB418_419.out
        have hms124_0 := NB419_416.out
        have hms124_1 := NB419_417.out
        have hms124_2 := NB419_418.out
        refine skip_ (w1 := ?_) (by rfl) rfl ?_ ?_
        rotate_left
        · go_simp
          rfl
        refine hK.out _ _ ⟨((cell_far (p := ⟨gb419, _, none⟩) NB416_419.out _).trans (((cell_far (p := ⟨gb419, _, none⟩) NB416_419.out _).trans (hHeld.1)))), ((cell_far (p := ⟨gb419, _, none⟩) NB416_419.out _).trans (((cell_far (p := ⟨gb419, _, none⟩) NB416_419.out _).trans (hHeld.2))))⟩ (fun hHeld => ?_)
        clear hK K
        refine pure_ (i := 5) (N := some 12) (v := ?_) (a' := ?_) #[true, true, true, true, true, true] rfl rfl (by kernel_rfl) (fun _ _ _ h => h) (Or.inl ⟨by rfl, ?_⟩) ?_ ?_
        rotate_left
        · intro w'
          go_simp
          with_reducible rfl
        rotate_left
        · simp only [Act.put, List.setIfInBounds_toArray, List.set_cons_zero, List.set_cons_succ, i64_w, i32_w]
          rfl
        refine done_ (by kernel_rfl) ?_
        have hnb125 := NB416_417.out
        have hnc125 := NB417_416.out
        have hnb126 := NB416_418.out
        have hnc126 := NB418_416.out
        have hnb127 := NB416_419.out
        have hnc127 := NB419_416.out
        have hcz128_0 : w122.cell? ⟨gb416, 0, none⟩ = some (.int .u64 a1_0) := (blk_cell BK416.out 0).trans rfl
        have hcz128_1 : w122.cell? ⟨gb416, 1, none⟩ = some (.int .u64 a1_1) := (blk_cell BK416.out 1).trans rfl
        have hfz128_0 := blk_frozen BK416.out 0
        have hfz128_1 := blk_frozen BK416.out 1
        have hnb129 := NB417_418.out
        have hnc129 := NB418_417.out
        have hnb130 := NB417_419.out
        have hnc130 := NB419_417.out
        have hcz131_0 : w122.cell? ⟨gb417, 0, none⟩ = some (.int .u64 a3_0) := (blk_cell BK417.out 0).trans rfl
        have hcz131_1 : w122.cell? ⟨gb417, 1, none⟩ = some (.int .u64 a3_1) := (blk_cell BK417.out 1).trans rfl
        have hfz131_0 := blk_frozen BK417.out 0
        have hfz131_1 := blk_frozen BK417.out 1
        try go_wp2_with (first | ((with_reducible refine gate_callee (f := 50) rfl ?_); refine goesL_ (some 33) rfl rfl Try.func50 (by kernel_rfl) rfl #[.agg #[.int .u64 a1_0, .int .u64 a1_1], .agg #[.int .u64 a3_0, .int .u64 a3_1]] rfl aG ?_; (with_reducible refine (corebankref01_Less.calls a1_0 a1_1 a3_0 a3_1 true _ A85.out).mono ?_); rintro e w132 ⟨rfl, hb⟩; refine ⟨_, rfl, ?_⟩; replace BK416 := Aside0.mk (blk_below (g := gb416) (o := .cells #[.int .u64 a1_0, .int .u64 a1_1] 53 (0, 0)) (by (with_reducible repeat (first | refine blk_drewN ?_ _ | refine blk_drew ?_ | refine blk_alloc ?_ _)); refine blk_far ?_ NB416_419.out _; (with_reducible repeat (first | refine blk_drewN ?_ _ | refine blk_drew ?_ | refine blk_alloc ?_ _)); refine blk_far ?_ NB416_419.out _; (with_reducible repeat (first | refine blk_drewN ?_ _ | refine blk_drew ?_ | refine blk_alloc ?_ _)); exact BK416.out) hb); replace BK417 := Aside0.mk (blk_below (g := gb417) (o := .cells #[.int .u64 a3_0, .int .u64 a3_1] 53 (0, 0)) (by (with_reducible repeat (first | refine blk_drewN ?_ _ | refine blk_drew ?_ | refine blk_alloc ?_ _)); refine blk_far ?_ NB417_419.out _; (with_reducible repeat (first | refine blk_drewN ?_ _ | refine blk_drew ?_ | refine blk_alloc ?_ _)); refine blk_far ?_ NB417_419.out _; (with_reducible repeat (first | refine blk_drewN ?_ _ | refine blk_drew ?_ | refine blk_alloc ?_ _)); exact BK417.out) hb); replace BK418 := Aside0.mk (blk_below (g := gb418) (o := .cells #[.int .i64 0, .int .u64 0] 24 (0, 0)) (by (with_reducible repeat (first | refine blk_drewN ?_ _ | refine blk_drew ?_ | refine blk_alloc ?_ _)); refine blk_far ?_ NB418_419.out _; (with_reducible repeat (first | refine blk_drewN ?_ _ | refine blk_drew ?_ | refine blk_alloc ?_ _)); refine blk_far ?_ NB418_419.out _; (with_reducible repeat (first | refine blk_drewN ?_ _ | refine blk_drew ?_ | refine blk_alloc ?_ _)); exact BK418.out) hb); replace BK419 := Aside0.mk (blk_below (g := gb419) (o := .cells #[.int .u64 a1_0, .int .u64 a1_1] 53 (0, 0)) (by (with_reducible repeat (first | refine blk_drewN ?_ _ | refine blk_drew ?_ | refine blk_alloc ?_ _)); refine blk_put (cs := #[.int .u64 a1_0, .int .u64 0]) ?_ 1 _ rfl; (with_reducible repeat (first | refine blk_drewN ?_ _ | refine blk_drew ?_ | refine blk_alloc ?_ _)); refine blk_put (cs := #[.int .u64 0, .int .u64 0]) ?_ 0 _ rfl; (with_reducible repeat (first | refine blk_drewN ?_ _ | refine blk_drew ?_ | refine blk_alloc ?_ _)); exact BK419.out) hb); replace HB := Aside0.mk (bS hb); (try clear hb); (try clear hb2); (try clear hk); (try clear hi); have hcz133_0 : w132.cell? ⟨gb417, 0, none⟩ = some (.int .u64 a3_0) := (blk_cell BK417.out 0).trans rfl; have hcz133_1 : w132.cell? ⟨gb417, 1, none⟩ = some (.int .u64 a3_1) := (blk_cell BK417.out 1).trans rfl; have hfz133_0 := blk_frozen BK417.out 0; have hfz133_1 := blk_frozen BK417.out 1; have hcz134_0 : w132.cell? ⟨gb416, 0, none⟩ = some (.int .u64 a1_0) := (blk_cell BK416.out 0).trans rfl; have hcz134_1 : w132.cell? ⟨gb416, 1, none⟩ = some (.int .u64 a1_1) := (blk_cell BK416.out 1).trans rfl; have hfz134_0 := blk_frozen BK416.out 0; have hfz134_1 := blk_frozen BK416.out 1) | ((with_reducible refine gate_callee (f := 51) rfl ?_); refine goesL_ (some 37) rfl rfl Try.func51 (by kernel_rfl) rfl #[.agg #[.int .u64 a3_0, .int .u64 a3_1], .agg #[.int .u64 a1_0, .int .u64 a1_1]] rfl aG ?_; (with_reducible refine (corebankref01_minus.calls a3_0 a3_1 a1_0 a1_1 t428 t429 _ A87.out).mono ?_); rintro e w135 ⟨rfl, hb⟩; refine ⟨_, rfl, ?_⟩; replace BK416 := Aside0.mk (bK BK416 hb); replace BK417 := Aside0.mk (bK BK417 hb); replace BK418 := Aside0.mk (bK BK418 hb); replace BK419 := Aside0.mk (bK BK419 hb); replace HB := Aside0.mk (bS hb); (try clear hb); (try clear hb2); (try clear hk); (try clear hi); have hnb136 := NB419_418.out; have hnc136 := NB418_419.out; have hcz137_0 : w135.cell? ⟨gb419, 0, none⟩ = some (.int .u64 a1_0) := (blk_cell BK419.out 0).trans rfl; have hcz137_1 : w135.cell? ⟨gb419, 1, none⟩ = some (.int .u64 a1_1) := (blk_cell BK419.out 1).trans rfl; have hfz137_0 := blk_frozen BK419.out 0; have hfz137_1 := blk_frozen BK419.out 1) | ((with_reducible refine gate_callee (f := 38) rfl ?_); refine goesL_ (some 41) rfl rfl Try.func38 (by kernel_rfl) rfl #[.bool a2, .agg #[.int .u64 t428, .int .u64 t429]] rfl aG ?_; (with_reducible refine (corebankref01_Join.calls a2 t428 t429 t430 t431 false _ A88.out).mono ?_); rintro e w138 ⟨rfl, hb⟩; refine ⟨_, rfl, ?_⟩; replace BK416 := Aside0.mk (blk_below (g := gb416) (o := .cells #[.int .u64 a1_0, .int .u64 a1_1] 53 (0, 0)) (by (with_reducible repeat (first | refine blk_drewN ?_ _ | refine blk_drew ?_ | refine blk_alloc ?_ _)); refine blk_far ?_ NB416_419.out _; (with_reducible repeat (first | refine blk_drewN ?_ _ | refine blk_drew ?_ | refine blk_alloc ?_ _)); refine blk_far ?_ NB416_419.out _; (with_reducible repeat (first | refine blk_drewN ?_ _ | refine blk_drew ?_ | refine blk_alloc ?_ _)); exact BK416.out) hb); replace BK417 := Aside0.mk (blk_below (g := gb417) (o := .cells #[.int .u64 a3_0, .int .u64 a3_1] 53 (0, 0)) (by (with_reducible repeat (first | refine blk_drewN ?_ _ | refine blk_drew ?_ | refine blk_alloc ?_ _)); refine blk_far ?_ NB417_419.out _; (with_reducible repeat (first | refine blk_drewN ?_ _ | refine blk_drew ?_ | refine blk_alloc ?_ _)); refine blk_far ?_ NB417_419.out _; (with_reducible repeat (first | refine blk_drewN ?_ _ | refine blk_drew ?_ | refine blk_alloc ?_ _)); exact BK417.out) hb); replace BK418 := Aside0.mk (blk_below (g := gb418) (o := .cells #[.int .i64 0, .int .u64 0] 24 (0, 0)) (by (with_reducible repeat (first | refine blk_drewN ?_ _ | refine blk_drew ?_ | refine blk_alloc ?_ _)); refine blk_far ?_ NB418_419.out _; (with_reducible repeat (first | refine blk_drewN ?_ _ | refine blk_drew ?_ | refine blk_alloc ?_ _)); refine blk_far ?_ NB418_419.out _; (with_reducible repeat (first | refine blk_drewN ?_ _ | refine blk_drew ?_ | refine blk_alloc ?_ _)); exact BK418.out) hb); replace BK419 := Aside0.mk (blk_below (g := gb419) (o := .cells #[.int .u64 t428, .int .u64 t429] 53 (0, 0)) (by (with_reducible repeat (first | refine blk_drewN ?_ _ | refine blk_drew ?_ | refine blk_alloc ?_ _)); refine blk_put (cs := #[.int .u64 t428, .int .u64 a1_1]) ?_ 1 _ rfl; (with_reducible repeat (first | refine blk_drewN ?_ _ | refine blk_drew ?_ | refine blk_alloc ?_ _)); refine blk_put (cs := #[.int .u64 a1_0, .int .u64 a1_1]) ?_ 0 _ rfl; (with_reducible repeat (first | refine blk_drewN ?_ _ | refine blk_drew ?_ | refine blk_alloc ?_ _)); exact BK419.out) hb); replace HB := Aside0.mk (bS hb); (try clear hb); (try clear hb2); (try clear hk); (try clear hi)) | ((with_reducible refine gate_dst (N := 13) rfl ?_); refine box_event ?hg (N := 13) ?hd (cs := #[.int .i64 0, .int .u64 0]) (t := 24) ?hr ?_; (case hd => rfl); (case hg => rfl); (case hr => first | (go_simp; done) | (go_simp; rfl)); intro gb433 hg w139 hbox hb; have nn_ := bT hb hg; have bgb416_ := bN BK416 hb hg; have bgb417_ := bN BK417 hb hg; have bgb418_ := bN BK418 hb hg; have bgb419_ := bN BK419 hb hg; have BK433 := Aside0.mk (hbox); have GW433 := Aside0.mk nn_.2; have GE433 := GW433; have NB416_433 := Aside0.mk bgb416_.2.1; have NB433_416 := Aside0.mk bgb416_.2.2; have NB417_433 := Aside0.mk bgb417_.2.1; have NB433_417 := Aside0.mk bgb417_.2.2; have NB418_433 := Aside0.mk bgb418_.2.1; have NB433_418 := Aside0.mk bgb418_.2.2; have NB419_433 := Aside0.mk bgb419_.2.1; have NB433_419 := Aside0.mk bgb419_.2.2; replace BK416 := Aside0.mk bgb416_.1; replace BK417 := Aside0.mk bgb417_.1; replace BK418 := Aside0.mk bgb418_.1; replace BK419 := Aside0.mk bgb419_.1; replace HB := Aside0.mk nn_.1; clear nn_ bgb416_ bgb417_ bgb418_ bgb419_; clear hb hbox hg; have hnb140 := NB433_416.out; have hnc140 := NB416_433.out; have hnb141 := NB433_417.out; have hnc141 := NB417_433.out; have hnb142 := NB433_418.out; have hnc142 := NB418_433.out; have hnb143 := NB433_419.out; have hnc143 := NB419_433.out; have hcz144_0 : w139.cell? ⟨gb433, 0, none⟩ = some (.int .i64 0) := (blk_cell BK433.out 0).trans rfl; have hcz144_1 : w139.cell? ⟨gb433, 1, none⟩ = some (.int .u64 0) := (blk_cell BK433.out 1).trans rfl; have hfz144_0 := blk_frozen BK433.out 0; have hfz144_1 := blk_frozen BK433.out 1; have hcz145_0 : w139.cell? ⟨gb418, 0, none⟩ = some (.int .i64 0) := (blk_cell BK418.out 0).trans rfl; have hcz145_1 : w139.cell? ⟨gb418, 1, none⟩ = some (.int .u64 0) := (blk_cell BK418.out 1).trans rfl; have hfz145_0 := blk_frozen BK418.out 0; have hfz145_1 := blk_frozen BK418.out 1))
        refine bodyPost_ret (results_ct rfl _ _ gb418 24 #[.int .i64 0, .int .u64 0] (0, 0) _ rfl (by (with_reducible repeat (first | refine blk_drewN ?_ _ | refine blk_drew ?_ | refine blk_alloc ?_ _)); refine blk_put (cs := #[.int .i64 0, .int .u64 0]) ?_ 1 _ rfl; (with_reducible repeat (first | refine blk_drewN ?_ _ | refine blk_drew ?_ | refine blk_alloc ?_ _)); refine blk_put (cs := #[.int .i64 0, .int .u64 0]) ?_ 0 _ rfl; (with_reducible repeat (first | refine blk_drewN ?_ _ | refine blk_drew ?_ | refine blk_alloc ?_ _)); refine blk_far ?_ NB418_433.out _; (with_reducible repeat (first | refine blk_drewN ?_ _ | refine blk_drew ?_ | refine blk_alloc ?_ _)); refine blk_far ?_ NB418_433.out _; (with_reducible repeat (first | refine blk_drewN ?_ _ | refine blk_drew ?_ | refine blk_alloc ?_ _)); exact BK418.out) Try.underlying24 rfl (by kernel_rfl)) rfl ?_
        exact ⟨by first | rfl | (simp [errW_none, errW_some] <;> rfl) | (simp [*, errW_none, errW_some] <;> rfl), bE⟩
    · replace c86 := Bool.eq_false_iff.mpr c86
      subst c86
      have H1 : ((corebankref01_minus.f a1_0 a1_1 a3_0 a3_1).bind fun bt434 => ((corebankref01_Join.f a0 bt434.1 bt434.2).bind fun bt436 => (if bt436.2.2 = true then (some (bt436.1, bt436.2.1, 0)) else (some (0, 0, 6))))) = some (r1, r2, r3) := by rw [if_neg (show ¬ (false = true) by decide)] at H; exact H
      clear H
      have H := H1
      clear H1
      replace H := Option.bind_eq_some_iff.mp H
      obtain ⟨⟨t434, t435⟩, A1460, H⟩ := H
      replace H : ((corebankref01_Join.f a0 t434 t435).bind fun bt436 => (if bt436.2.2 = true then (some (bt436.1, bt436.2.1, 0)) else (some (0, 0, 6)))) = some (r1, r2, r3) := H
      have A146 := Aside0.mk A1460
      clear A1460
      replace H := Option.bind_eq_some_iff.mp H
      obtain ⟨⟨t436, t437, t438⟩, A1470, H⟩ := H
      replace H : (if t438 = true then (some (t436, t437, 0)) else (some (0, 0, 6))) = some (r1, r2, r3) := H
      have A147 := Aside0.mk A1470
      clear A1470
      by_cases c148 : t438 = true
      · subst c148
        have H1 : (some (t436, t437, 0)) = some (r1, r2, r3) := by rw [if_pos rfl] at H; exact H
        clear H
        have H := H1
        clear H1
        simp only [Option.some.injEq, Prod.mk.injEq] at H
        obtain ⟨rfl, rfl, rfl⟩ := H
        go_enter Try.func46, Try.ntmps46
        try go_wp2_with (first | ((with_reducible refine gate_dst (N := 5) rfl ?_); refine box_event ?hg (N := 5) ?hd (cs := #[.int .u64 a1_0, .int .u64 a1_1]) (t := 53) ?hr ?_; (case hd => rfl); (case hg => rfl); (case hr => first | (go_simp; done) | (go_simp; rfl)); intro gb416 hg w149 hbox hb; have nn_ := bT hb hg; have BK416 := Aside0.mk (hbox); have GW416 := Aside0.mk nn_.2; have GE416 := GW416; replace HB := Aside0.mk nn_.1; clear nn_; clear hb hbox hg) | ((with_reducible refine gate_dst (N := 7) rfl ?_); refine box_event ?hg (N := 7) ?hd (cs := #[.int .u64 a3_0, .int .u64 a3_1]) (t := 53) ?hr ?_; (case hd => rfl); (case hg => rfl); (case hr => first | (go_simp; done) | (go_simp; rfl)); intro gb417 hg w150 hbox hb; have nn_ := bT hb hg; have bgb416_ := bN BK416 hb hg; have BK417 := Aside0.mk (hbox); have GW417 := Aside0.mk nn_.2; have GE417 := GW417; have NB416_417 := Aside0.mk bgb416_.2.1; have NB417_416 := Aside0.mk bgb416_.2.2; replace BK416 := Aside0.mk bgb416_.1; replace HB := Aside0.mk nn_.1; clear nn_ bgb416_; clear hb hbox hg) | ((with_reducible refine gate_dst (N := 8) rfl ?_); refine box_event ?hg (N := 8) ?hd (cs := #[.int .i64 0, .int .u64 0]) (t := 24) ?hr ?_; (case hd => rfl); (case hg => rfl); (case hr => first | (go_simp; done) | (go_simp; rfl)); intro gb418 hg w151 hbox hb; have nn_ := bT hb hg; have bgb416_ := bN BK416 hb hg; have bgb417_ := bN BK417 hb hg; have BK418 := Aside0.mk (hbox); have GW418 := Aside0.mk nn_.2; have GE418 := GW418; have NB416_418 := Aside0.mk bgb416_.2.1; have NB418_416 := Aside0.mk bgb416_.2.2; have NB417_418 := Aside0.mk bgb417_.2.1; have NB418_417 := Aside0.mk bgb417_.2.2; replace BK416 := Aside0.mk bgb416_.1; replace BK417 := Aside0.mk bgb417_.1; replace HB := Aside0.mk nn_.1; clear nn_ bgb416_ bgb417_; clear hb hbox hg))
        have n0_ := Aside0.mk (blk_drew BK416.out)
        have n1_ := Aside0.mk (blk_drew BK417.out)
        have n2_ := Aside0.mk (blk_drew BK418.out)
        have n3_ := Aside0.mk (below_drew1 HB.out)
        clear BK416
        clear BK417
        clear BK418
        clear HB
        have BK416 := n0_
        have BK417 := n1_
        have BK418 := n2_
        have HB := n3_
        clear n0_ n1_ n2_ n3_
        refine start_ (n := 6) (S := fun w' => w'.cell? ⟨gb416, 0, none⟩ = some (.int .u64 a1_0) ∧ w'.cell? ⟨gb416, 1, none⟩ = some (.int .u64 a1_1)) (ds := []) #[false, false, false, false, false, false] (by kernel_rfl) rfl rfl ⟨(blk_cell BK416.out 0).trans rfl, (blk_cell BK416.out 1).trans rfl⟩ (fun hHeld => ?_)
        generalize w151.drew = w152 at BK416 BK417 BK418 HB hHeld ⊢
        refine pure_ (i := 0) (N := some 15) (v := ?_) (a' := ?_) #[true, false, false, false, false, false] rfl rfl (by kernel_rfl) (fun _ _ _ h => h) (Or.inl ⟨by rfl, ?_⟩) ?_ ?_
        rotate_left
        · intro w'
          go_simp
          with_reducible rfl
        rotate_left
        · simp only [Act.put, List.setIfInBounds_toArray, List.set_cons_zero, List.set_cons_succ, i64_w, i32_w]
          rfl
        refine take_ (i := 1) (N := some 16) (v := ?_) (a' := ?_) #[true, true, false, false, false, false] rfl rfl (by kernel_rfl) (fun _ _ _ h => h) (Or.inl ⟨by rfl, ?_⟩) hHeld ?_ ?_
        rotate_left
        · rintro w' ⟨s0, s1⟩
          go_simp
          with_reducible rfl
        rotate_left
        · simp only [Act.put, List.setIfInBounds_toArray, List.set_cons_zero, List.set_cons_succ, i64_w, i32_w]
          rfl
        refine one_ (i := 2) (N := some 11) #[true, true, true, false, false, false] rfl rfl (by kernel_rfl) (by decide) (fun K hK => ?_)
        refine box_step ?hg (N := 11) ?hd (cs := #[.int .u64 0, .int .u64 0]) (t := 53) ?hr ?_; (case hd => rfl); (case hg => rfl); (case hr => first | (go_simp; done) | (go_simp; rfl))
        intro gb419 hg w153 hbox hb
        have n0_ := Aside0.mk (bK BK416 hb)
        have n1_ := Aside0.mk (bK BK417 hb)
        have n2_ := Aside0.mk (bK BK418 hb)
        have n3_ := Aside0.mk (bS hb)
        have n4_ := Aside0.mk (hbox)
        have n5_ := Aside0.mk ((by rw [hg]; exact (below_size (bE)) : w.heap.size ≤ gb419))
        have n6_ := Aside0.mk ((by rw [hg]; exact (below_size (bE)) : w.heap.size ≤ gb419))
        have n7_ := Aside0.mk ((by rw [hg]; exact Nat.ne_of_lt (blk_lt (g := gb416) (o := .cells #[.int .u64 a1_0, .int .u64 a1_1] 53 (0, 0)) (by (with_reducible repeat (first | refine blk_drewN ?_ _ | refine blk_drew ?_ | refine blk_alloc ?_ _)); exact BK416.out)) : gb416 ≠ gb419))
        have n8_ := Aside0.mk ((by rw [hg]; exact Nat.ne_of_gt (blk_lt (g := gb416) (o := .cells #[.int .u64 a1_0, .int .u64 a1_1] 53 (0, 0)) (by (with_reducible repeat (first | refine blk_drewN ?_ _ | refine blk_drew ?_ | refine blk_alloc ?_ _)); exact BK416.out)) : gb419 ≠ gb416))
        have n9_ := Aside0.mk ((by rw [hg]; exact Nat.ne_of_lt (blk_lt (g := gb417) (o := .cells #[.int .u64 a3_0, .int .u64 a3_1] 53 (0, 0)) (by (with_reducible repeat (first | refine blk_drewN ?_ _ | refine blk_drew ?_ | refine blk_alloc ?_ _)); exact BK417.out)) : gb417 ≠ gb419))
        have n10_ := Aside0.mk ((by rw [hg]; exact Nat.ne_of_gt (blk_lt (g := gb417) (o := .cells #[.int .u64 a3_0, .int .u64 a3_1] 53 (0, 0)) (by (with_reducible repeat (first | refine blk_drewN ?_ _ | refine blk_drew ?_ | refine blk_alloc ?_ _)); exact BK417.out)) : gb419 ≠ gb417))
        have n11_ := Aside0.mk ((by rw [hg]; exact Nat.ne_of_lt (blk_lt (g := gb418) (o := .cells #[.int .i64 0, .int .u64 0] 24 (0, 0)) (by (with_reducible repeat (first | refine blk_drewN ?_ _ | refine blk_drew ?_ | refine blk_alloc ?_ _)); exact BK418.out)) : gb418 ≠ gb419))
        have n12_ := Aside0.mk ((by rw [hg]; exact Nat.ne_of_gt (blk_lt (g := gb418) (o := .cells #[.int .i64 0, .int .u64 0] 24 (0, 0)) (by (with_reducible repeat (first | refine blk_drewN ?_ _ | refine blk_drew ?_ | refine blk_alloc ?_ _)); exact BK418.out)) : gb419 ≠ gb418))
        clear BK416
        clear BK417
        clear BK418
        clear HB
        have BK416 := n0_
        have BK417 := n1_
        have BK418 := n2_
        have HB := n3_
        have BK419 := n4_
        have GW419 := n5_
        have GE419 := n6_
        have NB416_419 := n7_
        have NB419_416 := n8_
        have NB417_419 := n9_
        have NB419_417 := n10_
        have NB418_419 := n11_
        have NB419_418 := n12_
        clear n0_ n1_ n2_ n3_ n4_ n5_ n6_ n7_ n8_ n9_ n10_ n11_ n12_
        clear hb hbox hg
        refine hK.out _ _ ⟨(blk_cell BK416.out 0).trans rfl, (blk_cell BK416.out 1).trans rfl⟩ (fun hHeld => ?_)
        clear hK K
        refine norm_ (a' := ?_) ?_ ?_
        rotate_left
        · show Act.put _ (some 11) _ = _
          simp only [Act.put, List.setIfInBounds_toArray, List.set_cons_zero, List.set_cons_succ, i64_w, i32_w]
          rfl
        refine pure_ (i := 3) (N := some 10) (v := ?_) (a' := ?_) #[true, true, true, true, false, false] rfl rfl (by kernel_rfl) (fun _ _ _ h => h) (Or.inl ⟨by rfl, ?_⟩) ?_ ?_
        rotate_left
        · intro w'
          go_simp
          with_reducible rfl
        rotate_left
        · simp only [Act.put, List.setIfInBounds_toArray, List.set_cons_zero, List.set_cons_succ, i64_w, i32_w]
          rfl
        refine one_ (i := 4) (N := none) #[true, true, true, true, true, false] rfl rfl (by kernel_rfl) (by decide) (fun K hK => ?_)
        have hs154 : w153.cell? ⟨gb419, 0, none⟩ = some (.int .u64 0) := (blk_cell BK419.out 0).trans rfl
        have hfs154 := blk_frozen BK419.out 0
        have hns154_0 := NB416_419.out
        have hns154_1 := NB417_419.out
        have hns154_2 := NB418_419.out
        have hms154_0 := NB419_416.out
        have hms154_1 := NB419_417.out
        have hms154_2 := NB419_418.out
        have hs155 : w153.cell? ⟨gb419, 1, none⟩ = some (.int .u64 0) := (blk_cell BK419.out 1).trans rfl
        have hfs155 := blk_frozen BK419.out 1
        have hns155_0 := NB416_419.out
        have hns155_1 := NB417_419.out
        have hns155_2 := NB418_419.out
        have hms155_0 := NB419_416.out
        have hms155_1 := NB419_417.out
        have hms155_2 := NB419_418.out
        refine skip_ (w1 := ?_) (by rfl) rfl ?_ ?_
        rotate_left
        · go_simp
          rfl
        refine hK.out _ _ ⟨((cell_far (p := ⟨gb419, _, none⟩) NB416_419.out _).trans (((cell_far (p := ⟨gb419, _, none⟩) NB416_419.out _).trans (hHeld.1)))), ((cell_far (p := ⟨gb419, _, none⟩) NB416_419.out _).trans (((cell_far (p := ⟨gb419, _, none⟩) NB416_419.out _).trans (hHeld.2))))⟩ (fun hHeld => ?_)
        clear hK K
        refine pure_ (i := 5) (N := some 12) (v := ?_) (a' := ?_) #[true, true, true, true, true, true] rfl rfl (by kernel_rfl) (fun _ _ _ h => h) (Or.inl ⟨by rfl, ?_⟩) ?_ ?_
        rotate_left
        · intro w'
          go_simp
          with_reducible rfl
        rotate_left
        · simp only [Act.put, List.setIfInBounds_toArray, List.set_cons_zero, List.set_cons_succ, i64_w, i32_w]
          rfl
        refine done_ (by kernel_rfl) ?_
        have hnb156 := NB416_417.out
        have hnc156 := NB417_416.out
        have hnb157 := NB416_418.out
        have hnc157 := NB418_416.out
        have hnb158 := NB416_419.out
        have hnc158 := NB419_416.out
        have hcz159_0 : w153.cell? ⟨gb416, 0, none⟩ = some (.int .u64 a1_0) := (blk_cell BK416.out 0).trans rfl
        have hcz159_1 : w153.cell? ⟨gb416, 1, none⟩ = some (.int .u64 a1_1) := (blk_cell BK416.out 1).trans rfl
        have hfz159_0 := blk_frozen BK416.out 0
        have hfz159_1 := blk_frozen BK416.out 1
        have hnb160 := NB417_418.out
        have hnc160 := NB418_417.out
        have hnb161 := NB417_419.out
        have hnc161 := NB419_417.out
        have hcz162_0 : w153.cell? ⟨gb417, 0, none⟩ = some (.int .u64 a3_0) := (blk_cell BK417.out 0).trans rfl
        have hcz162_1 : w153.cell? ⟨gb417, 1, none⟩ = some (.int .u64 a3_1) := (blk_cell BK417.out 1).trans rfl
        have hfz162_0 := blk_frozen BK417.out 0
        have hfz162_1 := blk_frozen BK417.out 1
        try go_wp2_with (first | ((with_reducible refine gate_callee (f := 50) rfl ?_); refine goesL_ (some 33) rfl rfl Try.func50 (by kernel_rfl) rfl #[.agg #[.int .u64 a1_0, .int .u64 a1_1], .agg #[.int .u64 a3_0, .int .u64 a3_1]] rfl aG ?_; (with_reducible refine (corebankref01_Less.calls a1_0 a1_1 a3_0 a3_1 false _ A85.out).mono ?_); rintro e w163 ⟨rfl, hb⟩; refine ⟨_, rfl, ?_⟩; replace BK416 := Aside0.mk (blk_below (g := gb416) (o := .cells #[.int .u64 a1_0, .int .u64 a1_1] 53 (0, 0)) (by (with_reducible repeat (first | refine blk_drewN ?_ _ | refine blk_drew ?_ | refine blk_alloc ?_ _)); refine blk_far ?_ NB416_419.out _; (with_reducible repeat (first | refine blk_drewN ?_ _ | refine blk_drew ?_ | refine blk_alloc ?_ _)); refine blk_far ?_ NB416_419.out _; (with_reducible repeat (first | refine blk_drewN ?_ _ | refine blk_drew ?_ | refine blk_alloc ?_ _)); exact BK416.out) hb); replace BK417 := Aside0.mk (blk_below (g := gb417) (o := .cells #[.int .u64 a3_0, .int .u64 a3_1] 53 (0, 0)) (by (with_reducible repeat (first | refine blk_drewN ?_ _ | refine blk_drew ?_ | refine blk_alloc ?_ _)); refine blk_far ?_ NB417_419.out _; (with_reducible repeat (first | refine blk_drewN ?_ _ | refine blk_drew ?_ | refine blk_alloc ?_ _)); refine blk_far ?_ NB417_419.out _; (with_reducible repeat (first | refine blk_drewN ?_ _ | refine blk_drew ?_ | refine blk_alloc ?_ _)); exact BK417.out) hb); replace BK418 := Aside0.mk (blk_below (g := gb418) (o := .cells #[.int .i64 0, .int .u64 0] 24 (0, 0)) (by (with_reducible repeat (first | refine blk_drewN ?_ _ | refine blk_drew ?_ | refine blk_alloc ?_ _)); refine blk_far ?_ NB418_419.out _; (with_reducible repeat (first | refine blk_drewN ?_ _ | refine blk_drew ?_ | refine blk_alloc ?_ _)); refine blk_far ?_ NB418_419.out _; (with_reducible repeat (first | refine blk_drewN ?_ _ | refine blk_drew ?_ | refine blk_alloc ?_ _)); exact BK418.out) hb); replace BK419 := Aside0.mk (blk_below (g := gb419) (o := .cells #[.int .u64 a1_0, .int .u64 a1_1] 53 (0, 0)) (by (with_reducible repeat (first | refine blk_drewN ?_ _ | refine blk_drew ?_ | refine blk_alloc ?_ _)); refine blk_put (cs := #[.int .u64 a1_0, .int .u64 0]) ?_ 1 _ rfl; (with_reducible repeat (first | refine blk_drewN ?_ _ | refine blk_drew ?_ | refine blk_alloc ?_ _)); refine blk_put (cs := #[.int .u64 0, .int .u64 0]) ?_ 0 _ rfl; (with_reducible repeat (first | refine blk_drewN ?_ _ | refine blk_drew ?_ | refine blk_alloc ?_ _)); exact BK419.out) hb); replace HB := Aside0.mk (bS hb); (try clear hb); (try clear hb2); (try clear hk); (try clear hi); have hcz164_0 : w163.cell? ⟨gb416, 0, none⟩ = some (.int .u64 a1_0) := (blk_cell BK416.out 0).trans rfl; have hcz164_1 : w163.cell? ⟨gb416, 1, none⟩ = some (.int .u64 a1_1) := (blk_cell BK416.out 1).trans rfl; have hfz164_0 := blk_frozen BK416.out 0; have hfz164_1 := blk_frozen BK416.out 1; have hcz165_0 : w163.cell? ⟨gb417, 0, none⟩ = some (.int .u64 a3_0) := (blk_cell BK417.out 0).trans rfl; have hcz165_1 : w163.cell? ⟨gb417, 1, none⟩ = some (.int .u64 a3_1) := (blk_cell BK417.out 1).trans rfl; have hfz165_0 := blk_frozen BK417.out 0; have hfz165_1 := blk_frozen BK417.out 1) | ((with_reducible refine gate_callee (f := 51) rfl ?_); refine goesL_ (some 19) rfl rfl Try.func51 (by kernel_rfl) rfl #[.agg #[.int .u64 a1_0, .int .u64 a1_1], .agg #[.int .u64 a3_0, .int .u64 a3_1]] rfl aG ?_; (with_reducible refine (corebankref01_minus.calls a1_0 a1_1 a3_0 a3_1 t434 t435 _ A146.out).mono ?_); rintro e w166 ⟨rfl, hb⟩; refine ⟨_, rfl, ?_⟩; replace BK416 := Aside0.mk (bK BK416 hb); replace BK417 := Aside0.mk (bK BK417 hb); replace BK418 := Aside0.mk (bK BK418 hb); replace BK419 := Aside0.mk (bK BK419 hb); replace HB := Aside0.mk (bS hb); (try clear hb); (try clear hb2); (try clear hk); (try clear hi); have hnb167 := NB419_418.out; have hnc167 := NB418_419.out; have hcz168_0 : w166.cell? ⟨gb419, 0, none⟩ = some (.int .u64 a1_0) := (blk_cell BK419.out 0).trans rfl; have hcz168_1 : w166.cell? ⟨gb419, 1, none⟩ = some (.int .u64 a1_1) := (blk_cell BK419.out 1).trans rfl; have hfz168_0 := blk_frozen BK419.out 0; have hfz168_1 := blk_frozen BK419.out 1) | ((with_reducible refine gate_callee (f := 38) rfl ?_); refine goesL_ (some 41) rfl rfl Try.func38 (by kernel_rfl) rfl #[.bool a0, .agg #[.int .u64 t434, .int .u64 t435]] rfl aG ?_; (with_reducible refine (corebankref01_Join.calls a0 t434 t435 t436 t437 true _ A147.out).mono ?_); rintro e w169 ⟨rfl, hb⟩; refine ⟨_, rfl, ?_⟩; replace BK416 := Aside0.mk (blk_below (g := gb416) (o := .cells #[.int .u64 a1_0, .int .u64 a1_1] 53 (0, 0)) (by (with_reducible repeat (first | refine blk_drewN ?_ _ | refine blk_drew ?_ | refine blk_alloc ?_ _)); refine blk_far ?_ NB416_419.out _; (with_reducible repeat (first | refine blk_drewN ?_ _ | refine blk_drew ?_ | refine blk_alloc ?_ _)); refine blk_far ?_ NB416_419.out _; (with_reducible repeat (first | refine blk_drewN ?_ _ | refine blk_drew ?_ | refine blk_alloc ?_ _)); exact BK416.out) hb); replace BK417 := Aside0.mk (blk_below (g := gb417) (o := .cells #[.int .u64 a3_0, .int .u64 a3_1] 53 (0, 0)) (by (with_reducible repeat (first | refine blk_drewN ?_ _ | refine blk_drew ?_ | refine blk_alloc ?_ _)); refine blk_far ?_ NB417_419.out _; (with_reducible repeat (first | refine blk_drewN ?_ _ | refine blk_drew ?_ | refine blk_alloc ?_ _)); refine blk_far ?_ NB417_419.out _; (with_reducible repeat (first | refine blk_drewN ?_ _ | refine blk_drew ?_ | refine blk_alloc ?_ _)); exact BK417.out) hb); replace BK418 := Aside0.mk (blk_below (g := gb418) (o := .cells #[.int .i64 0, .int .u64 0] 24 (0, 0)) (by (with_reducible repeat (first | refine blk_drewN ?_ _ | refine blk_drew ?_ | refine blk_alloc ?_ _)); refine blk_far ?_ NB418_419.out _; (with_reducible repeat (first | refine blk_drewN ?_ _ | refine blk_drew ?_ | refine blk_alloc ?_ _)); refine blk_far ?_ NB418_419.out _; (with_reducible repeat (first | refine blk_drewN ?_ _ | refine blk_drew ?_ | refine blk_alloc ?_ _)); exact BK418.out) hb); replace BK419 := Aside0.mk (blk_below (g := gb419) (o := .cells #[.int .u64 t434, .int .u64 t435] 53 (0, 0)) (by (with_reducible repeat (first | refine blk_drewN ?_ _ | refine blk_drew ?_ | refine blk_alloc ?_ _)); refine blk_put (cs := #[.int .u64 t434, .int .u64 a1_1]) ?_ 1 _ rfl; (with_reducible repeat (first | refine blk_drewN ?_ _ | refine blk_drew ?_ | refine blk_alloc ?_ _)); refine blk_put (cs := #[.int .u64 a1_0, .int .u64 a1_1]) ?_ 0 _ rfl; (with_reducible repeat (first | refine blk_drewN ?_ _ | refine blk_drew ?_ | refine blk_alloc ?_ _)); exact BK419.out) hb); replace HB := Aside0.mk (bS hb); (try clear hb); (try clear hb2); (try clear hk); (try clear hi)) | ((with_reducible refine gate_dst (N := 13) rfl ?_); refine box_event ?hg (N := 13) ?hd (cs := #[.int .i64 0, .int .u64 0]) (t := 24) ?hr ?_; (case hd => rfl); (case hg => rfl); (case hr => first | (go_simp; done) | (go_simp; rfl)); intro gb439 hg w170 hbox hb; have nn_ := bT hb hg; have bgb416_ := bN BK416 hb hg; have bgb417_ := bN BK417 hb hg; have bgb418_ := bN BK418 hb hg; have bgb419_ := bN BK419 hb hg; have BK439 := Aside0.mk (hbox); have GW439 := Aside0.mk nn_.2; have GE439 := GW439; have NB416_439 := Aside0.mk bgb416_.2.1; have NB439_416 := Aside0.mk bgb416_.2.2; have NB417_439 := Aside0.mk bgb417_.2.1; have NB439_417 := Aside0.mk bgb417_.2.2; have NB418_439 := Aside0.mk bgb418_.2.1; have NB439_418 := Aside0.mk bgb418_.2.2; have NB419_439 := Aside0.mk bgb419_.2.1; have NB439_419 := Aside0.mk bgb419_.2.2; replace BK416 := Aside0.mk bgb416_.1; replace BK417 := Aside0.mk bgb417_.1; replace BK418 := Aside0.mk bgb418_.1; replace BK419 := Aside0.mk bgb419_.1; replace HB := Aside0.mk nn_.1; clear nn_ bgb416_ bgb417_ bgb418_ bgb419_; clear hb hbox hg; have hnb171 := NB439_416.out; have hnc171 := NB416_439.out; have hnb172 := NB439_417.out; have hnc172 := NB417_439.out; have hnb173 := NB439_418.out; have hnc173 := NB418_439.out; have hnb174 := NB439_419.out; have hnc174 := NB419_439.out; have hcz175_0 : w170.cell? ⟨gb439, 0, none⟩ = some (.int .i64 0) := (blk_cell BK439.out 0).trans rfl; have hcz175_1 : w170.cell? ⟨gb439, 1, none⟩ = some (.int .u64 0) := (blk_cell BK439.out 1).trans rfl; have hfz175_0 := blk_frozen BK439.out 0; have hfz175_1 := blk_frozen BK439.out 1; have hcz176_0 : w170.cell? ⟨gb418, 0, none⟩ = some (.int .i64 0) := (blk_cell BK418.out 0).trans rfl; have hcz176_1 : w170.cell? ⟨gb418, 1, none⟩ = some (.int .u64 0) := (blk_cell BK418.out 1).trans rfl; have hfz176_0 := blk_frozen BK418.out 0; have hfz176_1 := blk_frozen BK418.out 1))
        refine bodyPost_ret (results_ct rfl _ _ gb418 24 #[.int .i64 t436, .int .u64 t437] (0, 0) _ rfl (by (with_reducible repeat (first | refine blk_drewN ?_ _ | refine blk_drew ?_ | refine blk_alloc ?_ _)); refine blk_put (cs := #[.int .i64 t436, .int .u64 0]) ?_ 1 _ rfl; (with_reducible repeat (first | refine blk_drewN ?_ _ | refine blk_drew ?_ | refine blk_alloc ?_ _)); refine blk_put (cs := #[.int .i64 0, .int .u64 0]) ?_ 0 _ rfl; (with_reducible repeat (first | refine blk_drewN ?_ _ | refine blk_drew ?_ | refine blk_alloc ?_ _)); refine blk_far ?_ NB418_439.out _; (with_reducible repeat (first | refine blk_drewN ?_ _ | refine blk_drew ?_ | refine blk_alloc ?_ _)); refine blk_far ?_ NB418_439.out _; (with_reducible repeat (first | refine blk_drewN ?_ _ | refine blk_drew ?_ | refine blk_alloc ?_ _)); exact BK418.out) Try.underlying24 rfl (by kernel_rfl)) rfl ?_
        exact ⟨by first | rfl | (simp [errW_none, errW_some] <;> rfl) | (simp [*, errW_none, errW_some] <;> rfl), bE⟩
      · replace c148 := Bool.eq_false_iff.mpr c148
        subst c148
        have H1 : (some (0, 0, 6)) = some (r1, r2, r3) := by rw [if_neg (show ¬ (false = true) by decide)] at H; exact H
        clear H
        have H := H1
        clear H1
        simp only [Option.some.injEq, Prod.mk.injEq] at H
        obtain ⟨rfl, rfl, rfl⟩ := H
        go_enter Try.func46, Try.ntmps46
        try go_wp2_with (first | ((with_reducible refine gate_dst (N := 5) rfl ?_); refine box_event ?hg (N := 5) ?hd (cs := #[.int .u64 a1_0, .int .u64 a1_1]) (t := 53) ?hr ?_; (case hd => rfl); (case hg => rfl); (case hr => first | (go_simp; done) | (go_simp; rfl)); intro gb416 hg w177 hbox hb; have nn_ := bT hb hg; have BK416 := Aside0.mk (hbox); have GW416 := Aside0.mk nn_.2; have GE416 := GW416; replace HB := Aside0.mk nn_.1; clear nn_; clear hb hbox hg) | ((with_reducible refine gate_dst (N := 7) rfl ?_); refine box_event ?hg (N := 7) ?hd (cs := #[.int .u64 a3_0, .int .u64 a3_1]) (t := 53) ?hr ?_; (case hd => rfl); (case hg => rfl); (case hr => first | (go_simp; done) | (go_simp; rfl)); intro gb417 hg w178 hbox hb; have nn_ := bT hb hg; have bgb416_ := bN BK416 hb hg; have BK417 := Aside0.mk (hbox); have GW417 := Aside0.mk nn_.2; have GE417 := GW417; have NB416_417 := Aside0.mk bgb416_.2.1; have NB417_416 := Aside0.mk bgb416_.2.2; replace BK416 := Aside0.mk bgb416_.1; replace HB := Aside0.mk nn_.1; clear nn_ bgb416_; clear hb hbox hg) | ((with_reducible refine gate_dst (N := 8) rfl ?_); refine box_event ?hg (N := 8) ?hd (cs := #[.int .i64 0, .int .u64 0]) (t := 24) ?hr ?_; (case hd => rfl); (case hg => rfl); (case hr => first | (go_simp; done) | (go_simp; rfl)); intro gb418 hg w179 hbox hb; have nn_ := bT hb hg; have bgb416_ := bN BK416 hb hg; have bgb417_ := bN BK417 hb hg; have BK418 := Aside0.mk (hbox); have GW418 := Aside0.mk nn_.2; have GE418 := GW418; have NB416_418 := Aside0.mk bgb416_.2.1; have NB418_416 := Aside0.mk bgb416_.2.2; have NB417_418 := Aside0.mk bgb417_.2.1; have NB418_417 := Aside0.mk bgb417_.2.2; replace BK416 := Aside0.mk bgb416_.1; replace BK417 := Aside0.mk bgb417_.1; replace HB := Aside0.mk nn_.1; clear nn_ bgb416_ bgb417_; clear hb hbox hg))
        have n0_ := Aside0.mk (blk_drew BK416.out)
        have n1_ := Aside0.mk (blk_drew BK417.out)
        have n2_ := Aside0.mk (blk_drew BK418.out)
        have n3_ := Aside0.mk (below_drew1 HB.out)
        clear BK416
        clear BK417
        clear BK418
        clear HB
        have BK416 := n0_
        have BK417 := n1_
        have BK418 := n2_
        have HB := n3_
        clear n0_ n1_ n2_ n3_
        refine start_ (n := 6) (S := fun w' => w'.cell? ⟨gb416, 0, none⟩ = some (.int .u64 a1_0) ∧ w'.cell? ⟨gb416, 1, none⟩ = some (.int .u64 a1_1)) (ds := []) #[false, false, false, false, false, false] (by kernel_rfl) rfl rfl ⟨(blk_cell BK416.out 0).trans rfl, (blk_cell BK416.out 1).trans rfl⟩ (fun hHeld => ?_)
        generalize w179.drew = w180 at BK416 BK417 BK418 HB hHeld ⊢
        refine pure_ (i := 0) (N := some 15) (v := ?_) (a' := ?_) #[true, false, false, false, false, false] rfl rfl (by kernel_rfl) (fun _ _ _ h => h) (Or.inl ⟨by rfl, ?_⟩) ?_ ?_
        rotate_left
        · intro w'
          go_simp
          with_reducible rfl
        rotate_left
        · simp only [Act.put, List.setIfInBounds_toArray, List.set_cons_zero, List.set_cons_succ, i64_w, i32_w]
          rfl
        refine take_ (i := 1) (N := some 16) (v := ?_) (a' := ?_) #[true, true, false, false, false, false] rfl rfl (by kernel_rfl) (fun _ _ _ h => h) (Or.inl ⟨by rfl, ?_⟩) hHeld ?_ ?_
        rotate_left
        · rintro w' ⟨s0, s1⟩
          go_simp
          with_reducible rfl
        rotate_left
        · simp only [Act.put, List.setIfInBounds_toArray, List.set_cons_zero, List.set_cons_succ, i64_w, i32_w]
          rfl
        refine one_ (i := 2) (N := some 11) #[true, true, true, false, false, false] rfl rfl (by kernel_rfl) (by decide) (fun K hK => ?_)
        refine box_step ?hg (N := 11) ?hd (cs := #[.int .u64 0, .int .u64 0]) (t := 53) ?hr ?_; (case hd => rfl); (case hg => rfl); (case hr => first | (go_simp; done) | (go_simp; rfl))
        intro gb419 hg w181 hbox hb
        have n0_ := Aside0.mk (bK BK416 hb)
        have n1_ := Aside0.mk (bK BK417 hb)
        have n2_ := Aside0.mk (bK BK418 hb)
        have n3_ := Aside0.mk (bS hb)
        have n4_ := Aside0.mk (hbox)
        have n5_ := Aside0.mk ((by rw [hg]; exact (below_size (bE)) : w.heap.size ≤ gb419))
        have n6_ := Aside0.mk ((by rw [hg]; exact (below_size (bE)) : w.heap.size ≤ gb419))
        have n7_ := Aside0.mk ((by rw [hg]; exact Nat.ne_of_lt (blk_lt (g := gb416) (o := .cells #[.int .u64 a1_0, .int .u64 a1_1] 53 (0, 0)) (by (with_reducible repeat (first | refine blk_drewN ?_ _ | refine blk_drew ?_ | refine blk_alloc ?_ _)); exact BK416.out)) : gb416 ≠ gb419))
        have n8_ := Aside0.mk ((by rw [hg]; exact Nat.ne_of_gt (blk_lt (g := gb416) (o := .cells #[.int .u64 a1_0, .int .u64 a1_1] 53 (0, 0)) (by (with_reducible repeat (first | refine blk_drewN ?_ _ | refine blk_drew ?_ | refine blk_alloc ?_ _)); exact BK416.out)) : gb419 ≠ gb416))
        have n9_ := Aside0.mk ((by rw [hg]; exact Nat.ne_of_lt (blk_lt (g := gb417) (o := .cells #[.int .u64 a3_0, .int .u64 a3_1] 53 (0, 0)) (by (with_reducible repeat (first | refine blk_drewN ?_ _ | refine blk_drew ?_ | refine blk_alloc ?_ _)); exact BK417.out)) : gb417 ≠ gb419))
        have n10_ := Aside0.mk ((by rw [hg]; exact Nat.ne_of_gt (blk_lt (g := gb417) (o := .cells #[.int .u64 a3_0, .int .u64 a3_1] 53 (0, 0)) (by (with_reducible repeat (first | refine blk_drewN ?_ _ | refine blk_drew ?_ | refine blk_alloc ?_ _)); exact BK417.out)) : gb419 ≠ gb417))
        have n11_ := Aside0.mk ((by rw [hg]; exact Nat.ne_of_lt (blk_lt (g := gb418) (o := .cells #[.int .i64 0, .int .u64 0] 24 (0, 0)) (by (with_reducible repeat (first | refine blk_drewN ?_ _ | refine blk_drew ?_ | refine blk_alloc ?_ _)); exact BK418.out)) : gb418 ≠ gb419))
        have n12_ := Aside0.mk ((by rw [hg]; exact Nat.ne_of_gt (blk_lt (g := gb418) (o := .cells #[.int .i64 0, .int .u64 0] 24 (0, 0)) (by (with_reducible repeat (first | refine blk_drewN ?_ _ | refine blk_drew ?_ | refine blk_alloc ?_ _)); exact BK418.out)) : gb419 ≠ gb418))
        clear BK416
        clear BK417
        clear BK418
        clear HB
        have BK416 := n0_
        have BK417 := n1_
        have BK418 := n2_
        have HB := n3_
        have BK419 := n4_
        have GW419 := n5_
        have GE419 := n6_
        have NB416_419 := n7_
        have NB419_416 := n8_
        have NB417_419 := n9_
        have NB419_417 := n10_
        have NB418_419 := n11_
        have NB419_418 := n12_
        clear n0_ n1_ n2_ n3_ n4_ n5_ n6_ n7_ n8_ n9_ n10_ n11_ n12_
        clear hb hbox hg
        refine hK.out _ _ ⟨(blk_cell BK416.out 0).trans rfl, (blk_cell BK416.out 1).trans rfl⟩ (fun hHeld => ?_)
        clear hK K
        refine norm_ (a' := ?_) ?_ ?_
        rotate_left
        · show Act.put _ (some 11) _ = _
          simp only [Act.put, List.setIfInBounds_toArray, List.set_cons_zero, List.set_cons_succ, i64_w, i32_w]
          rfl
        refine pure_ (i := 3) (N := some 10) (v := ?_) (a' := ?_) #[true, true, true, true, false, false] rfl rfl (by kernel_rfl) (fun _ _ _ h => h) (Or.inl ⟨by rfl, ?_⟩) ?_ ?_
        rotate_left
        · intro w'
          go_simp
          with_reducible rfl
        rotate_left
        · simp only [Act.put, List.setIfInBounds_toArray, List.set_cons_zero, List.set_cons_succ, i64_w, i32_w]
          rfl
        refine one_ (i := 4) (N := none) #[true, true, true, true, true, false] rfl rfl (by kernel_rfl) (by decide) (fun K hK => ?_)
        have hs182 : w181.cell? ⟨gb419, 0, none⟩ = some (.int .u64 0) := (blk_cell BK419.out 0).trans rfl
        have hfs182 := blk_frozen BK419.out 0
        have hns182_0 := NB416_419.out
        have hns182_1 := NB417_419.out
        have hns182_2 := NB418_419.out
        have hms182_0 := NB419_416.out
        have hms182_1 := NB419_417.out
        have hms182_2 := NB419_418.out
        have hs183 : w181.cell? ⟨gb419, 1, none⟩ = some (.int .u64 0) := (blk_cell BK419.out 1).trans rfl
        have hfs183 := blk_frozen BK419.out 1
        have hns183_0 := NB416_419.out
        have hns183_1 := NB417_419.out
        have hns183_2 := NB418_419.out
        have hms183_0 := NB419_416.out
        have hms183_1 := NB419_417.out
        have hms183_2 := NB419_418.out
        refine skip_ (w1 := ?_) (by rfl) rfl ?_ ?_
        rotate_left
        · go_simp
          rfl
        refine hK.out _ _ ⟨((cell_far (p := ⟨gb419, _, none⟩) NB416_419.out _).trans (((cell_far (p := ⟨gb419, _, none⟩) NB416_419.out _).trans (hHeld.1)))), ((cell_far (p := ⟨gb419, _, none⟩) NB416_419.out _).trans (((cell_far (p := ⟨gb419, _, none⟩) NB416_419.out _).trans (hHeld.2))))⟩ (fun hHeld => ?_)
        clear hK K
        refine pure_ (i := 5) (N := some 12) (v := ?_) (a' := ?_) #[true, true, true, true, true, true] rfl rfl (by kernel_rfl) (fun _ _ _ h => h) (Or.inl ⟨by rfl, ?_⟩) ?_ ?_
        rotate_left
        · intro w'
          go_simp
          with_reducible rfl
        rotate_left
        · simp only [Act.put, List.setIfInBounds_toArray, List.set_cons_zero, List.set_cons_succ, i64_w, i32_w]
          rfl
        refine done_ (by kernel_rfl) ?_
        have hnb184 := NB416_417.out
        have hnc184 := NB417_416.out
        have hnb185 := NB416_418.out
        have hnc185 := NB418_416.out
        have hnb186 := NB416_419.out
        have hnc186 := NB419_416.out
        have hcz187_0 : w181.cell? ⟨gb416, 0, none⟩ = some (.int .u64 a1_0) := (blk_cell BK416.out 0).trans rfl
        have hcz187_1 : w181.cell? ⟨gb416, 1, none⟩ = some (.int .u64 a1_1) := (blk_cell BK416.out 1).trans rfl
        have hfz187_0 := blk_frozen BK416.out 0
        have hfz187_1 := blk_frozen BK416.out 1
        have hnb188 := NB417_418.out
        have hnc188 := NB418_417.out
        have hnb189 := NB417_419.out
        have hnc189 := NB419_417.out
        have hcz190_0 : w181.cell? ⟨gb417, 0, none⟩ = some (.int .u64 a3_0) := (blk_cell BK417.out 0).trans rfl
        have hcz190_1 : w181.cell? ⟨gb417, 1, none⟩ = some (.int .u64 a3_1) := (blk_cell BK417.out 1).trans rfl
        have hfz190_0 := blk_frozen BK417.out 0
        have hfz190_1 := blk_frozen BK417.out 1
        try go_wp2_with (first | ((with_reducible refine gate_callee (f := 50) rfl ?_); refine goesL_ (some 33) rfl rfl Try.func50 (by kernel_rfl) rfl #[.agg #[.int .u64 a1_0, .int .u64 a1_1], .agg #[.int .u64 a3_0, .int .u64 a3_1]] rfl aG ?_; (with_reducible refine (corebankref01_Less.calls a1_0 a1_1 a3_0 a3_1 false _ A85.out).mono ?_); rintro e w191 ⟨rfl, hb⟩; refine ⟨_, rfl, ?_⟩; replace BK416 := Aside0.mk (blk_below (g := gb416) (o := .cells #[.int .u64 a1_0, .int .u64 a1_1] 53 (0, 0)) (by (with_reducible repeat (first | refine blk_drewN ?_ _ | refine blk_drew ?_ | refine blk_alloc ?_ _)); refine blk_far ?_ NB416_419.out _; (with_reducible repeat (first | refine blk_drewN ?_ _ | refine blk_drew ?_ | refine blk_alloc ?_ _)); refine blk_far ?_ NB416_419.out _; (with_reducible repeat (first | refine blk_drewN ?_ _ | refine blk_drew ?_ | refine blk_alloc ?_ _)); exact BK416.out) hb); replace BK417 := Aside0.mk (blk_below (g := gb417) (o := .cells #[.int .u64 a3_0, .int .u64 a3_1] 53 (0, 0)) (by (with_reducible repeat (first | refine blk_drewN ?_ _ | refine blk_drew ?_ | refine blk_alloc ?_ _)); refine blk_far ?_ NB417_419.out _; (with_reducible repeat (first | refine blk_drewN ?_ _ | refine blk_drew ?_ | refine blk_alloc ?_ _)); refine blk_far ?_ NB417_419.out _; (with_reducible repeat (first | refine blk_drewN ?_ _ | refine blk_drew ?_ | refine blk_alloc ?_ _)); exact BK417.out) hb); replace BK418 := Aside0.mk (blk_below (g := gb418) (o := .cells #[.int .i64 0, .int .u64 0] 24 (0, 0)) (by (with_reducible repeat (first | refine blk_drewN ?_ _ | refine blk_drew ?_ | refine blk_alloc ?_ _)); refine blk_far ?_ NB418_419.out _; (with_reducible repeat (first | refine blk_drewN ?_ _ | refine blk_drew ?_ | refine blk_alloc ?_ _)); refine blk_far ?_ NB418_419.out _; (with_reducible repeat (first | refine blk_drewN ?_ _ | refine blk_drew ?_ | refine blk_alloc ?_ _)); exact BK418.out) hb); replace BK419 := Aside0.mk (blk_below (g := gb419) (o := .cells #[.int .u64 a1_0, .int .u64 a1_1] 53 (0, 0)) (by (with_reducible repeat (first | refine blk_drewN ?_ _ | refine blk_drew ?_ | refine blk_alloc ?_ _)); refine blk_put (cs := #[.int .u64 a1_0, .int .u64 0]) ?_ 1 _ rfl; (with_reducible repeat (first | refine blk_drewN ?_ _ | refine blk_drew ?_ | refine blk_alloc ?_ _)); refine blk_put (cs := #[.int .u64 0, .int .u64 0]) ?_ 0 _ rfl; (with_reducible repeat (first | refine blk_drewN ?_ _ | refine blk_drew ?_ | refine blk_alloc ?_ _)); exact BK419.out) hb); replace HB := Aside0.mk (bS hb); (try clear hb); (try clear hb2); (try clear hk); (try clear hi); have hcz192_0 : w191.cell? ⟨gb416, 0, none⟩ = some (.int .u64 a1_0) := (blk_cell BK416.out 0).trans rfl; have hcz192_1 : w191.cell? ⟨gb416, 1, none⟩ = some (.int .u64 a1_1) := (blk_cell BK416.out 1).trans rfl; have hfz192_0 := blk_frozen BK416.out 0; have hfz192_1 := blk_frozen BK416.out 1; have hcz193_0 : w191.cell? ⟨gb417, 0, none⟩ = some (.int .u64 a3_0) := (blk_cell BK417.out 0).trans rfl; have hcz193_1 : w191.cell? ⟨gb417, 1, none⟩ = some (.int .u64 a3_1) := (blk_cell BK417.out 1).trans rfl; have hfz193_0 := blk_frozen BK417.out 0; have hfz193_1 := blk_frozen BK417.out 1) | ((with_reducible refine gate_callee (f := 51) rfl ?_); refine goesL_ (some 19) rfl rfl Try.func51 (by kernel_rfl) rfl #[.agg #[.int .u64 a1_0, .int .u64 a1_1], .agg #[.int .u64 a3_0, .int .u64 a3_1]] rfl aG ?_; (with_reducible refine (corebankref01_minus.calls a1_0 a1_1 a3_0 a3_1 t434 t435 _ A146.out).mono ?_); rintro e w194 ⟨rfl, hb⟩; refine ⟨_, rfl, ?_⟩; replace BK416 := Aside0.mk (bK BK416 hb); replace BK417 := Aside0.mk (bK BK417 hb); replace BK418 := Aside0.mk (bK BK418 hb); replace BK419 := Aside0.mk (bK BK419 hb); replace HB := Aside0.mk (bS hb); (try clear hb); (try clear hb2); (try clear hk); (try clear hi); have hnb195 := NB419_418.out; have hnc195 := NB418_419.out; have hcz196_0 : w194.cell? ⟨gb419, 0, none⟩ = some (.int .u64 a1_0) := (blk_cell BK419.out 0).trans rfl; have hcz196_1 : w194.cell? ⟨gb419, 1, none⟩ = some (.int .u64 a1_1) := (blk_cell BK419.out 1).trans rfl; have hfz196_0 := blk_frozen BK419.out 0; have hfz196_1 := blk_frozen BK419.out 1) | ((with_reducible refine gate_callee (f := 38) rfl ?_); refine goesL_ (some 41) rfl rfl Try.func38 (by kernel_rfl) rfl #[.bool a0, .agg #[.int .u64 t434, .int .u64 t435]] rfl aG ?_; (with_reducible refine (corebankref01_Join.calls a0 t434 t435 t436 t437 false _ A147.out).mono ?_); rintro e w197 ⟨rfl, hb⟩; refine ⟨_, rfl, ?_⟩; replace BK416 := Aside0.mk (blk_below (g := gb416) (o := .cells #[.int .u64 a1_0, .int .u64 a1_1] 53 (0, 0)) (by (with_reducible repeat (first | refine blk_drewN ?_ _ | refine blk_drew ?_ | refine blk_alloc ?_ _)); refine blk_far ?_ NB416_419.out _; (with_reducible repeat (first | refine blk_drewN ?_ _ | refine blk_drew ?_ | refine blk_alloc ?_ _)); refine blk_far ?_ NB416_419.out _; (with_reducible repeat (first | refine blk_drewN ?_ _ | refine blk_drew ?_ | refine blk_alloc ?_ _)); exact BK416.out) hb); replace BK417 := Aside0.mk (blk_below (g := gb417) (o := .cells #[.int .u64 a3_0, .int .u64 a3_1] 53 (0, 0)) (by (with_reducible repeat (first | refine blk_drewN ?_ _ | refine blk_drew ?_ | refine blk_alloc ?_ _)); refine blk_far ?_ NB417_419.out _; (with_reducible repeat (first | refine blk_drewN ?_ _ | refine blk_drew ?_ | refine blk_alloc ?_ _)); refine blk_far ?_ NB417_419.out _; (with_reducible repeat (first | refine blk_drewN ?_ _ | refine blk_drew ?_ | refine blk_alloc ?_ _)); exact BK417.out) hb); replace BK418 := Aside0.mk (blk_below (g := gb418) (o := .cells #[.int .i64 0, .int .u64 0] 24 (0, 0)) (by (with_reducible repeat (first | refine blk_drewN ?_ _ | refine blk_drew ?_ | refine blk_alloc ?_ _)); refine blk_far ?_ NB418_419.out _; (with_reducible repeat (first | refine blk_drewN ?_ _ | refine blk_drew ?_ | refine blk_alloc ?_ _)); refine blk_far ?_ NB418_419.out _; (with_reducible repeat (first | refine blk_drewN ?_ _ | refine blk_drew ?_ | refine blk_alloc ?_ _)); exact BK418.out) hb); replace BK419 := Aside0.mk (blk_below (g := gb419) (o := .cells #[.int .u64 t434, .int .u64 t435] 53 (0, 0)) (by (with_reducible repeat (first | refine blk_drewN ?_ _ | refine blk_drew ?_ | refine blk_alloc ?_ _)); refine blk_put (cs := #[.int .u64 t434, .int .u64 a1_1]) ?_ 1 _ rfl; (with_reducible repeat (first | refine blk_drewN ?_ _ | refine blk_drew ?_ | refine blk_alloc ?_ _)); refine blk_put (cs := #[.int .u64 a1_0, .int .u64 a1_1]) ?_ 0 _ rfl; (with_reducible repeat (first | refine blk_drewN ?_ _ | refine blk_drew ?_ | refine blk_alloc ?_ _)); exact BK419.out) hb); replace HB := Aside0.mk (bS hb); (try clear hb); (try clear hb2); (try clear hk); (try clear hi)) | ((with_reducible refine gate_dst (N := 13) rfl ?_); refine box_event ?hg (N := 13) ?hd (cs := #[.int .i64 0, .int .u64 0]) (t := 24) ?hr ?_; (case hd => rfl); (case hg => rfl); (case hr => first | (go_simp; done) | (go_simp; rfl)); intro gb439 hg w198 hbox hb; have nn_ := bT hb hg; have bgb416_ := bN BK416 hb hg; have bgb417_ := bN BK417 hb hg; have bgb418_ := bN BK418 hb hg; have bgb419_ := bN BK419 hb hg; have BK439 := Aside0.mk (hbox); have GW439 := Aside0.mk nn_.2; have GE439 := GW439; have NB416_439 := Aside0.mk bgb416_.2.1; have NB439_416 := Aside0.mk bgb416_.2.2; have NB417_439 := Aside0.mk bgb417_.2.1; have NB439_417 := Aside0.mk bgb417_.2.2; have NB418_439 := Aside0.mk bgb418_.2.1; have NB439_418 := Aside0.mk bgb418_.2.2; have NB419_439 := Aside0.mk bgb419_.2.1; have NB439_419 := Aside0.mk bgb419_.2.2; replace BK416 := Aside0.mk bgb416_.1; replace BK417 := Aside0.mk bgb417_.1; replace BK418 := Aside0.mk bgb418_.1; replace BK419 := Aside0.mk bgb419_.1; replace HB := Aside0.mk nn_.1; clear nn_ bgb416_ bgb417_ bgb418_ bgb419_; clear hb hbox hg; have hnb199 := NB439_416.out; have hnc199 := NB416_439.out; have hnb200 := NB439_417.out; have hnc200 := NB417_439.out; have hnb201 := NB439_418.out; have hnc201 := NB418_439.out; have hnb202 := NB439_419.out; have hnc202 := NB419_439.out; have hcz203_0 : w198.cell? ⟨gb439, 0, none⟩ = some (.int .i64 0) := (blk_cell BK439.out 0).trans rfl; have hcz203_1 : w198.cell? ⟨gb439, 1, none⟩ = some (.int .u64 0) := (blk_cell BK439.out 1).trans rfl; have hfz203_0 := blk_frozen BK439.out 0; have hfz203_1 := blk_frozen BK439.out 1; have hcz204_0 : w198.cell? ⟨gb418, 0, none⟩ = some (.int .i64 0) := (blk_cell BK418.out 0).trans rfl; have hcz204_1 : w198.cell? ⟨gb418, 1, none⟩ = some (.int .u64 0) := (blk_cell BK418.out 1).trans rfl; have hfz204_0 := blk_frozen BK418.out 0; have hfz204_1 := blk_frozen BK418.out 1))
        refine bodyPost_ret (results_ct rfl _ _ gb418 24 #[.int .i64 0, .int .u64 0] (0, 0) _ rfl (by (with_reducible repeat (first | refine blk_drewN ?_ _ | refine blk_drew ?_ | refine blk_alloc ?_ _)); refine blk_put (cs := #[.int .i64 0, .int .u64 0]) ?_ 1 _ rfl; (with_reducible repeat (first | refine blk_drewN ?_ _ | refine blk_drew ?_ | refine blk_alloc ?_ _)); refine blk_put (cs := #[.int .i64 0, .int .u64 0]) ?_ 0 _ rfl; (with_reducible repeat (first | refine blk_drewN ?_ _ | refine blk_drew ?_ | refine blk_alloc ?_ _)); refine blk_far ?_ NB418_439.out _; (with_reducible repeat (first | refine blk_drewN ?_ _ | refine blk_drew ?_ | refine blk_alloc ?_ _)); refine blk_far ?_ NB418_439.out _; (with_reducible repeat (first | refine blk_drewN ?_ _ | refine blk_drew ?_ | refine blk_alloc ?_ _)); exact BK418.out) Try.underlying24 rfl (by kernel_rfl)) rfl ?_
        exact ⟨by first | rfl | (simp [errW_none, errW_some] <;> rfl) | (simp [*, errW_none, errW_some] <;> rfl), bE⟩

end Go.Proofs.Ytkhocaehhflpcaa.PA
