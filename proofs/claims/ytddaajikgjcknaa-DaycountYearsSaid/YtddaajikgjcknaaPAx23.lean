/- Contracts of the Go functions and their plain Lean functions, written by a program of this session out of the translation. -/
import Derived.Test.YtddaajikgjcknaaPAx0
import Derived.Test.YtddaajikgjcknaaPAx5
import Derived.Test.YtddaajikgjcknaaPAx7
import Derived.Test.YtddaajikgjcknaaPAx22
namespace Go.Proofs.Ytddaajikgjcknaa.PA
open Go.RowKit Go.Proofs.YtddaajikgjcknaaW.PrintWords Go.Proofs.YtddaajikgjcknaaW.PrintLast Go.Proofs.YtddaajikgjcknaaW.PrintMore
attribute [local go_sem] max2_int min2_int max_two min_two max_three min_three max_four min_four   -- for this text's walks alone
set_option linter.unusedVariables false
set_option linter.unusedSimpArgs false

/-! ### corebanklaw06_DaycountYears: function 9 -/
mutual
def corebanklaw06_DaycountYears.j0 : Nat → Int → Int → Int → Int → Bool → Option (Bool)
  | 0, _, _, _, _, _ => none
  | k + 1, x1, x2, x7, x9, x31 => if x31 = true then ((corebanklaw06_lives.f k).bind fun t392 => (some t392)) else (if x1 = 1 then (if x2 = 1 then ((daycount_Sum.f k 3 x7 x9).bind fun t393 => (corebanklaw06_DaycountYears.j1 k x7 x9 (t393 != 1603080))) else (corebanklaw06_DaycountYears.j1 k x7 x9 false)) else (corebanklaw06_DaycountYears.j1 k x7 x9 false))
def corebanklaw06_DaycountYears.j1 : Nat → Int → Int → Bool → Option (Bool)
  | 0, _, _, _ => none
  | k + 1, x7, x9, x44 => if x44 = true then (none) else ((daycount_Sum.f k 4 x7 x9).bind fun t394 => (if t394 = 1603080 then ((daycount_Sum.f k 2 x7 x9).bind fun t395 => (if t395 ≥ 1603080 then ((corebanklaw06_lives.f k).bind fun t396 => (some t396)) else (none))) else (none)))
end
def corebanklaw06_DaycountYears.f (k : Nat) (a0 : Int) (a1 : Int) (a2 : Int) : Option (Bool) := (corebankref04_Day.f k a0 a1 a2).bind fun bt388 => ((corebankref04_Day.f k (wrap64 (a0 + 1)) a1 a2).bind fun bt390 => (if bt388.2 = 0 then (corebanklaw06_DaycountYears.j0 k a1 a2 bt388.1 bt390.1 (bt390.2 != 0)) else (corebanklaw06_DaycountYears.j0 k a1 a2 bt388.1 bt390.1 true)))
theorem corebanklaw06_DaycountYears.mono_l : ∀ k, (∀ y0 y1 y2 y3 y4, LeO (corebanklaw06_DaycountYears.j0 k y0 y1 y2 y3 y4) (corebanklaw06_DaycountYears.j0 (k + 1) y0 y1 y2 y3 y4)) ∧ (∀ y0 y1 y2, LeO (corebanklaw06_DaycountYears.j1 k y0 y1 y2) (corebanklaw06_DaycountYears.j1 (k + 1) y0 y1 y2))
  | 0 => ⟨fun _ _ _ _ _ r h => by simp [corebanklaw06_DaycountYears.j0] at h, fun _ _ _ r h => by simp [corebanklaw06_DaycountYears.j1] at h⟩
  | k + 1 => by
    obtain ⟨ih0, ih1⟩ := corebanklaw06_DaycountYears.mono_l k
    refine ⟨?_, ?_⟩
    · intro y0 y1 y2 y3 y4
      unfold corebanklaw06_DaycountYears.j0
      repeat' first
      | (with_reducible exact ih0 _ _ _ _ _)
      | (with_reducible exact ih1 _ _ _)
      | (with_reducible exact corebanklaw06_lives.mono _)
      | (with_reducible exact corebankref04_Day.mono _ _ _ _)
      | (with_reducible exact daycount_Sum.mono _ _ _ _)
      | (with_reducible exact LeO.refl _)
      | (with_reducible exact LeO.none _)
      | (with_reducible refine LeO.ite ?_ ?_)
      | (with_reducible refine LeO.bind ?_ (fun _ => ?_))
      | exact ih0 _ _ _ _ _
      | exact ih1 _ _ _
      | exact corebanklaw06_lives.mono _
      | exact corebankref04_Day.mono _ _ _ _
      | exact daycount_Sum.mono _ _ _ _
      | exact LeO.none _
      | refine LeO.ite ?_ ?_
      | refine LeO.bind ?_ (fun _ => ?_)
    · intro y0 y1 y2
      unfold corebanklaw06_DaycountYears.j1
      repeat' first
      | (with_reducible exact ih0 _ _ _ _ _)
      | (with_reducible exact ih1 _ _ _)
      | (with_reducible exact corebanklaw06_lives.mono _)
      | (with_reducible exact corebankref04_Day.mono _ _ _ _)
      | (with_reducible exact daycount_Sum.mono _ _ _ _)
      | (with_reducible exact LeO.refl _)
      | (with_reducible exact LeO.none _)
      | (with_reducible refine LeO.ite ?_ ?_)
      | (with_reducible refine LeO.bind ?_ (fun _ => ?_))
      | exact ih0 _ _ _ _ _
      | exact ih1 _ _ _
      | exact corebanklaw06_lives.mono _
      | exact corebankref04_Day.mono _ _ _ _
      | exact daycount_Sum.mono _ _ _ _
      | exact LeO.none _
      | refine LeO.ite ?_ ?_
      | refine LeO.bind ?_ (fun _ => ?_)
theorem corebanklaw06_DaycountYears.mono : ∀ a0 a1 a2 k, LeO (corebanklaw06_DaycountYears.f k a0 a1 a2) (corebanklaw06_DaycountYears.f (k + 1) a0 a1 a2) := by
  intro a0 a1 a2 k
  obtain ⟨ih0, ih1⟩ := corebanklaw06_DaycountYears.mono_l k
  unfold corebanklaw06_DaycountYears.f
  repeat' first
      | (with_reducible exact ih0 _ _ _ _ _)
      | (with_reducible exact ih1 _ _ _)
      | (with_reducible exact corebanklaw06_lives.mono _)
      | (with_reducible exact corebankref04_Day.mono _ _ _ _)
      | (with_reducible exact daycount_Sum.mono _ _ _ _)
      | (with_reducible exact LeO.refl _)
      | (with_reducible exact LeO.none _)
      | (with_reducible refine LeO.ite ?_ ?_)
      | (with_reducible refine LeO.bind ?_ (fun _ => ?_))
      | exact ih0 _ _ _ _ _
      | exact ih1 _ _ _
      | exact corebanklaw06_lives.mono _
      | exact corebankref04_Day.mono _ _ _ _
      | exact daycount_Sum.mono _ _ _ _
      | exact LeO.none _
      | refine LeO.ite ?_ ?_
      | refine LeO.bind ?_ (fun _ => ?_)
set_option maxHeartbeats 8000000 in
set_option maxRecDepth 100000 in
theorem corebanklaw06_DaycountYears.calls (k : Nat) (a0 : Int) (a1 : Int) (a2 : Int) (r : Bool) (w : World) (h : corebanklaw06_DaycountYears.f k a0 a1 a2 = some r) :
    Calls Try.prog 9 #[.int .i64 a0, .int .i64 a1, .int .i64 a2] w fun e w' => e = .returned (.bool r) ∧ Below w.heap.size w w' := by
  have HB := Aside0.mk (Below.refl w.heap.size w)
  have H : ((corebankref04_Day.f k a0 a1 a2).bind fun bt388 => ((corebankref04_Day.f k (wrap64 (a0 + 1)) a1 a2).bind fun bt390 => (if bt388.2 = 0 then (corebanklaw06_DaycountYears.j0 k a1 a2 bt388.1 bt390.1 (bt390.2 != 0)) else (corebanklaw06_DaycountYears.j0 k a1 a2 bt388.1 bt390.1 true)))) = some r := h
  clear h
  replace H := Option.bind_eq_some_iff.mp H
  obtain ⟨⟨t388, t389⟩, A40, H⟩ := H
  replace H : ((corebankref04_Day.f k (wrap64 (a0 + 1)) a1 a2).bind fun bt390 => (if t389 = 0 then (corebanklaw06_DaycountYears.j0 k a1 a2 t388 bt390.1 (bt390.2 != 0)) else (corebanklaw06_DaycountYears.j0 k a1 a2 t388 bt390.1 true))) = some r := H
  have A4 := Aside0.mk A40
  clear A40
  replace H := Option.bind_eq_some_iff.mp H
  obtain ⟨⟨t390, t391⟩, A50, H⟩ := H
  replace H : (if t389 = 0 then (corebanklaw06_DaycountYears.j0 k a1 a2 t388 t390 (t391 != 0)) else (corebanklaw06_DaycountYears.j0 k a1 a2 t388 t390 true)) = some r := H
  have A5 := Aside0.mk A50
  clear A50
  have HC6 := Aside0.mk H
  clear H
  go_enter Try.func9, Try.ntmps9
  go_upto_region 3 with (first | ((with_reducible refine gate_callee (f := 24) rfl ?_); refine goesL_ (some 15) rfl rfl Try.func24 (by kernel_rfl) rfl #[.int .i64 a0, .int .i64 a1, .int .i64 a2] rfl (by (try simp only [List.map_toArray, List.map_cons, List.map_nil]); first | done | rfl | (simp only [List.length_drop, List.length_take]; rfl) | ((conv => rhs; simp only [← ext_both]); rfl)) ?_; (with_reducible refine (corebankref04_Day.calls k a0 a1 a2 t388 t389 _ A4.out).mono ?_); rintro e w' ⟨rfl, ⟨nd, rfl⟩⟩; refine ⟨_, rfl, ?_⟩) | ((with_reducible refine gate_callee (f := 24) rfl ?_); refine goesL_ (some 23) rfl rfl Try.func24 (by kernel_rfl) rfl #[.int .i64 (wrap64 (a0 + 1)), .int .i64 a1, .int .i64 a2] rfl (by (try simp only [List.map_toArray, List.map_cons, List.map_nil]); first | done | rfl | (simp only [List.length_drop, List.length_take]; rfl) | ((conv => rhs; simp only [← ext_both]); rfl)) ?_; (with_reducible refine (corebankref04_Day.calls k (wrap64 (a0 + 1)) a1 a2 t390 t391 _ A5.out).mono ?_); rintro e w' ⟨rfl, ⟨nd, rfl⟩⟩; refine ⟨_, rfl, ?_⟩))
  (try simp only [Act.put, List.setIfInBounds_toArray, List.set_cons_zero, List.set_cons_succ])
  go_cut [31] (fun v31 wc => ∃ (kq : Nat) (x31_5 : Bool), v31 = .bool x31_5 ∧ Aside0 (corebanklaw06_DaycountYears.j0 kq a1 a2 t388 t390 x31_5 = some r) ∧ Aside0 (kq ≤ k) ∧ Aside0 (Below w.heap.size w wc))
  case first =>
    have H := HC6.out
    clear HC6
    by_cases c7 : t389 = 0
    · rw [if_pos c7] at H
      have c7b0 : (t389 == 0) = true := beq_iff_eq.mpr c7
      have c7b1 : (t389 != 0) = false := bne_eq_false_iff_eq.mpr c7
      clear c7
      (first | rw [c7b0] | (simp only [i64_w, i32_w]; rw [c7b0]) | skip)
      have H' := Aside0.mk H
      clear H
      go_wp2
      go_meet
      case rel => exact ⟨_, ((t391 != 0)), (by first | rfl | (simp; done) | (simp [*]; done)), H', ⟨by first | omega | exact Nat.le_refl _⟩, ⟨by repeat (first | (with_reducible first | exact HB.out | apply below_alloc | apply pw_below_drewN | apply below_drew1) | exact HB.out)⟩⟩
    · rw [if_neg c7] at H
      have c7b0 : (t389 == 0) = false := beq_eq_false_iff_ne.mpr c7
      have c7b1 : (t389 != 0) = true := bne_iff_ne.mpr c7
      (first | rw [c7b0] | (simp only [i64_w, i32_w]; rw [c7b0]) | skip)
      have H' := Aside0.mk H
      clear H
      go_wp2
      go_meet
      case rel => exact ⟨_, (true), (by first | rfl | (simp; done) | (simp [*]; done)), H', ⟨by first | omega | exact Nat.le_refl _⟩, ⟨by repeat (first | (with_reducible first | exact HB.out | apply below_alloc | apply pw_below_drewN | apply below_drew1) | exact HB.out)⟩⟩
  case rest =>
    clear HC6
    try clear c2
    try clear p2
    try clear p6
    try clear c7
    try clear c7b0
    try clear c7b1
    obtain ⟨kq, x31_5, rfl, HA, HJ5, HB⟩ := hcut
    cases kq with
    | zero => exact absurd HA.out (by simp [corebanklaw06_DaycountYears.j0])
    | succ kj5 =>
      have H := HA.out
      clear HA
      simp only [corebanklaw06_DaycountYears.j0] at H
      by_cases c8 : x31_5 = true
      · subst c8
        have H1 : ((corebanklaw06_lives.f kj5).bind fun t392 => (some t392)) = some r := by rw [if_pos rfl] at H; exact H
        clear H
        have H := H1
        clear H1
        replace H := Option.bind_eq_some_iff.mp H
        obtain ⟨t392, A90, H⟩ := H
        replace H : (some t392) = some r := H
        have A9 := Aside0.mk A90
        clear A90
        obtain rfl := Option.some.inj H
        go_wp2_with (first | ((with_reducible refine gate_callee (f := 14) rfl ?_); refine goesL_ (some 32) rfl rfl Try.func14 (by kernel_rfl) rfl #[] rfl (by (try simp only [List.map_toArray, List.map_cons, List.map_nil]); first | done | rfl | (simp only [List.length_drop, List.length_take]; rfl) | ((conv => rhs; simp only [← ext_both]); rfl)) ?_; (with_reducible refine (corebanklaw06_lives.calls kj5  t392 _ A9.out).mono ?_); rintro e w10 ⟨rfl, hb⟩; refine ⟨_, rfl, ?_⟩; have n0_ := Aside0.mk (below_step (by repeat (first | (with_reducible first | exact HB.out | apply below_alloc | apply pw_below_drewN | apply below_drew1) | exact HB.out)) hb); clear HB; have HB := n0_; clear n0_; (try clear hb); (try clear hb2); (try clear hk); (try clear hi)))
        go_ret
        exact ⟨by first | rfl | (simp [errW_none, errW_some] <;> rfl) | (simp [*, errW_none, errW_some] <;> rfl), by repeat (first | (with_reducible first | exact HB.out | apply below_alloc | apply pw_below_drewN | apply below_drew1) | exact HB.out)⟩
      · replace c8 := Bool.eq_false_iff.mpr c8
        subst c8
        have H1 : (if a1 = 1 then (if a2 = 1 then ((daycount_Sum.f kj5 3 t388 t390).bind fun t393 => (corebanklaw06_DaycountYears.j1 kj5 t388 t390 (t393 != 1603080))) else (corebanklaw06_DaycountYears.j1 kj5 t388 t390 false)) else (corebanklaw06_DaycountYears.j1 kj5 t388 t390 false)) = some r := by rw [if_neg (show ¬ (false = true) by decide)] at H; exact H
        clear H
        have H := H1
        clear H1
        have HC11 := Aside0.mk H
        clear H
        go_upto_region 5 with (fail)
        go_cut [44] (fun v44 wc => ∃ (kq : Nat) (x44_10 : Bool), v44 = .bool x44_10 ∧ Aside0 (corebanklaw06_DaycountYears.j1 kq t388 t390 x44_10 = some r) ∧ Aside0 (kq ≤ kj5) ∧ Aside0 (Below w.heap.size w wc))
        case first =>
          have H := HC11.out
          clear HC11
          by_cases c12 : a1 = 1
          · rw [if_pos c12] at H
            have c12b0 : (a1 == 1) = true := beq_iff_eq.mpr c12
            have c12b1 : (a1 != 1) = false := bne_eq_false_iff_eq.mpr c12
            clear c12
            (first | rw [c12b0] | (simp only [i64_w, i32_w]; rw [c12b0]) | skip)
            by_cases c13 : a2 = 1
            · rw [if_pos c13] at H
              have c13b0 : (a2 == 1) = true := beq_iff_eq.mpr c13
              have c13b1 : (a2 != 1) = false := bne_eq_false_iff_eq.mpr c13
              clear c13
              replace H := Option.bind_eq_some_iff.mp H
              obtain ⟨t393, A140, H⟩ := H
              replace H : (corebanklaw06_DaycountYears.j1 kj5 t388 t390 (t393 != 1603080)) = some r := H
              have A14 := Aside0.mk A140
              clear A140
              have H' := Aside0.mk H
              clear H
              go_wp2_with (first | (go_at_call 18; (with_reducible refine (daycount_Sum.calls kj5 3 t388 t390 t393 _ A14.out).mono ?_); rintro e w15 ⟨rfl, hb⟩; have n0_ := Aside0.mk (below_step (by repeat (first | (with_reducible first | exact HB.out | apply below_alloc | apply pw_below_drewN | apply below_drew1) | exact HB.out)) hb); clear HB; have HB := n0_; clear n0_; (try clear hb); (try clear hb2); (try clear hk); (try clear hi)))
              go_meet
              case rel => exact ⟨_, ((t393 != 1603080)), (by first | rfl | (simp; done) | (simp [*]; done)), H', ⟨by have := HJ5.out; first | omega | exact Nat.le_refl _⟩, ⟨by repeat (first | (with_reducible first | exact HB.out | apply below_alloc | apply pw_below_drewN | apply below_drew1) | exact HB.out)⟩⟩
            · rw [if_neg c13] at H
              have c13b0 : (a2 == 1) = false := beq_eq_false_iff_ne.mpr c13
              have c13b1 : (a2 != 1) = true := bne_iff_ne.mpr c13
              have H' := Aside0.mk H
              clear H
              go_wp2
              go_meet
              case rel => exact ⟨_, (false), (by first | rfl | (simp; done) | (simp [*]; done)), H', ⟨by have := HJ5.out; first | omega | exact Nat.le_refl _⟩, ⟨by repeat (first | (with_reducible first | exact HB.out | apply below_alloc | apply pw_below_drewN | apply below_drew1) | exact HB.out)⟩⟩
          · rw [if_neg c12] at H
            have c12b0 : (a1 == 1) = false := beq_eq_false_iff_ne.mpr c12
            have c12b1 : (a1 != 1) = true := bne_iff_ne.mpr c12
            (first | rw [c12b0] | (simp only [i64_w, i32_w]; rw [c12b0]) | skip)
            have H' := Aside0.mk H
            clear H
            go_wp2
            go_meet
            case rel => exact ⟨_, (false), (by first | rfl | (simp; done) | (simp [*]; done)), H', ⟨by have := HJ5.out; first | omega | exact Nat.le_refl _⟩, ⟨by repeat (first | (with_reducible first | exact HB.out | apply below_alloc | apply pw_below_drewN | apply below_drew1) | exact HB.out)⟩⟩
        case rest =>
          clear HC11
          try clear c1
          try clear c2
          try clear p2
          try clear p6
          try clear c7
          try clear c7b0
          try clear c7b1
          try clear c8
          try clear c9
          try clear c12
          try clear c12b0
          try clear c12b1
          try clear c13
          try clear c13b0
          try clear c13b1
          try clear c14
          try clear p2
          try clear p6
          obtain ⟨kq, x44_10, rfl, HA, HJ10, HB⟩ := hcut
          cases kq with
          | zero => exact absurd HA.out (by simp [corebanklaw06_DaycountYears.j1])
          | succ kj10 =>
            have H := HA.out
            clear HA
            simp only [corebanklaw06_DaycountYears.j1] at H
            by_cases c16 : x44_10 = true
            · subst c16
              have H1 : (none) = some r := by rw [if_pos rfl] at H; exact H
              clear H
              have H := H1
              clear H1
              exact absurd H (by simp)
            · replace c16 := Bool.eq_false_iff.mpr c16
              subst c16
              have H1 : ((daycount_Sum.f kj10 4 t388 t390).bind fun t394 => (if t394 = 1603080 then ((daycount_Sum.f kj10 2 t388 t390).bind fun t395 => (if t395 ≥ 1603080 then ((corebanklaw06_lives.f kj10).bind fun t396 => (some t396)) else (none))) else (none))) = some r := by rw [if_neg (show ¬ (false = true) by decide)] at H; exact H
              clear H
              have H := H1
              clear H1
              replace H := Option.bind_eq_some_iff.mp H
              obtain ⟨t394, A170, H⟩ := H
              replace H : (if t394 = 1603080 then ((daycount_Sum.f kj10 2 t388 t390).bind fun t395 => (if t395 ≥ 1603080 then ((corebanklaw06_lives.f kj10).bind fun t396 => (some t396)) else (none))) else (none)) = some r := H
              have A17 := Aside0.mk A170
              clear A170
              by_cases c18 : t394 = 1603080
              · rw [if_pos c18] at H
                have c18b0 : (t394 == 1603080) = true := beq_iff_eq.mpr c18
                have c18b1 : (t394 != 1603080) = false := bne_eq_false_iff_eq.mpr c18
                clear c18
                replace H := Option.bind_eq_some_iff.mp H
                obtain ⟨t395, A190, H⟩ := H
                replace H : (if t395 ≥ 1603080 then ((corebanklaw06_lives.f kj10).bind fun t396 => (some t396)) else (none)) = some r := H
                have A19 := Aside0.mk A190
                clear A190
                by_cases c20 : t395 ≥ 1603080
                · rw [if_pos c20] at H
                  have c20b0 : decide (1603080 ≤ t395) = true := decide_eq_true c20
                  clear c20
                  replace H := Option.bind_eq_some_iff.mp H
                  obtain ⟨t396, A210, H⟩ := H
                  replace H : (some t396) = some r := H
                  have A21 := Aside0.mk A210
                  clear A210
                  obtain rfl := Option.some.inj H
                  go_wp2_with (first | ((with_reducible refine gate_callee (f := 18) rfl ?_); refine goesL_ (some 47) rfl rfl Try.func18 (by kernel_rfl) rfl #[.int .i64 4, .int .i64 t388, .int .i64 t390] rfl (by (try simp only [List.map_toArray, List.map_cons, List.map_nil]); first | done | rfl | (simp only [List.length_drop, List.length_take]; rfl) | ((conv => rhs; simp only [← ext_both]); rfl)) ?_; (with_reducible refine (daycount_Sum.calls kj10 4 t388 t390 t394 _ A17.out).mono ?_); rintro e w22 ⟨rfl, hb⟩; refine ⟨_, rfl, ?_⟩; have n0_ := Aside0.mk (below_step (by repeat (first | (with_reducible first | exact HB.out | apply below_alloc | apply pw_below_drewN | apply below_drew1) | exact HB.out)) hb); clear HB; have HB := n0_; clear n0_; (try clear hb); (try clear hb2); (try clear hk); (try clear hi)) | (go_at_call 18; (with_reducible refine (daycount_Sum.calls kj10 2 t388 t390 t395 _ A19.out).mono ?_); rintro e w23 ⟨rfl, hb⟩; have n0_ := Aside0.mk (below_step (by repeat (first | (with_reducible first | exact HB.out | apply below_alloc | apply pw_below_drewN | apply below_drew1) | exact HB.out)) hb); clear HB; have HB := n0_; clear n0_; (try clear hb); (try clear hb2); (try clear hk); (try clear hi)) | (go_at_call 14; (with_reducible refine (corebanklaw06_lives.calls kj10  t396 _ A21.out).mono ?_); rintro e w24 ⟨rfl, hb⟩; have n0_ := Aside0.mk (below_step (by repeat (first | (with_reducible first | exact HB.out | apply below_alloc | apply pw_below_drewN | apply below_drew1) | exact HB.out)) hb); clear HB; have HB := n0_; clear n0_; (try clear hb); (try clear hb2); (try clear hk); (try clear hi)))
                  go_ret
                  exact ⟨by first | rfl | (simp [errW_none, errW_some] <;> rfl) | (simp [*, errW_none, errW_some] <;> rfl), by repeat (first | (with_reducible first | exact HB.out | apply below_alloc | apply pw_below_drewN | apply below_drew1) | exact HB.out)⟩
                · rw [if_neg c20] at H
                  exact absurd H (by simp)
              · rw [if_neg c18] at H
                exact absurd H (by simp)

/-- THE ONE PURE STATEMENT of corebanklaw06_DaycountYears: yours. -/
def corebanklaw06_DaycountYears.Pure : Prop := ∀ (a0 : Int) (a1 : Int) (a2 : Int), (Lit.int .i64 a0).wf = true → (Lit.int .i64 a1).wf = true → (Lit.int .i64 a2).wf = true → ∃ k, corebanklaw06_DaycountYears.f k a0 a1 a2 = some true
theorem corebanklaw06_DaycountYears.walk (P : corebanklaw06_DaycountYears.Pure) (a0 : Int) (a1 : Int) (a2 : Int) (w : World) (w0 : (Lit.int .i64 a0).wf = true) (w1 : (Lit.int .i64 a1).wf = true) (w2 : (Lit.int .i64 a2).wf = true) :
    Calls Try.prog 9 #[.int .i64 a0, .int .i64 a1, .int .i64 a2] w fun e w' => e = .returned (.bool true) ∧ Below w.heap.size w w' := by
  obtain ⟨k, h⟩ := P a0 a1 a2 w0 w1 w2
  refine (corebanklaw06_DaycountYears.calls k a0 a1 a2 true w h).mono ?_
  rintro e w' ⟨rfl, hd⟩
  exact ⟨rfl, hd⟩

end Go.Proofs.Ytddaajikgjcknaa.PA
