/- Contracts of the Go functions and their plain Lean functions, written by a program of this session out of the translation. -/
import Derived.Test.YtdieblejeeojhaaPAx0
import Derived.Test.YtdieblejeeojhaaPAx3
import Derived.Test.YtdieblejeeojhaaPAx4
import Derived.Test.YtdieblejeeojhaaPAx10
namespace Go.Proofs.Ytdieblejeeojhaa.PA
open Go.RowKit Go.Proofs.YtdieblejeeojhaaW.PrintWords Go.Proofs.YtdieblejeeojhaaW.PrintLast Go.Proofs.YtdieblejeeojhaaW.PrintMore
attribute [local go_sem] max2_int min2_int max_two min_two max_three min_three max_four min_four   -- for this text's walks alone
set_option linter.unusedVariables false
set_option linter.unusedSimpArgs false

/-! ### corebanklaw44_ReconcileGaps: function 5 -/
def corebanklaw44_ReconcileGaps.j0 : Nat → List (S40) → List (S40) → Bool → Option (Bool)
  | 0, _, _, _ => none
  | k + 1, x0, x1, x14 => if x14 = true then ((corebanklaw44_live.f k).bind fun t257 => (some t257)) else ((reconcile_Gap.f k x0 x1).bind fun bt258 => ((corebankref44_Gap.f k x0 x1).bind fun bt260 => (if bt258.1 = bt260.1 then (if bt258.2 = bt260.2 then ((corebanklaw44_live.f k).bind fun t262 => (some t262)) else (none)) else (none))))
def corebanklaw44_ReconcileGaps.f (k : Nat) (l0 : List (S40)) (l1 : List (S40)) : Option (Bool) := (corebankref44_Great.f k l0).bind fun t255 => (if t255 = true then (corebanklaw44_ReconcileGaps.j0 k l0 l1 true) else ((corebankref44_Great.f k l1).bind fun t256 => (corebanklaw44_ReconcileGaps.j0 k l0 l1 t256)))
theorem corebanklaw44_ReconcileGaps.mono_l : ∀ k, (∀ y0 y1 y2, LeO (corebanklaw44_ReconcileGaps.j0 k y0 y1 y2) (corebanklaw44_ReconcileGaps.j0 (k + 1) y0 y1 y2))
  | 0 => fun _ _ _ r h => by simp [corebanklaw44_ReconcileGaps.j0] at h
  | k + 1 => by
    have ih0 := corebanklaw44_ReconcileGaps.mono_l k
    · intro y0 y1 y2
      unfold corebanklaw44_ReconcileGaps.j0
      repeat' first
      | (with_reducible exact ih0 _ _ _)
      | (with_reducible exact corebanklaw44_live.mono _)
      | (with_reducible exact corebankref44_Gap.mono _ _ _)
      | (with_reducible exact corebankref44_Great.mono _ _)
      | (with_reducible exact reconcile_Gap.mono _ _ _)
      | (with_reducible exact LeO.refl _)
      | (with_reducible exact LeO.none _)
      | (with_reducible refine LeO.ite ?_ ?_)
      | (with_reducible refine LeO.bind ?_ (fun _ => ?_))
      | exact ih0 _ _ _
      | exact corebanklaw44_live.mono _
      | exact corebankref44_Gap.mono _ _ _
      | exact corebankref44_Great.mono _ _
      | exact reconcile_Gap.mono _ _ _
      | exact LeO.none _
      | refine LeO.ite ?_ ?_
      | refine LeO.bind ?_ (fun _ => ?_)
theorem corebanklaw44_ReconcileGaps.mono : ∀ a0 a1 k, LeO (corebanklaw44_ReconcileGaps.f k a0 a1) (corebanklaw44_ReconcileGaps.f (k + 1) a0 a1) := by
  intro a0 a1 k
  have ih0 := corebanklaw44_ReconcileGaps.mono_l k
  unfold corebanklaw44_ReconcileGaps.f
  repeat' first
      | (with_reducible exact ih0 _ _ _)
      | (with_reducible exact corebanklaw44_live.mono _)
      | (with_reducible exact corebankref44_Gap.mono _ _ _)
      | (with_reducible exact corebankref44_Great.mono _ _)
      | (with_reducible exact reconcile_Gap.mono _ _ _)
      | (with_reducible exact LeO.refl _)
      | (with_reducible exact LeO.none _)
      | (with_reducible refine LeO.ite ?_ ?_)
      | (with_reducible refine LeO.bind ?_ (fun _ => ?_))
      | exact ih0 _ _ _
      | exact corebanklaw44_live.mono _
      | exact corebankref44_Gap.mono _ _ _
      | exact corebankref44_Great.mono _ _
      | exact reconcile_Gap.mono _ _ _
      | exact LeO.none _
      | refine LeO.ite ?_ ?_
      | refine LeO.bind ?_ (fun _ => ?_)
set_option maxHeartbeats 8000000 in
set_option maxRecDepth 100000 in
theorem corebanklaw44_ReconcileGaps.calls (k : Nat) (A0 : Option Addr) (c0 : Nat) (l0 : List (S40)) (A1 : Option Addr) (c1 : Nat) (l1 : List (S40)) (r : Bool) (w : World) (hr0 : Kd.C k40 w A0 l0.length l0) (hc0 : l0.length ≤ c0) (hr1 : Kd.C k40 w A1 l1.length l1) (hc1 : l1.length ≤ c1) (h : corebanklaw44_ReconcileGaps.f k l0 l1 = some r) :
    Calls Try.prog 5 #[.slice A0 l0.length c0, .slice A1 l1.length c1] w fun e w' => e = .returned (.bool r) ∧ Below w.heap.size w w' := by
  have HR0 := Aside0.mk hr0
  have HC0 := Aside0.mk hc0
  clear hr0 hc0
  have HR1 := Aside0.mk hr1
  have HC1 := Aside0.mk hc1
  clear hr1 hc1
  have HB := Aside0.mk (Below.refl w.heap.size w)
  have H : ((corebankref44_Great.f k l0).bind fun t255 => (if t255 = true then (corebanklaw44_ReconcileGaps.j0 k l0 l1 true) else ((corebankref44_Great.f k l1).bind fun t256 => (corebanklaw44_ReconcileGaps.j0 k l0 l1 t256)))) = some r := h
  clear h
  have HC3 := Aside0.mk H
  clear H
  go_enter Try.func5, Try.ntmps5
  go_upto_region 1 with (fail)
  go_cut [14] (fun v14 wc => ∃ (kq : Nat) (x14_2 : Bool), v14 = .bool x14_2 ∧ Aside0 (corebanklaw44_ReconcileGaps.j0 kq l0 l1 x14_2 = some r) ∧ Aside0 (kq ≤ k) ∧ Aside0 (Below w.heap.size w wc))
  case first =>
    have H := HC3.out
    clear HC3
    replace H := Option.bind_eq_some_iff.mp H
    obtain ⟨t255, A40, H⟩ := H
    replace H : (if t255 = true then (corebanklaw44_ReconcileGaps.j0 k l0 l1 true) else ((corebankref44_Great.f k l1).bind fun t256 => (corebanklaw44_ReconcileGaps.j0 k l0 l1 t256))) = some r := H
    have A4 := Aside0.mk A40
    clear A40
    by_cases c5 : t255 = true
    · subst c5
      have H1 : (corebanklaw44_ReconcileGaps.j0 k l0 l1 true) = some r := by rw [if_pos rfl] at H; exact H
      clear H
      have H := H1
      clear H1
      have H' := Aside0.mk H
      clear H
      go_wp2_with (first | ((with_reducible refine gate_callee (f := 9) rfl ?_); refine goesL_ (some 10) rfl rfl Try.func9 (by kernel_rfl) rfl #[.slice A0 l0.length c0] rfl aG ?_; (with_reducible refine (corebankref44_Great.calls k _ _ l0 true _ ?side1 ?side2 A4.out).mono ?_); (case side1 => repeat (first | exact (Kd.C_below HR0.out HB.out) | (with_reducible refine Kd.C_alloc ?_ _) | (with_reducible refine Kd.C_drewN ?_ _) | (with_reducible refine Kd.C_drew ?_))); (case side2 => exact HC0.out); rintro e w' ⟨rfl, ⟨nd, rfl⟩⟩; refine ⟨_, rfl, ?_⟩))
      go_meet
      case rel => exact ⟨_, (true), (by first | rfl | (simp; done) | (simp [*]; done)), H', ⟨by first | omega | exact Nat.le_refl _⟩, ⟨bE⟩⟩
    · replace c5 := Bool.eq_false_iff.mpr c5
      subst c5
      have H1 : ((corebankref44_Great.f k l1).bind fun t256 => (corebanklaw44_ReconcileGaps.j0 k l0 l1 t256)) = some r := by rw [if_neg (show ¬ (false = true) by decide)] at H; exact H
      clear H
      have H := H1
      clear H1
      replace H := Option.bind_eq_some_iff.mp H
      obtain ⟨t256, A60, H⟩ := H
      replace H : (corebanklaw44_ReconcileGaps.j0 k l0 l1 t256) = some r := H
      have A6 := Aside0.mk A60
      clear A60
      have H' := Aside0.mk H
      clear H
      go_wp2_with (first | ((with_reducible refine gate_callee (f := 9) rfl ?_); refine goesL_ (some 10) rfl rfl Try.func9 (by kernel_rfl) rfl #[.slice A0 l0.length c0] rfl aG ?_; (with_reducible refine (corebankref44_Great.calls k _ _ l0 false _ ?side1 ?side2 A4.out).mono ?_); (case side1 => repeat (first | exact (Kd.C_below HR0.out HB.out) | (with_reducible refine Kd.C_alloc ?_ _) | (with_reducible refine Kd.C_drewN ?_ _) | (with_reducible refine Kd.C_drew ?_))); (case side2 => exact HC0.out); rintro e w' ⟨rfl, ⟨nd, rfl⟩⟩; refine ⟨_, rfl, ?_⟩) | (go_at_call 9; (with_reducible refine (corebankref44_Great.calls k _ _ l1 t256 _ ?side1 ?side2 A6.out).mono ?_); (case side1 => repeat (first | exact (Kd.C_below HR1.out (bE)) | (with_reducible refine Kd.C_alloc ?_ _) | (with_reducible refine Kd.C_drewN ?_ _) | (with_reducible refine Kd.C_drew ?_))); (case side2 => exact HC1.out); rintro e w' ⟨rfl, ⟨nd, rfl⟩⟩))
      go_meet
      case rel => exact ⟨_, (t256), (by first | rfl | (simp; done) | (simp [*]; done)), H', ⟨by first | omega | exact Nat.le_refl _⟩, ⟨bE⟩⟩
  case rest =>
    clear HC3
    try clear c1
    try clear p2
    try clear c5
    obtain ⟨kq, x14_2, rfl, HA, HJ2, HB⟩ := hcut
    cases kq with
    | zero => exact absurd HA.out (by simp [corebanklaw44_ReconcileGaps.j0])
    | succ kj2 =>
      have H := HA.out
      clear HA
      simp only [corebanklaw44_ReconcileGaps.j0] at H
      by_cases c7 : x14_2 = true
      · subst c7
        have H1 : ((corebanklaw44_live.f kj2).bind fun t257 => (some t257)) = some r := by rw [if_pos rfl] at H; exact H
        clear H
        have H := H1
        clear H1
        replace H := Option.bind_eq_some_iff.mp H
        obtain ⟨t257, A80, H⟩ := H
        replace H : (some t257) = some r := H
        have A8 := Aside0.mk A80
        clear A80
        obtain rfl := Option.some.inj H
        go_wp2_with (first | ((with_reducible refine gate_callee (f := 10) rfl ?_); refine goesL_ (some 15) rfl rfl Try.func10 (by kernel_rfl) rfl #[] rfl aG ?_; (with_reducible refine (corebanklaw44_live.calls kj2  t257 _ A8.out).mono ?_); rintro e w9 ⟨rfl, hb⟩; refine ⟨_, rfl, ?_⟩; replace HB := Aside0.mk (bS hb); (try clear hb); (try clear hb2); (try clear hk); (try clear hi)))
        go_ret
        exact ⟨by first | rfl | (simp [errW_none, errW_some] <;> rfl) | (simp [*, errW_none, errW_some] <;> rfl), bE⟩
      · replace c7 := Bool.eq_false_iff.mpr c7
        subst c7
        have H1 : ((reconcile_Gap.f kj2 l0 l1).bind fun bt258 => ((corebankref44_Gap.f kj2 l0 l1).bind fun bt260 => (if bt258.1 = bt260.1 then (if bt258.2 = bt260.2 then ((corebanklaw44_live.f kj2).bind fun t262 => (some t262)) else (none)) else (none)))) = some r := by rw [if_neg (show ¬ (false = true) by decide)] at H; exact H
        clear H
        have H := H1
        clear H1
        replace H := Option.bind_eq_some_iff.mp H
        obtain ⟨⟨t258, t259⟩, A100, H⟩ := H
        replace H : ((corebankref44_Gap.f kj2 l0 l1).bind fun bt260 => (if t258 = bt260.1 then (if t259 = bt260.2 then ((corebanklaw44_live.f kj2).bind fun t262 => (some t262)) else (none)) else (none))) = some r := H
        have A10 := Aside0.mk A100
        clear A100
        replace H := Option.bind_eq_some_iff.mp H
        obtain ⟨⟨t260, t261⟩, A110, H⟩ := H
        replace H : (if t258 = t260 then (if t259 = t261 then ((corebanklaw44_live.f kj2).bind fun t262 => (some t262)) else (none)) else (none)) = some r := H
        have A11 := Aside0.mk A110
        clear A110
        by_cases c12 : t258 = t260
        · rw [if_pos c12] at H
          have c12b0 : (t258 == t260) = true := beq_iff_eq.mpr c12
          have c12b1 : (t258 != t260) = false := bne_eq_false_iff_eq.mpr c12
          clear c12
          by_cases c13 : t259 = t261
          · rw [if_pos c13] at H
            have c13b0 : (t259 == t261) = true := beq_iff_eq.mpr c13
            have c13b1 : (t259 != t261) = false := bne_eq_false_iff_eq.mpr c13
            clear c13
            replace H := Option.bind_eq_some_iff.mp H
            obtain ⟨t262, A140, H⟩ := H
            replace H : (some t262) = some r := H
            have A14 := Aside0.mk A140
            clear A140
            obtain rfl := Option.some.inj H
            go_wp2_with (first | ((with_reducible refine gate_callee (f := 17) rfl ?_); refine goesL_ (some 19) rfl rfl Try.func17 (by kernel_rfl) rfl #[.slice A0 l0.length c0, .slice A1 l1.length c1] rfl aG ?_; (with_reducible refine (reconcile_Gap.calls kj2 _ _ l0 _ _ l1 t258 t259 _ ?side1 ?side2 ?side3 ?side4 A10.out).mono ?_); (case side1 => repeat (first | exact (Kd.C_below HR0.out HB.out) | (with_reducible refine Kd.C_alloc ?_ _) | (with_reducible refine Kd.C_drewN ?_ _) | (with_reducible refine Kd.C_drew ?_))); (case side2 => exact HC0.out); (case side3 => repeat (first | exact (Kd.C_below HR1.out HB.out) | (with_reducible refine Kd.C_alloc ?_ _) | (with_reducible refine Kd.C_drewN ?_ _) | (with_reducible refine Kd.C_drew ?_))); (case side4 => exact HC1.out); rintro e w15 ⟨rfl, hb⟩; refine ⟨_, rfl, ?_⟩; replace HB := Aside0.mk (bS hb); (try clear hb); (try clear hb2); (try clear hk); (try clear hi)) | ((with_reducible refine gate_callee (f := 18) rfl ?_); refine goesL_ (some 25) rfl rfl Try.func18 (by kernel_rfl) rfl #[.slice A0 l0.length c0, .slice A1 l1.length c1] rfl aG ?_; (with_reducible refine (corebankref44_Gap.calls kj2 _ _ l0 _ _ l1 t260 t261 _ ?side1 ?side2 ?side3 ?side4 A11.out).mono ?_); (case side1 => repeat (first | exact (Kd.C_below HR0.out HB.out) | (with_reducible refine Kd.C_alloc ?_ _) | (with_reducible refine Kd.C_drewN ?_ _) | (with_reducible refine Kd.C_drew ?_))); (case side2 => exact HC0.out); (case side3 => repeat (first | exact (Kd.C_below HR1.out HB.out) | (with_reducible refine Kd.C_alloc ?_ _) | (with_reducible refine Kd.C_drewN ?_ _) | (with_reducible refine Kd.C_drew ?_))); (case side4 => exact HC1.out); rintro e w' ⟨rfl, ⟨nd, rfl⟩⟩; refine ⟨_, rfl, ?_⟩) | (go_at_call 10; (with_reducible refine (corebanklaw44_live.calls kj2  t262 _ A14.out).mono ?_); rintro e w16 ⟨rfl, hb⟩; replace HB := Aside0.mk (bS hb); (try clear hb); (try clear hb2); (try clear hk); (try clear hi)))
            go_ret
            exact ⟨by first | rfl | (simp [errW_none, errW_some] <;> rfl) | (simp [*, errW_none, errW_some] <;> rfl), bE⟩
          · rw [if_neg c13] at H
            exact absurd H (by simp)
        · rw [if_neg c12] at H
          exact absurd H (by simp)

end Go.Proofs.Ytdieblejeeojhaa.PA
