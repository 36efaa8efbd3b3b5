/- Contracts of the Go functions and their plain Lean functions, written by a program of this session out of the translation. -/
import Derived.Test.YtdieblejeeojhaaMatchW
import Derived.Test.YtdieblejeeojhaaPAx0
import Derived.Test.YtdieblejeeojhaaPAx3
import Derived.Test.YtdieblejeeojhaaPAx4
import Derived.Test.YtdieblejeeojhaaPAx8
namespace Go.Proofs.Ytdieblejeeojhaa.PA
open Go.RowKit Go.Proofs.YtdieblejeeojhaaW.PrintWords Go.Proofs.YtdieblejeeojhaaW.PrintLast Go.Proofs.YtdieblejeeojhaaW.PrintMore
attribute [local go_sem] max2_int min2_int max_two min_two max_three min_three max_four min_four   -- for this text's walks alone
set_option linter.unusedVariables false
set_option linter.unusedSimpArgs false

/-! ### corebanklaw44_ReconcileValid: function 4 -/
def corebanklaw44_ReconcileValid.f (k : Nat) (l0 : List (S40)) (l1 : List (S40)) (l2 : List (S38)) : Option (Bool) := (corebankref44_Great.f k l0).bind fun t239 => (if t239 = true then ((corebanklaw44_live.f k).bind fun t240 => (some t240)) else ((corebankref44_Great.f k l1).bind fun t241 => (if t241 = true then ((corebanklaw44_live.f k).bind fun t242 => (some t242)) else (if (l2.length : Int) > 100 then ((corebanklaw44_live.f k).bind fun t243 => (some t243)) else ((reconcile_Valid.f l0 l1 l2).bind fun t244 => ((corebankref44_Valid.f k l0 l1 l2).bind fun t245 => (if (t244 == t245) = true then ((corebanklaw44_live.f k).bind fun t246 => (some t246)) else (none))))))))
theorem corebanklaw44_ReconcileValid.mono : ∀ a0 a1 a2 k, LeO (corebanklaw44_ReconcileValid.f k a0 a1 a2) (corebanklaw44_ReconcileValid.f (k + 1) a0 a1 a2) := by
  intro a0 a1 a2 k
  unfold corebanklaw44_ReconcileValid.f
  repeat' first
      | (with_reducible exact corebanklaw44_live.mono _)
      | (with_reducible exact corebankref44_Great.mono _ _)
      | (with_reducible exact corebankref44_Valid.mono _ _ _ _)
      | (with_reducible exact LeO.refl _)
      | (with_reducible exact LeO.none _)
      | (with_reducible refine LeO.ite ?_ ?_)
      | (with_reducible refine LeO.bind ?_ (fun _ => ?_))
      | exact corebanklaw44_live.mono _
      | exact corebankref44_Great.mono _ _
      | exact corebankref44_Valid.mono _ _ _ _
      | exact LeO.none _
      | refine LeO.ite ?_ ?_
      | refine LeO.bind ?_ (fun _ => ?_)
set_option maxHeartbeats 8000000 in
set_option maxRecDepth 100000 in
theorem corebanklaw44_ReconcileValid.calls (k : Nat) (A0 : Option Addr) (c0 : Nat) (l0 : List (S40)) (A1 : Option Addr) (c1 : Nat) (l1 : List (S40)) (A2 : Option Addr) (c2 : Nat) (l2 : List (S38)) (r : Bool) (w : World) (hr0 : Kd.C k40 w A0 l0.length l0) (hc0 : l0.length ≤ c0) (hr1 : Kd.C k40 w A1 l1.length l1) (hc1 : l1.length ≤ c1) (hr2 : Kd.C k38 w A2 l2.length l2) (hc2 : l2.length ≤ c2) (h : corebanklaw44_ReconcileValid.f k l0 l1 l2 = some r) :
    Calls Try.prog 4 #[.slice A0 l0.length c0, .slice A1 l1.length c1, .slice A2 l2.length c2] w fun e w' => e = .returned (.bool r) ∧ Below w.heap.size w w' := by
  have HR0 := Aside0.mk hr0
  have HC0 := Aside0.mk hc0
  clear hr0 hc0
  have HR1 := Aside0.mk hr1
  have HC1 := Aside0.mk hc1
  clear hr1 hc1
  have HR2 := Aside0.mk hr2
  have HC2 := Aside0.mk hc2
  clear hr2 hc2
  have HB := Aside0.mk (Below.refl w.heap.size w)
  have H : ((corebankref44_Great.f k l0).bind fun t239 => (if t239 = true then ((corebanklaw44_live.f k).bind fun t240 => (some t240)) else ((corebankref44_Great.f k l1).bind fun t241 => (if t241 = true then ((corebanklaw44_live.f k).bind fun t242 => (some t242)) else (if (l2.length : Int) > 100 then ((corebanklaw44_live.f k).bind fun t243 => (some t243)) else ((reconcile_Valid.f l0 l1 l2).bind fun t244 => ((corebankref44_Valid.f k l0 l1 l2).bind fun t245 => (if (t244 == t245) = true then ((corebanklaw44_live.f k).bind fun t246 => (some t246)) else (none))))))))) = some r := h
  clear h
  replace H := Option.bind_eq_some_iff.mp H
  obtain ⟨t239, A40, H⟩ := H
  replace H : (if t239 = true then ((corebanklaw44_live.f k).bind fun t240 => (some t240)) else ((corebankref44_Great.f k l1).bind fun t241 => (if t241 = true then ((corebanklaw44_live.f k).bind fun t242 => (some t242)) else (if (l2.length : Int) > 100 then ((corebanklaw44_live.f k).bind fun t243 => (some t243)) else ((reconcile_Valid.f l0 l1 l2).bind fun t244 => ((corebankref44_Valid.f k l0 l1 l2).bind fun t245 => (if (t244 == t245) = true then ((corebanklaw44_live.f k).bind fun t246 => (some t246)) else (none)))))))) = some r := H
  have A4 := Aside0.mk A40
  clear A40
  by_cases c5 : t239 = true
  · subst c5
    have H1 : ((corebanklaw44_live.f k).bind fun t240 => (some t240)) = some r := by rw [if_pos rfl] at H; exact H
    clear H
    have H := H1
    clear H1
    replace H := Option.bind_eq_some_iff.mp H
    obtain ⟨t240, A60, H⟩ := H
    replace H : (some t240) = some r := H
    have A6 := Aside0.mk A60
    clear A60
    obtain rfl := Option.some.inj H
    go_enter Try.func4, Try.ntmps4
    go_wp2_with (first | ((with_reducible refine gate_callee (f := 9) rfl ?_); refine goesL_ (some 8) rfl rfl Try.func9 (by kernel_rfl) rfl #[.slice A0 l0.length c0] rfl aG ?_; (with_reducible refine (corebankref44_Great.calls k _ _ l0 true _ ?side1 ?side2 A4.out).mono ?_); (case side1 => repeat (first | exact HR0.out | (with_reducible refine Kd.C_alloc ?_ _) | (with_reducible refine Kd.C_drewN ?_ _) | (with_reducible refine Kd.C_drew ?_))); (case side2 => exact HC0.out); rintro e w' ⟨rfl, ⟨nd, rfl⟩⟩; refine ⟨_, rfl, ?_⟩) | (go_at_call 10; (with_reducible refine (corebanklaw44_live.calls k  t240 _ A6.out).mono ?_); rintro e w7 ⟨rfl, hb⟩; replace HB := Aside0.mk (bS hb); (try clear hb); (try clear hb2); (try clear hk); (try clear hi)))
    go_ret
    exact ⟨by first | rfl | (simp [errW_none, errW_some] <;> rfl) | (simp [*, errW_none, errW_some] <;> rfl), bE⟩
  · replace c5 := Bool.eq_false_iff.mpr c5
    subst c5
    have H1 : ((corebankref44_Great.f k l1).bind fun t241 => (if t241 = true then ((corebanklaw44_live.f k).bind fun t242 => (some t242)) else (if (l2.length : Int) > 100 then ((corebanklaw44_live.f k).bind fun t243 => (some t243)) else ((reconcile_Valid.f l0 l1 l2).bind fun t244 => ((corebankref44_Valid.f k l0 l1 l2).bind fun t245 => (if (t244 == t245) = true then ((corebanklaw44_live.f k).bind fun t246 => (some t246)) else (none))))))) = some r := by rw [if_neg (show ¬ (false = true) by decide)] at H; exact H
    clear H
    have H := H1
    clear H1
    replace H := Option.bind_eq_some_iff.mp H
    obtain ⟨t241, A80, H⟩ := H
    replace H : (if t241 = true then ((corebanklaw44_live.f k).bind fun t242 => (some t242)) else (if (l2.length : Int) > 100 then ((corebanklaw44_live.f k).bind fun t243 => (some t243)) else ((reconcile_Valid.f l0 l1 l2).bind fun t244 => ((corebankref44_Valid.f k l0 l1 l2).bind fun t245 => (if (t244 == t245) = true then ((corebanklaw44_live.f k).bind fun t246 => (some t246)) else (none)))))) = some r := H
    have A8 := Aside0.mk A80
    clear A80
    by_cases c9 : t241 = true
    · subst c9
      have H1 : ((corebanklaw44_live.f k).bind fun t242 => (some t242)) = some r := by rw [if_pos rfl] at H; exact H
      clear H
      have H := H1
      clear H1
      replace H := Option.bind_eq_some_iff.mp H
      obtain ⟨t242, A100, H⟩ := H
      replace H : (some t242) = some r := H
      have A10 := Aside0.mk A100
      clear A100
      obtain rfl := Option.some.inj H
      go_enter Try.func4, Try.ntmps4
      go_wp2_with (first | ((with_reducible refine gate_callee (f := 9) rfl ?_); refine goesL_ (some 8) rfl rfl Try.func9 (by kernel_rfl) rfl #[.slice A0 l0.length c0] rfl aG ?_; (with_reducible refine (corebankref44_Great.calls k _ _ l0 false _ ?side1 ?side2 A4.out).mono ?_); (case side1 => repeat (first | exact HR0.out | (with_reducible refine Kd.C_alloc ?_ _) | (with_reducible refine Kd.C_drewN ?_ _) | (with_reducible refine Kd.C_drew ?_))); (case side2 => exact HC0.out); rintro e w' ⟨rfl, ⟨nd, rfl⟩⟩; refine ⟨_, rfl, ?_⟩) | (go_at_call 9; (with_reducible refine (corebankref44_Great.calls k _ _ l1 true _ ?side1 ?side2 A8.out).mono ?_); (case side1 => repeat (first | exact HR1.out | (with_reducible refine Kd.C_alloc ?_ _) | (with_reducible refine Kd.C_drewN ?_ _) | (with_reducible refine Kd.C_drew ?_))); (case side2 => exact HC1.out); rintro e w' ⟨rfl, ⟨nd, rfl⟩⟩) | (go_at_call 10; (with_reducible refine (corebanklaw44_live.calls k  t242 _ A10.out).mono ?_); rintro e w11 ⟨rfl, hb⟩; replace HB := Aside0.mk (bS hb); (try clear hb); (try clear hb2); (try clear hk); (try clear hi)))
      go_ret
      exact ⟨by first | rfl | (simp [errW_none, errW_some] <;> rfl) | (simp [*, errW_none, errW_some] <;> rfl), bE⟩
    · replace c9 := Bool.eq_false_iff.mpr c9
      subst c9
      have H1 : (if (l2.length : Int) > 100 then ((corebanklaw44_live.f k).bind fun t243 => (some t243)) else ((reconcile_Valid.f l0 l1 l2).bind fun t244 => ((corebankref44_Valid.f k l0 l1 l2).bind fun t245 => (if (t244 == t245) = true then ((corebanklaw44_live.f k).bind fun t246 => (some t246)) else (none))))) = some r := by rw [if_neg (show ¬ (false = true) by decide)] at H; exact H
      clear H
      have H := H1
      clear H1
      by_cases c12 : (l2.length : Int) > 100
      · rw [if_pos c12] at H
        have c12b0 : decide (100 < (l2.length : Int)) = true := decide_eq_true c12
        have c12b1 : decide (100 < l2.length) = true := decide_eq_true (by omega)
        clear c12
        replace H := Option.bind_eq_some_iff.mp H
        obtain ⟨t243, A130, H⟩ := H
        replace H : (some t243) = some r := H
        have A13 := Aside0.mk A130
        clear A130
        obtain rfl := Option.some.inj H
        go_enter Try.func4, Try.ntmps4
        go_wp2_with (first | ((with_reducible refine gate_callee (f := 9) rfl ?_); refine goesL_ (some 8) rfl rfl Try.func9 (by kernel_rfl) rfl #[.slice A0 l0.length c0] rfl aG ?_; (with_reducible refine (corebankref44_Great.calls k _ _ l0 false _ ?side1 ?side2 A4.out).mono ?_); (case side1 => repeat (first | exact HR0.out | (with_reducible refine Kd.C_alloc ?_ _) | (with_reducible refine Kd.C_drewN ?_ _) | (with_reducible refine Kd.C_drew ?_))); (case side2 => exact HC0.out); rintro e w' ⟨rfl, ⟨nd, rfl⟩⟩; refine ⟨_, rfl, ?_⟩) | (go_at_call 9; (with_reducible refine (corebankref44_Great.calls k _ _ l1 false _ ?side1 ?side2 A8.out).mono ?_); (case side1 => repeat (first | exact HR1.out | (with_reducible refine Kd.C_alloc ?_ _) | (with_reducible refine Kd.C_drewN ?_ _) | (with_reducible refine Kd.C_drew ?_))); (case side2 => exact HC1.out); rintro e w' ⟨rfl, ⟨nd, rfl⟩⟩) | (go_at_call 10; (with_reducible refine (corebanklaw44_live.calls k  t243 _ A13.out).mono ?_); rintro e w14 ⟨rfl, hb⟩; replace HB := Aside0.mk (bS hb); (try clear hb); (try clear hb2); (try clear hk); (try clear hi)))
        go_ret
        exact ⟨by first | rfl | (simp [errW_none, errW_some] <;> rfl) | (simp [*, errW_none, errW_some] <;> rfl), bE⟩
      · rw [if_neg c12] at H
        have c12b0 : decide (100 < (l2.length : Int)) = false := decide_eq_false c12
        have c12b1 : decide (100 < l2.length) = false := decide_eq_false (by omega)
        clear c12
        replace H := Option.bind_eq_some_iff.mp H
        obtain ⟨t244, A150, H⟩ := H
        replace H : ((corebankref44_Valid.f k l0 l1 l2).bind fun t245 => (if (t244 == t245) = true then ((corebanklaw44_live.f k).bind fun t246 => (some t246)) else (none))) = some r := H
        have A15 := Aside0.mk A150
        clear A150
        replace H := Option.bind_eq_some_iff.mp H
        obtain ⟨t245, A160, H⟩ := H
        replace H : (if (t244 == t245) = true then ((corebanklaw44_live.f k).bind fun t246 => (some t246)) else (none)) = some r := H
        have A16 := Aside0.mk A160
        clear A160
        by_cases c17 : (t244 == t245) = true
        · rw [if_pos c17] at H
          have c17b0 : (t244 == t245) = true := c17
          (try (have c17b1 : decide (t244 = t245) = true := by simpa using c17))
          (try (have c17b2 : (t244 == t245) = true := by simpa using c17))
          clear c17
          replace H := Option.bind_eq_some_iff.mp H
          obtain ⟨t246, A180, H⟩ := H
          replace H : (some t246) = some r := H
          have A18 := Aside0.mk A180
          clear A180
          obtain rfl := Option.some.inj H
          go_enter Try.func4, Try.ntmps4
          go_wp2_with (first | ((with_reducible refine gate_callee (f := 9) rfl ?_); refine goesL_ (some 8) rfl rfl Try.func9 (by kernel_rfl) rfl #[.slice A0 l0.length c0] rfl aG ?_; (with_reducible refine (corebankref44_Great.calls k _ _ l0 false _ ?side1 ?side2 A4.out).mono ?_); (case side1 => repeat (first | exact HR0.out | (with_reducible refine Kd.C_alloc ?_ _) | (with_reducible refine Kd.C_drewN ?_ _) | (with_reducible refine Kd.C_drew ?_))); (case side2 => exact HC0.out); rintro e w' ⟨rfl, ⟨nd, rfl⟩⟩; refine ⟨_, rfl, ?_⟩) | (go_at_call 9; (with_reducible refine (corebankref44_Great.calls k _ _ l1 false _ ?side1 ?side2 A8.out).mono ?_); (case side1 => repeat (first | exact HR1.out | (with_reducible refine Kd.C_alloc ?_ _) | (with_reducible refine Kd.C_drewN ?_ _) | (with_reducible refine Kd.C_drew ?_))); (case side2 => exact HC1.out); rintro e w' ⟨rfl, ⟨nd, rfl⟩⟩) | (go_at_call 15; (with_reducible refine (reconcile_Valid.calls _ _ l0 _ _ l1 _ _ l2 t244 _ ?side1 ?side2 ?side3 ?side4 ?side5 ?side6 A15.out).mono ?_); (case side1 => repeat (first | exact HR0.out | (with_reducible refine Kd.C_alloc ?_ _) | (with_reducible refine Kd.C_drewN ?_ _) | (with_reducible refine Kd.C_drew ?_))); (case side2 => exact HC0.out); (case side3 => repeat (first | exact HR1.out | (with_reducible refine Kd.C_alloc ?_ _) | (with_reducible refine Kd.C_drewN ?_ _) | (with_reducible refine Kd.C_drew ?_))); (case side4 => exact HC1.out); (case side5 => repeat (first | exact HR2.out | (with_reducible refine Kd.C_alloc ?_ _) | (with_reducible refine Kd.C_drewN ?_ _) | (with_reducible refine Kd.C_drew ?_))); (case side6 => exact HC2.out); rintro e w19 ⟨rfl, hb⟩; replace HB := Aside0.mk (bS hb); (try clear hb); (try clear hb2); (try clear hk); (try clear hi)) | (go_at_call 16; (with_reducible refine (corebankref44_Valid.calls k _ _ l0 _ _ l1 _ _ l2 t245 _ ?side1 ?side2 ?side3 ?side4 ?side5 ?side6 A16.out).mono ?_); (case side1 => repeat (first | exact (Kd.C_below HR0.out HB.out) | (with_reducible refine Kd.C_alloc ?_ _) | (with_reducible refine Kd.C_drewN ?_ _) | (with_reducible refine Kd.C_drew ?_))); (case side2 => exact HC0.out); (case side3 => repeat (first | exact (Kd.C_below HR1.out HB.out) | (with_reducible refine Kd.C_alloc ?_ _) | (with_reducible refine Kd.C_drewN ?_ _) | (with_reducible refine Kd.C_drew ?_))); (case side4 => exact HC1.out); (case side5 => repeat (first | exact (Kd.C_below HR2.out HB.out) | (with_reducible refine Kd.C_alloc ?_ _) | (with_reducible refine Kd.C_drewN ?_ _) | (with_reducible refine Kd.C_drew ?_))); (case side6 => exact HC2.out); rintro e w20 ⟨rfl, hb⟩; replace HB := Aside0.mk (bS hb); (try clear hb); (try clear hb2); (try clear hk); (try clear hi)) | (go_at_call 10; (with_reducible refine (corebanklaw44_live.calls k  t246 _ A18.out).mono ?_); rintro e w21 ⟨rfl, hb⟩; replace HB := Aside0.mk (bS hb); (try clear hb); (try clear hb2); (try clear hk); (try clear hi)))
          go_ret
          exact ⟨by first | rfl | (simp [errW_none, errW_some] <;> rfl) | (simp [*, errW_none, errW_some] <;> rfl), bE⟩
        · rw [if_neg c17] at H
          exact absurd H (by simp)

end Go.Proofs.Ytdieblejeeojhaa.PA
