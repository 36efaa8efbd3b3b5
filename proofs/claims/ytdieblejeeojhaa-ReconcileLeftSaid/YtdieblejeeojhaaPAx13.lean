/- Contracts of the Go functions and their plain Lean functions, written by a program of this session out of the translation. -/
import Derived.Test.YtdieblejeeojhaaMatchW
import Derived.Test.YtdieblejeeojhaaPAx0
import Derived.Test.YtdieblejeeojhaaPAx3
import Derived.Test.YtdieblejeeojhaaPAx4
import Derived.Test.YtdieblejeeojhaaPAx10
import Derived.Test.YtdieblejeeojhaaPAx12
namespace Go.Proofs.Ytdieblejeeojhaa.PA
open Go.RowKit Go.Proofs.YtdieblejeeojhaaW.PrintWords Go.Proofs.YtdieblejeeojhaaW.PrintLast Go.Proofs.YtdieblejeeojhaaW.PrintMore
attribute [local go_sem] max2_int min2_int max_two min_two max_three min_three max_four min_four   -- for this text's walks alone
set_option linter.unusedVariables false
set_option linter.unusedSimpArgs false

/-! ### corebanklaw44_ReconcileLeft: function 7 -/
def corebanklaw44_ReconcileLeft.j0 : Nat → List (S40) → List (S40) → Bool → Option (Bool)
  | 0, _, _, _ => none
  | k + 1, x0, x1, x19 => if x19 = true then ((corebanklaw44_live.f k).bind fun t320 => (some t320)) else ((corebankref44_Gap.f k x0 x1).bind fun bt321 => ((reconcile_Gap.f k x0 x1).bind fun bt323 => (if bt321.2 = 0 then ((reconcile_Match.f x0 x1).bind fun bt326 => ((corebanklaw44_chosen.f k x0 bt326.2.1).bind fun t335 => ((corebanklaw44_chosen.f k x1 bt326.2.2).bind fun t338 => ((reconcile_Gap.f k t335 t338).bind fun bt341 => (if bt323.2 = 0 then (if bt341.2 = 0 then (if bt323.1 = bt341.1 then ((corebanklaw44_live.f k).bind fun t343 => (some t343)) else (none)) else (none)) else (none)))))) else (if bt323.1 = 0 then (if bt323.2 = bt321.2 then ((corebanklaw44_live.f k).bind fun t325 => (some t325)) else (none)) else (none)))))
def corebanklaw44_ReconcileLeft.f (k : Nat) (l0 : List (S40)) (l1 : List (S40)) : Option (Bool) := (corebankref44_Great.f k l0).bind fun t318 => (if t318 = true then (corebanklaw44_ReconcileLeft.j0 k l0 l1 true) else ((corebankref44_Great.f k l1).bind fun t319 => (corebanklaw44_ReconcileLeft.j0 k l0 l1 t319)))
theorem corebanklaw44_ReconcileLeft.mono_l : ∀ k, (∀ y0 y1 y2, LeO (corebanklaw44_ReconcileLeft.j0 k y0 y1 y2) (corebanklaw44_ReconcileLeft.j0 (k + 1) y0 y1 y2))
  | 0 => fun _ _ _ r h => by simp [corebanklaw44_ReconcileLeft.j0] at h
  | k + 1 => by
    have ih0 := corebanklaw44_ReconcileLeft.mono_l k
    · intro y0 y1 y2
      unfold corebanklaw44_ReconcileLeft.j0
      repeat' first
      | (with_reducible exact ih0 _ _ _)
      | (with_reducible exact corebanklaw44_chosen.mono _ _ _)
      | (with_reducible exact corebanklaw44_live.mono _)
      | (with_reducible exact corebankref44_Gap.mono _ _ _)
      | (with_reducible exact corebankref44_Great.mono _ _)
      | (with_reducible exact reconcile_Gap.mono _ _ _)
      | (with_reducible exact LeO.refl _)
      | (with_reducible exact LeO.none _)
      | (with_reducible refine LeO.ite ?_ ?_)
      | (with_reducible refine LeO.bind ?_ (fun _ => ?_))
      | exact ih0 _ _ _
      | exact corebanklaw44_chosen.mono _ _ _
      | exact corebanklaw44_live.mono _
      | exact corebankref44_Gap.mono _ _ _
      | exact corebankref44_Great.mono _ _
      | exact reconcile_Gap.mono _ _ _
      | exact LeO.none _
      | refine LeO.ite ?_ ?_
      | refine LeO.bind ?_ (fun _ => ?_)
theorem corebanklaw44_ReconcileLeft.mono : ∀ a0 a1 k, LeO (corebanklaw44_ReconcileLeft.f k a0 a1) (corebanklaw44_ReconcileLeft.f (k + 1) a0 a1) := by
  intro a0 a1 k
  have ih0 := corebanklaw44_ReconcileLeft.mono_l k
  unfold corebanklaw44_ReconcileLeft.f
  repeat' first
      | (with_reducible exact ih0 _ _ _)
      | (with_reducible exact corebanklaw44_chosen.mono _ _ _)
      | (with_reducible exact corebanklaw44_live.mono _)
      | (with_reducible exact corebankref44_Gap.mono _ _ _)
      | (with_reducible exact corebankref44_Great.mono _ _)
      | (with_reducible exact reconcile_Gap.mono _ _ _)
      | (with_reducible exact LeO.refl _)
      | (with_reducible exact LeO.none _)
      | (with_reducible refine LeO.ite ?_ ?_)
      | (with_reducible refine LeO.bind ?_ (fun _ => ?_))
      | exact ih0 _ _ _
      | exact corebanklaw44_chosen.mono _ _ _
      | exact corebanklaw44_live.mono _
      | exact corebankref44_Gap.mono _ _ _
      | exact corebankref44_Great.mono _ _
      | exact reconcile_Gap.mono _ _ _
      | exact LeO.none _
      | refine LeO.ite ?_ ?_
      | refine LeO.bind ?_ (fun _ => ?_)
set_option maxHeartbeats 8000000 in
set_option maxRecDepth 100000 in
theorem corebanklaw44_ReconcileLeft.calls (k : Nat) (A0 : Option Addr) (c0 : Nat) (l0 : List (S40)) (A1 : Option Addr) (c1 : Nat) (l1 : List (S40)) (r : Bool) (w : World) (hr0 : Kd.C k40 w A0 l0.length l0) (hc0 : l0.length ≤ c0) (hr1 : Kd.C k40 w A1 l1.length l1) (hc1 : l1.length ≤ c1) (h : corebanklaw44_ReconcileLeft.f k l0 l1 = some r) :
    Calls Try.prog 7 #[.slice A0 l0.length c0, .slice A1 l1.length c1] w fun e w' => e = .returned (.bool r) ∧ Below w.heap.size w w' := by
  have HR0 := Aside0.mk hr0
  have HC0 := Aside0.mk hc0
  clear hr0 hc0
  have HR1 := Aside0.mk hr1
  have HC1 := Aside0.mk hc1
  clear hr1 hc1
  have HB := Aside0.mk (Below.refl w.heap.size w)
  have H : ((corebankref44_Great.f k l0).bind fun t318 => (if t318 = true then (corebanklaw44_ReconcileLeft.j0 k l0 l1 true) else ((corebankref44_Great.f k l1).bind fun t319 => (corebanklaw44_ReconcileLeft.j0 k l0 l1 t319)))) = some r := h
  clear h
  have HC3 := Aside0.mk H
  clear H
  go_enter Try.func7, Try.ntmps7
  go_upto_region 1 with (fail)
  go_cut [19] (fun v19 wc => ∃ (kq : Nat) (x19_2 : Bool), v19 = .bool x19_2 ∧ Aside0 (corebanklaw44_ReconcileLeft.j0 kq l0 l1 x19_2 = some r) ∧ Aside0 (kq ≤ k) ∧ Aside0 (Below w.heap.size w wc))
  case first =>
    have H := HC3.out
    clear HC3
    replace H := Option.bind_eq_some_iff.mp H
    obtain ⟨t318, A40, H⟩ := H
    replace H : (if t318 = true then (corebanklaw44_ReconcileLeft.j0 k l0 l1 true) else ((corebankref44_Great.f k l1).bind fun t319 => (corebanklaw44_ReconcileLeft.j0 k l0 l1 t319))) = some r := H
    have A4 := Aside0.mk A40
    clear A40
    by_cases c5 : t318 = true
    · subst c5
      have H1 : (corebanklaw44_ReconcileLeft.j0 k l0 l1 true) = some r := by rw [if_pos rfl] at H; exact H
      clear H
      have H := H1
      clear H1
      have H' := Aside0.mk H
      clear H
      go_wp2_with (first | ((with_reducible refine gate_callee (f := 9) rfl ?_); refine goesL_ (some 15) rfl rfl Try.func9 (by kernel_rfl) rfl #[.slice A0 l0.length c0] rfl aG ?_; (with_reducible refine (corebankref44_Great.calls k _ _ l0 true _ ?side1 ?side2 A4.out).mono ?_); (case side1 => repeat (first | exact (Kd.C_below HR0.out HB.out) | (with_reducible refine Kd.C_alloc ?_ _) | (with_reducible refine Kd.C_drewN ?_ _) | (with_reducible refine Kd.C_drew ?_))); (case side2 => exact HC0.out); rintro e w' ⟨rfl, ⟨nd, rfl⟩⟩; refine ⟨_, rfl, ?_⟩))
      go_meet
      case rel => exact ⟨_, (true), (by first | rfl | (simp; done) | (simp [*]; done)), H', ⟨by first | omega | exact Nat.le_refl _⟩, ⟨bE⟩⟩
    · replace c5 := Bool.eq_false_iff.mpr c5
      subst c5
      have H1 : ((corebankref44_Great.f k l1).bind fun t319 => (corebanklaw44_ReconcileLeft.j0 k l0 l1 t319)) = some r := by rw [if_neg (show ¬ (false = true) by decide)] at H; exact H
      clear H
      have H := H1
      clear H1
      replace H := Option.bind_eq_some_iff.mp H
      obtain ⟨t319, A60, H⟩ := H
      replace H : (corebanklaw44_ReconcileLeft.j0 k l0 l1 t319) = some r := H
      have A6 := Aside0.mk A60
      clear A60
      have H' := Aside0.mk H
      clear H
      go_wp2_with (first | ((with_reducible refine gate_callee (f := 9) rfl ?_); refine goesL_ (some 15) rfl rfl Try.func9 (by kernel_rfl) rfl #[.slice A0 l0.length c0] rfl aG ?_; (with_reducible refine (corebankref44_Great.calls k _ _ l0 false _ ?side1 ?side2 A4.out).mono ?_); (case side1 => repeat (first | exact (Kd.C_below HR0.out HB.out) | (with_reducible refine Kd.C_alloc ?_ _) | (with_reducible refine Kd.C_drewN ?_ _) | (with_reducible refine Kd.C_drew ?_))); (case side2 => exact HC0.out); rintro e w' ⟨rfl, ⟨nd, rfl⟩⟩; refine ⟨_, rfl, ?_⟩) | (go_at_call 9; (with_reducible refine (corebankref44_Great.calls k _ _ l1 t319 _ ?side1 ?side2 A6.out).mono ?_); (case side1 => repeat (first | exact (Kd.C_below HR1.out (bE)) | (with_reducible refine Kd.C_alloc ?_ _) | (with_reducible refine Kd.C_drewN ?_ _) | (with_reducible refine Kd.C_drew ?_))); (case side2 => exact HC1.out); rintro e w' ⟨rfl, ⟨nd, rfl⟩⟩))
      go_meet
      case rel => exact ⟨_, (t319), (by first | rfl | (simp; done) | (simp [*]; done)), H', ⟨by first | omega | exact Nat.le_refl _⟩, ⟨bE⟩⟩
  case rest =>
    clear HC3
    try clear c1
    try clear p2
    try clear c5
    obtain ⟨kq, x19_2, rfl, HA, HJ2, HB⟩ := hcut
    cases kq with
    | zero => exact absurd HA.out (by simp [corebanklaw44_ReconcileLeft.j0])
    | succ kj2 =>
      have H := HA.out
      clear HA
      simp only [corebanklaw44_ReconcileLeft.j0] at H
      by_cases c7 : x19_2 = true
      · subst c7
        have H1 : ((corebanklaw44_live.f kj2).bind fun t320 => (some t320)) = some r := by rw [if_pos rfl] at H; exact H
        clear H
        have H := H1
        clear H1
        replace H := Option.bind_eq_some_iff.mp H
        obtain ⟨t320, A80, H⟩ := H
        replace H : (some t320) = some r := H
        have A8 := Aside0.mk A80
        clear A80
        obtain rfl := Option.some.inj H
        go_wp2_with (first | ((with_reducible refine gate_callee (f := 10) rfl ?_); refine goesL_ (some 20) rfl rfl Try.func10 (by kernel_rfl) rfl #[] rfl aG ?_; (with_reducible refine (corebanklaw44_live.calls kj2  t320 _ A8.out).mono ?_); rintro e w9 ⟨rfl, hb⟩; refine ⟨_, rfl, ?_⟩; replace HB := Aside0.mk (bS hb); (try clear hb); (try clear hb2); (try clear hk); (try clear hi)))
        go_ret
        exact ⟨by first | rfl | (simp [errW_none, errW_some] <;> rfl) | (simp [*, errW_none, errW_some] <;> rfl), bE⟩
      · replace c7 := Bool.eq_false_iff.mpr c7
        subst c7
        have H1 : ((corebankref44_Gap.f kj2 l0 l1).bind fun bt321 => ((reconcile_Gap.f kj2 l0 l1).bind fun bt323 => (if bt321.2 = 0 then ((reconcile_Match.f l0 l1).bind fun bt326 => ((corebanklaw44_chosen.f kj2 l0 bt326.2.1).bind fun t335 => ((corebanklaw44_chosen.f kj2 l1 bt326.2.2).bind fun t338 => ((reconcile_Gap.f kj2 t335 t338).bind fun bt341 => (if bt323.2 = 0 then (if bt341.2 = 0 then (if bt323.1 = bt341.1 then ((corebanklaw44_live.f kj2).bind fun t343 => (some t343)) else (none)) else (none)) else (none)))))) else (if bt323.1 = 0 then (if bt323.2 = bt321.2 then ((corebanklaw44_live.f kj2).bind fun t325 => (some t325)) else (none)) else (none))))) = some r := by rw [if_neg (show ¬ (false = true) by decide)] at H; exact H
        clear H
        have H := H1
        clear H1
        replace H := Option.bind_eq_some_iff.mp H
        obtain ⟨⟨t321, t322⟩, A100, H⟩ := H
        replace H : ((reconcile_Gap.f kj2 l0 l1).bind fun bt323 => (if t322 = 0 then ((reconcile_Match.f l0 l1).bind fun bt326 => ((corebanklaw44_chosen.f kj2 l0 bt326.2.1).bind fun t335 => ((corebanklaw44_chosen.f kj2 l1 bt326.2.2).bind fun t338 => ((reconcile_Gap.f kj2 t335 t338).bind fun bt341 => (if bt323.2 = 0 then (if bt341.2 = 0 then (if bt323.1 = bt341.1 then ((corebanklaw44_live.f kj2).bind fun t343 => (some t343)) else (none)) else (none)) else (none)))))) else (if bt323.1 = 0 then (if bt323.2 = t322 then ((corebanklaw44_live.f kj2).bind fun t325 => (some t325)) else (none)) else (none)))) = some r := H
        have A10 := Aside0.mk A100
        clear A100
        replace H := Option.bind_eq_some_iff.mp H
        obtain ⟨⟨t323, t324⟩, A110, H⟩ := H
        replace H : (if t322 = 0 then ((reconcile_Match.f l0 l1).bind fun bt326 => ((corebanklaw44_chosen.f kj2 l0 bt326.2.1).bind fun t335 => ((corebanklaw44_chosen.f kj2 l1 bt326.2.2).bind fun t338 => ((reconcile_Gap.f kj2 t335 t338).bind fun bt341 => (if t324 = 0 then (if bt341.2 = 0 then (if t323 = bt341.1 then ((corebanklaw44_live.f kj2).bind fun t343 => (some t343)) else (none)) else (none)) else (none)))))) else (if t323 = 0 then (if t324 = t322 then ((corebanklaw44_live.f kj2).bind fun t325 => (some t325)) else (none)) else (none))) = some r := H
        have A11 := Aside0.mk A110
        clear A110
        by_cases c12 : t322 = 0
        · rw [if_pos c12] at H
          have c12b0 : (t322 == 0) = true := beq_iff_eq.mpr c12
          have c12b1 : (t322 != 0) = false := bne_eq_false_iff_eq.mpr c12
          clear c12
          replace H := Option.bind_eq_some_iff.mp H
          obtain ⟨⟨t326, t327, t328⟩, A130, H⟩ := H
          replace H : ((corebanklaw44_chosen.f kj2 l0 t327).bind fun t335 => ((corebanklaw44_chosen.f kj2 l1 t328).bind fun t338 => ((reconcile_Gap.f kj2 t335 t338).bind fun bt341 => (if t324 = 0 then (if bt341.2 = 0 then (if t323 = bt341.1 then ((corebanklaw44_live.f kj2).bind fun t343 => (some t343)) else (none)) else (none)) else (none))))) = some r := H
          have A13 := Aside0.mk A130
          clear A130
          replace H := Option.bind_eq_some_iff.mp H
          obtain ⟨t335, A140, H⟩ := H
          replace H : ((corebanklaw44_chosen.f kj2 l1 t328).bind fun t338 => ((reconcile_Gap.f kj2 t335 t338).bind fun bt341 => (if t324 = 0 then (if bt341.2 = 0 then (if t323 = bt341.1 then ((corebanklaw44_live.f kj2).bind fun t343 => (some t343)) else (none)) else (none)) else (none)))) = some r := H
          have A14 := Aside0.mk A140
          clear A140
          replace H := Option.bind_eq_some_iff.mp H
          obtain ⟨t338, A150, H⟩ := H
          replace H : ((reconcile_Gap.f kj2 t335 t338).bind fun bt341 => (if t324 = 0 then (if bt341.2 = 0 then (if t323 = bt341.1 then ((corebanklaw44_live.f kj2).bind fun t343 => (some t343)) else (none)) else (none)) else (none))) = some r := H
          have A15 := Aside0.mk A150
          clear A150
          replace H := Option.bind_eq_some_iff.mp H
          obtain ⟨⟨t341, t342⟩, A160, H⟩ := H
          replace H : (if t324 = 0 then (if t342 = 0 then (if t323 = t341 then ((corebanklaw44_live.f kj2).bind fun t343 => (some t343)) else (none)) else (none)) else (none)) = some r := H
          have A16 := Aside0.mk A160
          clear A160
          by_cases c17 : t324 = 0
          · rw [if_pos c17] at H
            have c17b0 : (t324 == 0) = true := beq_iff_eq.mpr c17
            have c17b1 : (t324 != 0) = false := bne_eq_false_iff_eq.mpr c17
            clear c17
            by_cases c18 : t342 = 0
            · rw [if_pos c18] at H
              have c18b0 : (t342 == 0) = true := beq_iff_eq.mpr c18
              have c18b1 : (t342 != 0) = false := bne_eq_false_iff_eq.mpr c18
              clear c18
              by_cases c19 : t323 = t341
              · rw [if_pos c19] at H
                have c19b0 : (t323 == t341) = true := beq_iff_eq.mpr c19
                have c19b1 : (t323 != t341) = false := bne_eq_false_iff_eq.mpr c19
                clear c19
                replace H := Option.bind_eq_some_iff.mp H
                obtain ⟨t343, A200, H⟩ := H
                replace H : (some t343) = some r := H
                have A20 := Aside0.mk A200
                clear A200
                obtain rfl := Option.some.inj H
                go_wp2_with (first | ((with_reducible refine gate_callee (f := 18) rfl ?_); refine goesL_ (some 24) rfl rfl Try.func18 (by kernel_rfl) rfl #[.slice A0 l0.length c0, .slice A1 l1.length c1] rfl aG ?_; (with_reducible refine (corebankref44_Gap.calls kj2 _ _ l0 _ _ l1 t321 t322 _ ?side1 ?side2 ?side3 ?side4 A10.out).mono ?_); (case side1 => repeat (first | exact (Kd.C_below HR0.out HB.out) | (with_reducible refine Kd.C_alloc ?_ _) | (with_reducible refine Kd.C_drewN ?_ _) | (with_reducible refine Kd.C_drew ?_))); (case side2 => exact HC0.out); (case side3 => repeat (first | exact (Kd.C_below HR1.out HB.out) | (with_reducible refine Kd.C_alloc ?_ _) | (with_reducible refine Kd.C_drewN ?_ _) | (with_reducible refine Kd.C_drew ?_))); (case side4 => exact HC1.out); rintro e w' ⟨rfl, ⟨nd, rfl⟩⟩; refine ⟨_, rfl, ?_⟩) | ((with_reducible refine gate_callee (f := 17) rfl ?_); refine goesL_ (some 30) rfl rfl Try.func17 (by kernel_rfl) rfl #[.slice A0 l0.length c0, .slice A1 l1.length c1] rfl aG ?_; (with_reducible refine (reconcile_Gap.calls kj2 _ _ l0 _ _ l1 t323 t324 _ ?side1 ?side2 ?side3 ?side4 A11.out).mono ?_); (case side1 => repeat (first | exact (Kd.C_below HR0.out (bE)) | (with_reducible refine Kd.C_alloc ?_ _) | (with_reducible refine Kd.C_drewN ?_ _) | (with_reducible refine Kd.C_drew ?_))); (case side2 => exact HC0.out); (case side3 => repeat (first | exact (Kd.C_below HR1.out (bE)) | (with_reducible refine Kd.C_alloc ?_ _) | (with_reducible refine Kd.C_drewN ?_ _) | (with_reducible refine Kd.C_drew ?_))); (case side4 => exact HC1.out); rintro e w21 ⟨rfl, hb⟩; refine ⟨_, rfl, ?_⟩; replace HB := Aside0.mk (bS hb); (try clear hb); (try clear hb2); (try clear hk); (try clear hi)) | ((with_reducible refine gate_callee (f := 11) rfl ?_); refine goesL_ (some 48) rfl rfl Try.func11 (by kernel_rfl) rfl #[.slice A0 l0.length c0, .slice A1 l1.length c1] rfl aG ?_; (with_reducible refine (reconcile_Match.calls _ _ l0 _ _ l1 t326 t327 t328 _ ?side1 ?side2 ?side3 ?side4 A13.out).mono ?_); (case side1 => repeat (first | exact (Kd.C_below HR0.out HB.out) | (with_reducible refine Kd.C_alloc ?_ _) | (with_reducible refine Kd.C_drewN ?_ _) | (with_reducible refine Kd.C_drew ?_))); (case side2 => exact HC0.out); (case side3 => repeat (first | exact (Kd.C_below HR1.out HB.out) | (with_reducible refine Kd.C_alloc ?_ _) | (with_reducible refine Kd.C_drewN ?_ _) | (with_reducible refine Kd.C_drew ?_))); (case side4 => exact HC1.out); rintro e w22 ⟨v329, v331, v333, rfl, ho0, ho1, ho2, hb⟩; refine ⟨_, rfl, ?_⟩; have HO330 := Aside0.mk (Kd.R_lower ho0 (below_size (bE))); have HO332 := Aside0.mk (Kd.R_lower ho1 (below_size (bE))); have HO334 := Aside0.mk (Kd.R_lower ho2 (below_size (bE))); replace HB := Aside0.mk (bS hb); (try clear hb); (try clear hb2); (try clear hk); (try clear hi); (try clear ho0); (try clear ho1); (try clear ho2); obtain ⟨Ao23, co23, eo23⟩ := Kd.R_slice HO332.out; subst eo23) | ((with_reducible refine gate_callee (f := 22) rfl ?_); refine goesL_ (some 55) rfl rfl Try.func22 (by kernel_rfl) rfl #[.slice A0 l0.length c0, .slice Ao23 t327.length co23] rfl aG ?_; (with_reducible refine (corebanklaw44_chosen.calls kj2 _ _ l0 _ _ t327 t335 _ ?side1 ?side2 ?side3 ?side4 A14.out).mono ?_); (case side1 => repeat (first | exact (Kd.C_below HR0.out HB.out) | (with_reducible refine Kd.C_alloc ?_ _) | (with_reducible refine Kd.C_drewN ?_ _) | (with_reducible refine Kd.C_drew ?_))); (case side2 => exact HC0.out); (case side3 => repeat (first | exact (Kd.R_reads' HO332.out).2.2 | (with_reducible refine Kd.C_alloc ?_ _) | (with_reducible refine Kd.C_drewN ?_ _) | (with_reducible refine Kd.C_drew ?_))); (case side4 => exact (Kd.R_reads' HO332.out).2.1); rintro e w24 ⟨v336, rfl, ho0, hb⟩; refine ⟨_, rfl, ?_⟩; have n0_ := Aside0.mk (Kd.R_below (by (with_reducible repeat (first | apply Kd.R_alloc | apply Kd.R_drewN | apply Kd.R_drew)); exact HO330.out) hb); have n1_ := Aside0.mk (Kd.R_below (by (with_reducible repeat (first | apply Kd.R_alloc | apply Kd.R_drewN | apply Kd.R_drew)); exact HO332.out) hb); have n2_ := Aside0.mk (Kd.R_below (by (with_reducible repeat (first | apply Kd.R_alloc | apply Kd.R_drewN | apply Kd.R_drew)); exact HO334.out) hb); have n3_ := Aside0.mk (Kd.R_lower ho0 (below_size (bE))); have n4_ := Aside0.mk (bS hb); clear HO330; clear HO332; clear HO334; clear HB; have HO330 := n0_; have HO332 := n1_; have HO334 := n2_; have HO337 := n3_; have HB := n4_; clear n0_ n1_ n2_ n3_ n4_; (try clear hb); (try clear hb2); (try clear hk); (try clear hi); (try clear ho0); obtain ⟨Ao25, co25, eo25⟩ := Kd.R_slice HO334.out; subst eo25) | ((with_reducible refine gate_callee (f := 22) rfl ?_); refine goesL_ (some 58) rfl rfl Try.func22 (by kernel_rfl) rfl #[.slice A1 l1.length c1, .slice Ao25 t328.length co25] rfl aG ?_; (with_reducible refine (corebanklaw44_chosen.calls kj2 _ _ l1 _ _ t328 t338 _ ?side1 ?side2 ?side3 ?side4 A15.out).mono ?_); (case side1 => repeat (first | exact (Kd.C_below HR1.out HB.out) | (with_reducible refine Kd.C_alloc ?_ _) | (with_reducible refine Kd.C_drewN ?_ _) | (with_reducible refine Kd.C_drew ?_))); (case side2 => exact HC1.out); (case side3 => repeat (first | exact (Kd.R_reads' HO334.out).2.2 | (with_reducible refine Kd.C_alloc ?_ _) | (with_reducible refine Kd.C_drewN ?_ _) | (with_reducible refine Kd.C_drew ?_))); (case side4 => exact (Kd.R_reads' HO334.out).2.1); rintro e w26 ⟨v339, rfl, ho0, hb⟩; refine ⟨_, rfl, ?_⟩; have n0_ := Aside0.mk (Kd.R_below (by (with_reducible repeat (first | apply Kd.R_alloc | apply Kd.R_drewN | apply Kd.R_drew)); exact HO330.out) hb); have n1_ := Aside0.mk (Kd.R_below (by (with_reducible repeat (first | apply Kd.R_alloc | apply Kd.R_drewN | apply Kd.R_drew)); exact HO332.out) hb); have n2_ := Aside0.mk (Kd.R_below (by (with_reducible repeat (first | apply Kd.R_alloc | apply Kd.R_drewN | apply Kd.R_drew)); exact HO334.out) hb); have n3_ := Aside0.mk (Kd.R_elder' (by (with_reducible repeat (first | apply Kd.R_alloc | apply Kd.R_drewN | apply Kd.R_drew)); exact HO337.out) (Kd.R_base ho0) hb); have n4_ := Aside0.mk (Kd.R_lower (Kd.R_new' ho0 (Kd.R_lt (by (with_reducible repeat (first | apply Kd.R_alloc | apply Kd.R_drewN | apply Kd.R_drew)); exact HO337.out))) (below_size (bE))); have n5_ := Aside0.mk (bS hb); clear HO330; clear HO332; clear HO334; clear HO337; clear HB; have HO330 := n0_; have HO332 := n1_; have HO334 := n2_; have HO337 := n3_; have HO340 := n4_; have HB := n5_; clear n0_ n1_ n2_ n3_ n4_ n5_; (try clear hb); (try clear hb2); (try clear hk); (try clear hi); (try clear ho0); obtain ⟨Ao27, co27, eo27⟩ := Kd.R_slice HO337.out; subst eo27; obtain ⟨Ao28, co28, eo28⟩ := Kd.R_slice HO340.out; subst eo28) | ((with_reducible refine gate_callee (f := 17) rfl ?_); refine goesL_ (some 59) rfl rfl Try.func17 (by kernel_rfl) rfl #[.slice Ao27 t335.length co27, .slice Ao28 t338.length co28] rfl aG ?_; (with_reducible refine (reconcile_Gap.calls kj2 _ _ t335 _ _ t338 t341 t342 _ ?side1 ?side2 ?side3 ?side4 A16.out).mono ?_); (case side1 => repeat (first | exact (Kd.R_reads' HO337.out).2.2 | (with_reducible refine Kd.C_alloc ?_ _) | (with_reducible refine Kd.C_drewN ?_ _) | (with_reducible refine Kd.C_drew ?_))); (case side2 => exact (Kd.R_reads' HO337.out).2.1); (case side3 => repeat (first | exact (Kd.R_reads' HO340.out).2.2 | (with_reducible refine Kd.C_alloc ?_ _) | (with_reducible refine Kd.C_drewN ?_ _) | (with_reducible refine Kd.C_drew ?_))); (case side4 => exact (Kd.R_reads' HO340.out).2.1); rintro e w29 ⟨rfl, hb⟩; refine ⟨_, rfl, ?_⟩; have n0_ := Aside0.mk (Kd.R_below (by (with_reducible repeat (first | apply Kd.R_alloc | apply Kd.R_drewN | apply Kd.R_drew)); exact HO330.out) hb); have n1_ := Aside0.mk (Kd.R_below (by (with_reducible repeat (first | apply Kd.R_alloc | apply Kd.R_drewN | apply Kd.R_drew)); exact HO332.out) hb); have n2_ := Aside0.mk (Kd.R_below (by (with_reducible repeat (first | apply Kd.R_alloc | apply Kd.R_drewN | apply Kd.R_drew)); exact HO334.out) hb); have n3_ := Aside0.mk (Kd.R_below (by (with_reducible repeat (first | apply Kd.R_alloc | apply Kd.R_drewN | apply Kd.R_drew)); exact HO337.out) hb); have n4_ := Aside0.mk (Kd.R_below (by (with_reducible repeat (first | apply Kd.R_alloc | apply Kd.R_drewN | apply Kd.R_drew)); exact HO340.out) hb); have n5_ := Aside0.mk (bS hb); clear HO330; clear HO332; clear HO334; clear HO337; clear HO340; clear HB; have HO330 := n0_; have HO332 := n1_; have HO334 := n2_; have HO337 := n3_; have HO340 := n4_; have HB := n5_; clear n0_ n1_ n2_ n3_ n4_ n5_; (try clear hb); (try clear hb2); (try clear hk); (try clear hi)) | (go_at_call 10; (with_reducible refine (corebanklaw44_live.calls kj2  t343 _ A20.out).mono ?_); rintro e w30 ⟨rfl, hb⟩; have n0_ := Aside0.mk (Kd.R_below (by (with_reducible repeat (first | apply Kd.R_alloc | apply Kd.R_drewN | apply Kd.R_drew)); exact HO330.out) hb); have n1_ := Aside0.mk (Kd.R_below (by (with_reducible repeat (first | apply Kd.R_alloc | apply Kd.R_drewN | apply Kd.R_drew)); exact HO332.out) hb); have n2_ := Aside0.mk (Kd.R_below (by (with_reducible repeat (first | apply Kd.R_alloc | apply Kd.R_drewN | apply Kd.R_drew)); exact HO334.out) hb); have n3_ := Aside0.mk (Kd.R_below (by (with_reducible repeat (first | apply Kd.R_alloc | apply Kd.R_drewN | apply Kd.R_drew)); exact HO337.out) hb); have n4_ := Aside0.mk (Kd.R_below (by (with_reducible repeat (first | apply Kd.R_alloc | apply Kd.R_drewN | apply Kd.R_drew)); exact HO340.out) hb); have n5_ := Aside0.mk (bS hb); clear HO330; clear HO332; clear HO334; clear HO337; clear HO340; clear HB; have HO330 := n0_; have HO332 := n1_; have HO334 := n2_; have HO337 := n3_; have HO340 := n4_; have HB := n5_; clear n0_ n1_ n2_ n3_ n4_ n5_; (try clear hb); (try clear hb2); (try clear hk); (try clear hi)))
                go_ret
                exact ⟨by first | rfl | (simp [errW_none, errW_some] <;> rfl) | (simp [*, errW_none, errW_some] <;> rfl), bE⟩
              · rw [if_neg c19] at H
                exact absurd H (by simp)
            · rw [if_neg c18] at H
              exact absurd H (by simp)
          · rw [if_neg c17] at H
            exact absurd H (by simp)
        · rw [if_neg c12] at H
          have c12b0 : (t322 == 0) = false := beq_eq_false_iff_ne.mpr c12
          have c12b1 : (t322 != 0) = true := bne_iff_ne.mpr c12
          by_cases c31 : t323 = 0
          · rw [if_pos c31] at H
            have c31b0 : (t323 == 0) = true := beq_iff_eq.mpr c31
            have c31b1 : (t323 != 0) = false := bne_eq_false_iff_eq.mpr c31
            clear c31
            by_cases c32 : t324 = t322
            · rw [if_pos c32] at H
              have c32b0 : (t324 == t322) = true := beq_iff_eq.mpr c32
              have c32b1 : (t324 != t322) = false := bne_eq_false_iff_eq.mpr c32
              clear c32
              replace H := Option.bind_eq_some_iff.mp H
              obtain ⟨t325, A330, H⟩ := H
              replace H : (some t325) = some r := H
              have A33 := Aside0.mk A330
              clear A330
              obtain rfl := Option.some.inj H
              go_wp2_with (first | ((with_reducible refine gate_callee (f := 18) rfl ?_); refine goesL_ (some 24) rfl rfl Try.func18 (by kernel_rfl) rfl #[.slice A0 l0.length c0, .slice A1 l1.length c1] rfl aG ?_; (with_reducible refine (corebankref44_Gap.calls kj2 _ _ l0 _ _ l1 t321 t322 _ ?side1 ?side2 ?side3 ?side4 A10.out).mono ?_); (case side1 => repeat (first | exact (Kd.C_below HR0.out HB.out) | (with_reducible refine Kd.C_alloc ?_ _) | (with_reducible refine Kd.C_drewN ?_ _) | (with_reducible refine Kd.C_drew ?_))); (case side2 => exact HC0.out); (case side3 => repeat (first | exact (Kd.C_below HR1.out HB.out) | (with_reducible refine Kd.C_alloc ?_ _) | (with_reducible refine Kd.C_drewN ?_ _) | (with_reducible refine Kd.C_drew ?_))); (case side4 => exact HC1.out); rintro e w' ⟨rfl, ⟨nd, rfl⟩⟩; refine ⟨_, rfl, ?_⟩) | ((with_reducible refine gate_callee (f := 17) rfl ?_); refine goesL_ (some 30) rfl rfl Try.func17 (by kernel_rfl) rfl #[.slice A0 l0.length c0, .slice A1 l1.length c1] rfl aG ?_; (with_reducible refine (reconcile_Gap.calls kj2 _ _ l0 _ _ l1 t323 t324 _ ?side1 ?side2 ?side3 ?side4 A11.out).mono ?_); (case side1 => repeat (first | exact (Kd.C_below HR0.out (bE)) | (with_reducible refine Kd.C_alloc ?_ _) | (with_reducible refine Kd.C_drewN ?_ _) | (with_reducible refine Kd.C_drew ?_))); (case side2 => exact HC0.out); (case side3 => repeat (first | exact (Kd.C_below HR1.out (bE)) | (with_reducible refine Kd.C_alloc ?_ _) | (with_reducible refine Kd.C_drewN ?_ _) | (with_reducible refine Kd.C_drew ?_))); (case side4 => exact HC1.out); rintro e w34 ⟨rfl, hb⟩; refine ⟨_, rfl, ?_⟩; replace HB := Aside0.mk (bS hb); (try clear hb); (try clear hb2); (try clear hk); (try clear hi)) | (go_at_call 10; (with_reducible refine (corebanklaw44_live.calls kj2  t325 _ A33.out).mono ?_); rintro e w35 ⟨rfl, hb⟩; replace HB := Aside0.mk (bS hb); (try clear hb); (try clear hb2); (try clear hk); (try clear hi)))
              go_ret
              exact ⟨by first | rfl | (simp [errW_none, errW_some] <;> rfl) | (simp [*, errW_none, errW_some] <;> rfl), bE⟩
            · rw [if_neg c32] at H
              exact absurd H (by simp)
          · rw [if_neg c31] at H
            exact absurd H (by simp)

end Go.Proofs.Ytdieblejeeojhaa.PA
