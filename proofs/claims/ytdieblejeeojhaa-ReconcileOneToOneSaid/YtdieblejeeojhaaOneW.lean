/- The contract of the law ReconcileOneToOne: its walk, by what holds of a match. -/
import Derived.Test.YtdieblejeeojhaaPlOne
import Derived.Test.YtdieblejeeojhaaMatchW
import Derived.Test.YtdieblejeeojhaaFitsG
namespace Go.Proofs.Ytdieblejeeojhaa.PA
open Go.RowKit Go.Sort Go.Proofs.YtdieblejeeojhaaW.PrintWords Go.Proofs.YtdieblejeeojhaaW.PrintLast Go.Proofs.YtdieblejeeojhaaW.PrintMore Go.Proofs.Ytdieblejeeojhaa.MS Go.Proofs.Ytdieblejeeojhaa.Pl
attribute [local go_sem] max2_int min2_int max_two min_two max_three min_three max_four min_four
set_option linter.unusedVariables false
set_option linter.unusedSimpArgs false

theorem below_grow {w : World} (n : Nat) (os : Array Obj) : Below w.heap.size w (grow (w.drewN n) os) :=
  ⟨rfl, rfl, rfl, by simp [grow], fun k hk => heap_grow_old (w.drewN n) os hk⟩
theorem live_calls (w : World) : Calls Try.prog 10 #[] w fun e w' => e = .returned (.bool true) ∧ Below w.heap.size w w' := by
  obtain ⟨k, hk⟩ := Ev.rounds live_ev
  exact corebanklaw44_live.calls k true w hk
set_option maxHeartbeats 8000000 in
set_option maxRecDepth 100000 in
theorem one_first (A0 : Option Addr) (c0 : Nat) (l0 : List S40) (A1 : Option Addr) (c1 : Nat) (l1 : List S40) (w : World) (hr0 : Kd.C k40 w A0 l0.length l0) (hc0 : l0.length ≤ c0) (k0 : Nat) (h0 : corebankref44_Great.f k0 l0 = some true) :
    Calls Try.prog 6 #[.slice A0 l0.length c0, .slice A1 l1.length c1] w fun e w' => e = .returned (.bool true) ∧ Below w.heap.size w w' := by
  have G0 := Aside0.mk (corebankref44_Great.calls k0 A0 c0 l0 true w hr0 hc0 h0)
  clear hr0 hc0 h0
  go_enter Try.func6, Try.ntmps6
  go_wp2_with (first | (go_at_call 9; refine G0.out.mono ?_; rintro e w' ⟨rfl, nd, rfl⟩; clear G0) | (go_at_call 10; refine (live_calls _).mono ?_; rintro e w2 ⟨rfl, hb⟩; have HB := Aside0.mk hb; clear hb))
  go_ret
  exact ⟨rfl, (pw_below_drewN (Below.refl _ _) nd).trans HB.out⟩
set_option maxHeartbeats 8000000 in
set_option maxRecDepth 100000 in
theorem one_great (A0 : Option Addr) (c0 : Nat) (l0 : List S40) (A1 : Option Addr) (c1 : Nat) (l1 : List S40) (w : World) (hr0 : Kd.C k40 w A0 l0.length l0) (hc0 : l0.length ≤ c0) (hr1 : Kd.C k40 w A1 l1.length l1) (hc1 : l1.length ≤ c1)
    (k0 k1 : Nat) (h0 : corebankref44_Great.f k0 l0 = some false) (h1 : corebankref44_Great.f k1 l1 = some true) :
    Calls Try.prog 6 #[.slice A0 l0.length c0, .slice A1 l1.length c1] w fun e w' => e = .returned (.bool true) ∧ Below w.heap.size w w' := by
  have G0 := Aside0.mk (corebankref44_Great.calls k0 A0 c0 l0 false w hr0 hc0 h0)
  have G1 : Aside0 (∀ n, Calls Try.prog 9 #[.slice A1 l1.length c1] (w.drewN n) fun e w' => e = .returned (.bool true) ∧ Drawn0 (w.drewN n) w') := ⟨fun n => corebankref44_Great.calls k1 A1 c1 l1 true (w.drewN n) (Kd.C_drewN hr1 n) hc1 h1⟩
  clear hr0 hr1 hc0 hc1 h0 h1
  go_enter Try.func6, Try.ntmps6
  go_wp2_with (first | (go_at_call 9; (first | (refine G0.out.mono ?_; rintro e w' ⟨rfl, nd, rfl⟩; clear G0) | (refine (G1.out _).mono ?_; rintro e w' ⟨rfl, nd1, rfl⟩; clear G1))) | (go_at_call 10; refine (live_calls _).mono ?_; rintro e w2 ⟨rfl, hb⟩; have HB := Aside0.mk hb; clear hb))
  go_ret
  exact ⟨rfl, (pw_below_drewN (Below.refl _ _) (nd + nd1)).trans HB.out⟩
set_option maxHeartbeats 8000000 in
set_option maxRecDepth 100000 in
theorem one_small (A0 : Option Addr) (c0 : Nat) (l0 : List S40) (A1 : Option Addr) (c1 : Nat) (l1 : List S40) (w : World) (hr0 : Kd.C k40 w A0 l0.length l0) (hc0 : l0.length ≤ c0) (hr1 : Kd.C k40 w A1 l1.length l1) (hc1 : l1.length ≤ c1)
    (k0 k1 : Nat) (h0 : corebankref44_Great.f k0 l0 = some false) (h1 : corebankref44_Great.f k1 l1 = some false) (hs0 : l0.length ≤ 60) (hs1 : l1.length ≤ 60) (q0 : ∀ x ∈ l0, okItem x) (q1 : ∀ x ∈ l1, okItem x) :
    Calls Try.prog 6 #[.slice A0 l0.length c0, .slice A1 l1.length c1] w fun e w' => e = .returned (.bool true) ∧ Below w.heap.size w w' := by
  have G0 := Aside0.mk (corebankref44_Great.calls k0 A0 c0 l0 false w hr0 hc0 h0)
  have G1 : Aside0 (∀ n, Calls Try.prog 9 #[.slice A1 l1.length c1] (w.drewN n) fun e w' => e = .returned (.bool false) ∧ Drawn0 (w.drewN n) w') := ⟨fun n => corebankref44_Great.calls k1 A1 c1 l1 false (w.drewN n) (Kd.C_drewN hr1 n) hc1 h1⟩
  obtain ⟨R, hR⟩ : ∃ R, reconcile_Match.f l0 l1 = some R := ⟨_, match_some l0 l1 (by omega) (by omega) q0 q1⟩
  have h1R := Pl.one l0 l1 (by omega) (by omega)
  obtain ⟨L, A, B⟩ := R
  have e := (match_some l0 l1 (by omega) (by omega) q0 q1).symm.trans hR
  simp only [Option.some.injEq, Prod.mk.injEq] at e
  obtain ⟨e1, e2, e3⟩ := e
  rw [e1, e2, e3] at h1R
  clear e1 e2 e3
  have GM : Aside0 (∀ W, Below w.heap.size w W → Calls Try.prog 11 #[.slice A0 l0.length c0, .slice A1 l1.length c1] W fun e w' => ∃ v0_ v1_ v2_ : Value, e = .returned (.tuple #[v0_, v1_, v2_]) ∧ Kd.R k38 38 w' W.heap.size (fun _ => True) v0_ L ∧ Kd.R (Kd.int .i64) 3 w' W.heap.size (fun k_ => some k_ ≠ (v2_ : Value).ownBlock) v1_ A ∧ Kd.R (Kd.int .i64) 3 w' W.heap.size (fun k_ => some k_ ≠ (v1_ : Value).ownBlock) v2_ B ∧ Below W.heap.size W w') :=
    ⟨fun W hW => reconcile_Match.calls A0 c0 l0 A1 c1 l1 L A B W (Kd.C_below hr0 hW) hc0 (Kd.C_below hr1 hW) hc1 hR⟩
  have HO := Aside0.mk h1R
  have HR := Aside0.mk (And.intro hr0 (And.intro hc0 (And.intro hr1 (And.intro hc1 (And.intro hs0 hs1)))))
  clear hr0 hr1 hc0 hc1 h0 h1 hR h1R q0 q1 hs0 hs1
  have hu40 := Try.underlying40
  have hu38 := Try.underlying38
  go_enter Try.func6, Try.ntmps6
  go_upto_region 4 with (first | (go_at_call 9; (first | (refine G0.out.mono ?_; rintro e w' ⟨rfl, nd, rfl⟩; clear G0) | (refine (G1.out _).mono ?_; rintro e w' ⟨rfl, nd1, rfl⟩; clear G1))) | (go_at_call 11; refine (GM.out _ (pw_below_drewN (Below.refl _ _) (nd + nd1))).mono ?_; rintro e w1 ⟨v0, v1, v2, rfl, hL, hA, hB, hb⟩; obtain ⟨AL, cL, rfl, lL, CL⟩ := Kd.R_reads hL; obtain ⟨AA, cA, rfl, lA, CA⟩ := Kd.R_reads hA; obtain ⟨AB, cB, rfl, lB, CB⟩ := Kd.R_reads hB; have HC := Aside0.mk (And.intro CL (And.intro lL (And.intro CA (And.intro lA (And.intro CB (And.intro lB hb)))))); clear hL hA hB hb lL lA lB CL CA CB GM))
  have b0 : (L.length : Int) ≤ 60 := by have := HO.out.la; have := HR.out; omega
  have b1 : (A.length : Int) ≤ 60 := by have := HO.out.la; have := HR.out; omega
  have b2 : (B.length : Int) ≤ 60 := by have := HO.out.lb; have := HR.out; omega
  have n0 : (((L.length : Int) + (A.length : Int)) != (l0.length : Int)) = false := by have := HO.out.la; simp; omega
  have n1 : (((L.length : Int) + (B.length : Int)) != (l1.length : Int)) = false := by have := HO.out.lb; simp; omega
  obtain ⟨kA, hkA⟩ := HO.out.ra
  obtain ⟨kB, hkB⟩ := HO.out.rb
  have hW1 : Below w.heap.size w w1 := ((pw_below_drewN (Below.refl _ _) (nd + nd1)).trans HC.out.2.2.2.2.2.2 : Below w.heap.size w w1)
  have RA := Aside0.mk (corebanklaw44_rises.calls kA AA cA A (l0.length : Int) true w1 HC.out.2.2.1 HC.out.2.2.2.1 hkA)
  have RB : Aside0 (∀ n, Calls Try.prog 19 #[.slice AB B.length cB, .int .i64 (l1.length : Int)] (w1.drewN n) fun e w' => e = .returned (.bool true) ∧ Drawn0 (w1.drewN n) w') := ⟨fun n => corebanklaw44_rises.calls kB AB cB B (l1.length : Int) true (w1.drewN n) (Kd.C_drewN HC.out.2.2.2.2.1 n) HC.out.2.2.2.2.2.1 hkB⟩
  have RV : Aside0 (∀ n, Calls Try.prog 15 #[.slice A0 l0.length c0, .slice A1 l1.length c1, .slice AL L.length cL] (w1.drewN n) fun e w' => e = .returned (.bool true) ∧ Below (w1.drewN n).heap.size (w1.drewN n) w') := ⟨fun n => reconcile_Valid.calls A0 c0 l0 A1 c1 l1 AL cL L true (w1.drewN n) (Kd.C_drewN (Kd.C_below HR.out.1 hW1) n) HR.out.2.1 (Kd.C_drewN (Kd.C_below HR.out.2.2.1 hW1) n) HR.out.2.2.2.1 (Kd.C_drewN HC.out.1 n) HC.out.2.1 HO.out.ok⟩
  clear hkA hkB
  have HW1 := Aside0.mk hW1
  clear hW1
  go_cut [65] (fun v65 wc => v65 = .bool false ∧ Aside0 (Below w1.heap.size w1 wc))
  case first =>
    go_wp2_with (first | (go_at_call 19; (first | (refine RA.out.mono ?_; rintro e w' ⟨rfl, na, rfl⟩; clear RA) | (refine (RB.out _).mono ?_; rintro e w' ⟨rfl, nb, rfl⟩; clear RB))) | (go_at_call 15; refine (RV.out _).mono ?_; rintro e w' ⟨rfl, hv⟩; have HV := Aside0.mk hv; clear hv RV))
    go_meet
    case rel => exact ⟨rfl, ⟨(pw_below_drewN (Below.refl _ _) (na + nb)).trans HV.out⟩⟩
  case rest =>
    clear n0 n1 RA RB RV
    obtain ⟨rfl, HB⟩ := hcut
    go_wp2
    go_loopw [8] (fun v8 wr => ∃ (i : Int) (n : Nat), v8 = .int .i64 i ∧ Aside0 (i = n ∧ n ≤ L.length) ∧ Aside0 (Below w1.heap.size w1 wr))
      (fun v _ => L.length - (intOf v).toNat)
    case atStart => exact ⟨0, 0, rfl, ⟨rfl, Nat.zero_le _⟩, HB⟩
    case round =>
      clear HB
      obtain ⟨i, n, rfl, HN, HB⟩ := hrel
      by_cases c4 : i < (L.length : Int)
      · have c4b : decide (i < (L.length : Int)) = true := decide_eq_true c4
        have hi0 : 0 ≤ i := by have := HN.out; omega
        obtain ⟨ad, e1, x0, x1, x2⟩ := at_T38 HC.out.1 i hi0 c4
        cases e1
        replace x0 := (HB.out.cell (World.block_lt_of_cell? w1 _ x0)).trans x0
        replace x1 := (HB.out.cell (World.block_lt_of_cell? w1 _ x1)).trans x1
        replace x2 := (HB.out.cell (World.block_lt_of_cell? w1 _ x2)).trans x2
        have hlt : n < L.length := by have := HN.out; omega
        have hat := HO.out.at_ n hlt
        rw [← HN.out.1] at hat
        have hup : 0 < n → (rd_T38 L ((n - 1 : Nat) : Int)).f0 < (rd_T38 L i).f0 := fun h => by
          have := HO.out.up (n - 1) (by omega)
          rw [show n - 1 + 1 = n by omega, ← HN.out.1] at this
          exact this
        have e2 : wrap64 (i + 1) = ((n + 1 : Nat) : Int) := by have := HN.out; unfold wrap64; omega
        obtain ⟨g0, g1, g2, g3, ⟨ka, hka⟩, ⟨kb, hkb⟩, g4, g5, g6, g7⟩ := hat
        have q1 := eq_true c4
        have q0 := eq_true hi0
        have E2 := Aside0.mk (And.intro e2 hlt)
        have HU := Aside0.mk hup
        clear c4 hi0 e2 hlt hup
        go_wp2
        go_quiet (fail)
        go_wp2
        obtain ⟨W, hW⟩ : ∃ W, W = wr.drewN nq := ⟨_, rfl⟩
        rw [← hW]
        have hBW : Below w1.heap.size w1 W := by rw [hW]; exact pw_below_drewN HB.out nq
        have hBw : Below w.heap.size w W := HW1.out.trans (hBW.mono HW1.out.size)
        have hcell : ∀ a, W.cell? a = wr.cell? a := fun a => by rw [hW]; rfl
        replace x0 := (hcell _).trans x0
        replace x1 := (hcell _).trans x1
        replace x2 := (hcell _).trans x2
        clear hW hcell
        generalize rd_T38 L i = p at *
        obtain ⟨aa, ea, y0, y1, y2⟩ := at_T40 HR.out.1 p.f0 g0 g1
        obtain ⟨ab, eb, z0, z1, z2⟩ := at_T40 HR.out.2.2.1 p.f1 g2 g3
        cases ea
        cases eb
        replace y0 := (hBw.cell (World.block_lt_of_cell? w _ y0)).trans y0
        replace y1 := (hBw.cell (World.block_lt_of_cell? w _ y1)).trans y1
        replace y2 := (hBw.cell (World.block_lt_of_cell? w _ y2)).trans y2
        replace z0 := (hBw.cell (World.block_lt_of_cell? w _ z0)).trans z0
        replace z1 := (hBw.cell (World.block_lt_of_cell? w _ z1)).trans z1
        replace z2 := (hBw.cell (World.block_lt_of_cell? w _ z2)).trans z2
        have hA := Aside0.mk (fun n => corebankref05_Has.calls ka AA cA A p.f0 false (W.drewN n) (Kd.C_drewN (Kd.C_below HC.out.2.2.1 hBW) n) HC.out.2.2.2.1 hka)
        have hB := Aside0.mk (fun n => corebankref05_Has.calls kb AB cB B p.f1 false (W.drewN n) (Kd.C_drewN (Kd.C_below HC.out.2.2.2.2.1 hBW) n) HC.out.2.2.2.2.2.1 hkb)
        have hF : ∀ W, Calls Try.prog 21 #[.agg #[.string (rd_T40 l0 p.f0).f0, .int .i64 (rd_T40 l0 p.f0).f1, .int .i64 (rd_T40 l0 p.f0).f2], .agg #[.string (rd_T40 l1 p.f1).f0, .int .i64 (rd_T40 l1 p.f1).f1, .int .i64 (rd_T40 l1 p.f1).f2], .int .i64 p.f2] W (fun e w' => e = .returned (.bool true) ∧ ∃ q os', w' = grow (W.drewN q) os') := fun W => g7 ▸ fits_grow (rd_T40 l0 p.f0) (rd_T40 l1 p.f1) p.f2 W
        have HF := Aside0.mk hF
        have d0 : decide (p.f0 < 0) = false := decide_eq_false (by omega)
        have d1 : decide ((l0.length : Int) ≤ p.f0) = false := decide_eq_false (by omega)
        have d2 : decide (p.f1 < 0) = false := decide_eq_false (by omega)
        have d3 : decide ((l1.length : Int) ≤ p.f1) = false := decide_eq_false (by omega)
        have d4 : decide (p.f2 < 1) = false := decide_eq_false (by omega)
        have d5 : decide (3 < p.f2) = false := decide_eq_false (by omega)
        have HBW := Aside0.mk hBW
        replace g0 := eq_true g0
        replace g1 := eq_true g1
        replace g2 := eq_true g2
        replace g3 := eq_true g3
        clear hka hkb hF g5 g6 g7 hBW hBw HB
        generalize rd_T40 l0 p.f0 = X at *
        generalize rd_T40 l1 p.f1 = Y at *
        have d6 : (X.f2 != Y.f2) = false := by simp [g4]
        clear g4
        go_cut [122] (fun v122 wc => v122 = .bool false ∧ ∃ n, wc = W.drewN n)
        case first =>
          go_quiet (first | (go_at_call_of 20 (Value.slice AA A.length cA); exact Calls.quiet_of ((hA.out _).mono fun e w' h => ⟨h.1, h.2.out⟩)) | (go_at_call_of 20 (Value.slice AB B.length cB); exact Calls.quiet_of ((hB.out _).mono fun e w' h => ⟨h.1, h.2.out⟩)))
          go_wp2
          go_meet
          case rel => exact ⟨rfl, _, rfl⟩
        case rest =>
          obtain ⟨rfl, n2, hwc⟩ := hcut
          have hcell : ∀ a, wc.cell? a = W.cell? a := fun a => by rw [hwc]; rfl
          replace x0 := (hcell _).trans x0
          replace x2 := (hcell _).trans x2
          replace y0 := (hcell _).trans y0
          replace y1 := (hcell _).trans y1
          replace y2 := (hcell _).trans y2
          replace z0 := (hcell _).trans z0
          replace z1 := (hcell _).trans z1
          replace z2 := (hcell _).trans z2
          have hB2 : Below w1.heap.size w1 wc := by rw [hwc]; exact pw_below_drewN HBW.out n2
          clear hcell hwc x1 HBW hA hB d0 d1 d2 d3 d6
          have lt {a : Addr} {v : Value} (h : wc.cell? a = some v) : ∀ n os, (grow (wc.drewN n) os).cell? a = some v := fun n os => cell_grown (World.block_lt_of_cell? wc _ h) h n os
          replace x0 := lt x0
          replace x2 := lt x2
          replace y0 := lt y0
          replace y1 := lt y1
          replace y2 := lt y2
          replace z0 := lt z0
          replace z1 := lt z1
          replace z2 := lt z2
          have mixed : Try.prog.follows .mixedOrders = true := by kernel_rfl
          by_cases hz : 0 < i
          · have hz1 : decide (0 < i) = true := decide_eq_true hz
            have hj0 : 0 ≤ i - 1 := by omega
            have hj1 : i - 1 < (L.length : Int) := by have := HN.out; have := E2.out.2; omega
            obtain ⟨ad', e1, v0, v1, v2⟩ := at_T38 HC.out.1 (i - 1) hj0 hj1
            cases e1
            replace v0 := lt ((hB2.cell (World.block_lt_of_cell? w1 _ v0)).trans v0)
            have hu := HU.out (by have := HN.out; omega)
            rw [show ((n - 1 : Nat) : Int) = i - 1 by have := HN.out; omega] at hu
            have d7 : decide (p.f0 ≤ (rd_T38 L (i - 1)).f0) = false := decide_eq_false (by omega)
            have hw : IntKind.i64.wrap (i - 1) = i - 1 := IntWalk.i64_in _ (by have := HN.out; omega)
            have HB := Aside0.mk hB2
            have v0b := v0
            rw [show (i - 1).toNat = i.toNat - 1 by omega] at v0b
            have r1 : 1 ≤ i := by omega
            have r2 : i < 61 := by have := HN.out; omega
            have r3 : i - 1 < (L.length : Int) := hj1
            replace hj0 := eq_true hj0
            replace hj1 := eq_true hj1
            generalize rd_T38 L (i - 1) = p' at *
            clear v1 v2 hu hB2 hz lt
            go_wp2
            refine wp_region_quiet_grown mixed (by kernel_rfl) ?_
            repeat (go_big_quiet_step ((go_at_call 21; with_reducible exact Calls.grown_of (HF.out _))))
            refine wpQuiet_nil ?_
            intro _ hw'
            obtain ⟨⟨nq, osq⟩, hw''⟩ := hw'
            subst hw''
            clear r1 r2 r3 hw
            go_wp2
            go_roundw
            case rel => exact ⟨_, n + 1, rfl, ⟨E2.out.1, E2.out.2⟩, ⟨HB.out.trans ((below_grow nq osq).mono HB.out.size)⟩⟩
            case measure =>
              have h1 := E2.out
              have h2 := HN.out
              simp only [intOf, Array.getD_eq_getD_getElem?]
              rw [h1.1, h2.1]
              omega
          · have hz1 : decide (0 < i) = false := decide_eq_false hz
            have HB := Aside0.mk hB2
            clear hz hB2 lt
            go_wp2
            refine wp_region_quiet_grown mixed (by kernel_rfl) ?_
            repeat (go_big_quiet_step ((go_at_call 21; with_reducible exact Calls.grown_of (HF.out _))))
            refine wpQuiet_nil ?_
            intro _ hw'
            obtain ⟨⟨nq, osq⟩, hw''⟩ := hw'
            subst hw''
            go_wp2
            go_roundw
            case rel => exact ⟨_, n + 1, rfl, ⟨E2.out.1, E2.out.2⟩, ⟨HB.out.trans ((below_grow nq osq).mono HB.out.size)⟩⟩
            case measure =>
              have h1 := E2.out
              have h2 := HN.out
              simp only [intOf, Array.getD_eq_getD_getElem?]
              rw [h1.1, h2.1]
              omega
      · have c4b : decide (i < (L.length : Int)) = false := decide_eq_false c4
        clear c4
        go_wp2
        obtain ⟨wo, rfl⟩ : ∃ wo : World, wo = wr := ⟨_, rfl⟩
        go_loopw [11] (fun v11 wr => ∃ (x : Int) (m : Nat), v11 = .int .i64 x ∧ Aside0 (x = m ∧ m ≤ A.length) ∧ Aside0 (Below w1.heap.size w1 wr))
          (fun v _ => A.length - (intOf v).toNat)
        case atStart => exact ⟨0, 0, rfl, ⟨rfl, Nat.zero_le _⟩, HB⟩
        case round =>
          clear HB
          obtain ⟨x, m, rfl, HM, HB⟩ := hrel
          by_cases c5 : x < (A.length : Int)
          · have c5b : decide (x < (A.length : Int)) = true := decide_eq_true c5
            have e2 : wrap64 (x + 1) = ((m + 1 : Nat) : Int) := by have := HM.out; unfold wrap64; omega
            have EX := Aside0.mk (And.intro e2 (show m < A.length by have := HM.out; omega))
            clear c5 e2
            go_wp2
            obtain ⟨wp, rfl⟩ : ∃ wp : World, wp = wr := ⟨_, rfl⟩
            go_loopw [12] (fun v12 wr => ∃ (y : Int) (j : Nat), v12 = .int .i64 y ∧ Aside0 (y = j ∧ j ≤ B.length) ∧ Aside0 (Below w1.heap.size w1 wr))
              (fun v _ => B.length - (intOf v).toNat)
            case atStart => exact ⟨0, 0, rfl, ⟨rfl, Nat.zero_le _⟩, HB⟩
            case round =>
              clear HB
              obtain ⟨y, j, rfl, HJ, HB⟩ := hrel
              by_cases c6 : y < (B.length : Int)
              · have c6b : decide (y < (B.length : Int)) = true := decide_eq_true c6
                have e3 : wrap64 (y + 1) = ((j + 1 : Nat) : Int) := by have := HJ.out; unfold wrap64; omega
                have EY := Aside0.mk (And.intro e3 (show j < B.length by have := HJ.out; omega))
                clear c6 e3
                obtain ⟨g0, g1, g2, g3, g4, g5⟩ := HO.out.rest m j EX.out.2 EY.out.2
                rw [← HM.out.1] at g0 g1 g4 g5
                rw [← HJ.out.1] at g2 g3 g4 g5
                obtain ⟨aA, ea, xa⟩ := Kd.at_int HC.out.2.2.1 x (by have := HM.out; omega) (by have := HM.out; have := EX.out.2; omega)
                obtain ⟨aB, eb, xb⟩ := Kd.at_int HC.out.2.2.2.2.1 y (by have := HJ.out; omega) (by have := HJ.out; have := EY.out.2; omega)
                cases ea
                cases eb
                have lt {a : Addr} {v : Value} (h : wr.cell? a = some v) : ∀ n os, (grow (wr.drewN n) os).cell? a = some v := fun n os => cell_grown (World.block_lt_of_cell? wr _ h) h n os
                replace xa := lt ((HB.out.cell (World.block_lt_of_cell? w1 _ xa)).trans xa)
                replace xb := lt ((HB.out.cell (World.block_lt_of_cell? w1 _ xb)).trans xb)
                have q0 : (0 ≤ x) = True := eq_true (by have := HM.out; omega)
                have q1 : (x < (A.length : Int)) = True := eq_true (by have := HM.out; have := EX.out.2; omega)
                have q2 : (0 ≤ y) = True := eq_true (by have := HJ.out; omega)
                have q3 : (y < (B.length : Int)) = True := eq_true (by have := HJ.out; have := EY.out.2; omega)
                have hBw : Below w.heap.size w wr := HW1.out.trans (HB.out.mono HW1.out.size)
                obtain ⟨aa, ea, y0, y1, y2⟩ := at_T40 HR.out.1 (rd A x) g0 g1
                obtain ⟨ab, eb, z0, z1, z2⟩ := at_T40 HR.out.2.2.1 (rd B y) g2 g3
                cases ea
                cases eb
                replace y0 := lt ((hBw.cell (World.block_lt_of_cell? w _ y0)).trans y0)
                replace y1 := lt ((hBw.cell (World.block_lt_of_cell? w _ y1)).trans y1)
                replace y2 := lt ((hBw.cell (World.block_lt_of_cell? w _ y2)).trans y2)
                replace z0 := lt ((hBw.cell (World.block_lt_of_cell? w _ z0)).trans z0)
                replace z1 := lt ((hBw.cell (World.block_lt_of_cell? w _ z1)).trans z1)
                replace z2 := lt ((hBw.cell (World.block_lt_of_cell? w _ z2)).trans z2)
                replace g0 := eq_true g0
                replace g1 := eq_true g1
                replace g2 := eq_true g2
                replace g3 := eq_true g3
                generalize rd A x = X' at *
                generalize rd B y = Y' at *
                generalize rd_T40 l0 X' = X at *
                generalize rd_T40 l1 Y' = Y at *
                have hF1 : ∀ W, Calls Try.prog 21 #[.agg #[.string X.f0, .int .i64 X.f1, .int .i64 X.f2], .agg #[.string Y.f0, .int .i64 Y.f1, .int .i64 Y.f2], .int .i64 1] W (fun e w' => e = .returned (.bool false) ∧ ∃ q os', w' = grow (W.drewN q) os') := fun W => g4 ▸ fits_grow X Y 1 W
                have hF3 : ∀ W, Calls Try.prog 21 #[.agg #[.string X.f0, .int .i64 X.f1, .int .i64 X.f2], .agg #[.string Y.f0, .int .i64 Y.f1, .int .i64 Y.f2], .int .i64 3] W (fun e w' => e = .returned (.bool false) ∧ ∃ q os', w' = grow (W.drewN q) os') := fun W => g5 ▸ fits_grow X Y 3 W
                have HF1 := Aside0.mk hF1
                have HF3 := Aside0.mk hF3
                have mixed : Try.prog.follows .mixedOrders = true := by kernel_rfl
                clear hF1 hF3 g4 g5 hBw lt
                go_wp2
                refine wp_region_quiet_grown mixed (by kernel_rfl) ?_
                repeat (go_big_quiet_step ((first | (go_at_call_of 21 (Value.int .i64 1); with_reducible exact Calls.grown_of (HF1.out _)) | (go_at_call_of 21 (Value.int .i64 3); with_reducible exact Calls.grown_of (HF3.out _)))))
                refine wpQuiet_nil ?_
                intro _ hw'
                obtain ⟨⟨nq, osq⟩, hw''⟩ := hw'
                subst hw''
                go_wp2
                go_roundw
                case rel => exact ⟨_, j + 1, rfl, ⟨EY.out.1, EY.out.2⟩, ⟨HB.out.trans ((below_grow nq osq).mono HB.out.size)⟩⟩
                case measure =>
                  have h1 := EY.out
                  have h2 := HJ.out
                  simp only [intOf, Array.getD_eq_getD_getElem?]
                  rw [h1.1, h2.1]
                  omega
              · have c6b : decide (y < (B.length : Int)) = false := decide_eq_false c6
                clear c6
                go_wp2
                go_roundw
                case rel => exact ⟨_, m + 1, rfl, ⟨EX.out.1, EX.out.2⟩, HB⟩
                case measure =>
                  have h1 := EX.out
                  have h2 := HM.out
                  simp only [intOf, Array.getD_eq_getD_getElem?]
                  rw [h1.1, h2.1]
                  omega
          · have c5b : decide (x < (A.length : Int)) = false := decide_eq_false c5
            clear c5
            go_wp2_with (first | (go_at_call 10; refine (live_calls _).mono ?_; rintro e w6 ⟨rfl, hb⟩; have HB6 := Aside0.mk hb; clear hb))
            go_ret
            exact ⟨rfl, HW1.out.trans ((HB.out.mono HW1.out.size).trans (HB6.out.mono (Nat.le_trans HW1.out.size HB.out.size)))⟩
def OneH (l0 l1 : List S40) (r : Bool) : Prop := r = true ∧ (∀ x ∈ l0, okItem x) ∧ ∀ x ∈ l1, okItem x
theorem corebanklaw44_ReconcileOneToOne.calls (_k : Nat) (A0 : Option Addr) (c0 : Nat) (l0 : List S40) (A1 : Option Addr) (c1 : Nat) (l1 : List S40) (r : Bool) (w : World) (hr0 : Kd.C k40 w A0 l0.length l0) (hc0 : l0.length ≤ c0) (hr1 : Kd.C k40 w A1 l1.length l1) (hc1 : l1.length ≤ c1) (h : OneH l0 l1 r) :
    Calls Try.prog 6 #[.slice A0 l0.length c0, .slice A1 l1.length c1] w fun e w' => e = .returned (.bool r) ∧ Below w.heap.size w w' := by
  obtain ⟨rfl, q0, q1⟩ := h
  obtain ⟨b0, g0, e0⟩ := great_ev l0
  obtain ⟨b1, g1, e1⟩ := great_ev l1
  obtain ⟨k0, h0⟩ := Ev.rounds g0
  obtain ⟨k1, h1⟩ := Ev.rounds g1
  cases b0 with
  | true => exact one_first A0 c0 l0 A1 c1 l1 w hr0 hc0 k0 h0
  | false =>
    cases b1 with
    | true => exact one_great A0 c0 l0 A1 c1 l1 w hr0 hc0 hr1 hc1 k0 k1 h0 h1
    | false => exact one_small A0 c0 l0 A1 c1 l1 w hr0 hc0 hr1 hc1 k0 k1 h0 h1 (e0 rfl) (e1 rfl) q0 q1
end Go.Proofs.Ytdieblejeeojhaa.PA
namespace Go.Proofs.Ytdieblejeeojhaa.Pl
open Go.Proofs.Ytdieblejeeojhaa.PA
theorem oneToOne (l0 l1 : List S40) (q0 : ∀ x ∈ l0, okItem x) (q1 : ∀ x ∈ l1, okItem x) : ∃ _k : Nat, OneH l0 l1 true := ⟨0, rfl, q0, q1⟩
end Go.Proofs.Ytdieblejeeojhaa.Pl
