/- The contract of reconcile.Match: the walk. -/
import Derived.Test.YtdieblejeeojhaaMatch
namespace Go.Proofs.Ytdieblejeeojhaa.PA
open Go.RowKit Go.Proofs.YtdieblejeeojhaaW.PrintWords Go.Proofs.YtdieblejeeojhaaW.PrintLast Go.Proofs.YtdieblejeeojhaaW.PrintMore Go.Proofs.Ytdieblejeeojhaa.MS Go.Proofs.Ytdieblejeeojhaa.GM
attribute [local go_sem] max2_int min2_int max_two min_two max_three min_three max_four min_four
set_option linter.unusedVariables false
set_option linter.unusedSimpArgs false

def MatchP (w : World) (r1 : List S38) (r2 r3 : List Int) (e : Ending) (w' : World) : Prop :=
  ∃ v0_ v1_ v2_ : Value, e = .returned (.tuple #[v0_, v1_, v2_]) ∧ Kd.R k38 38 w' w.heap.size (fun _ => True) v0_ r1 ∧ Kd.R (Kd.int .i64) 3 w' w.heap.size (fun k_ => some k_ ≠ (v2_ : Value).ownBlock) v1_ r2 ∧ Kd.R (Kd.int .i64) 3 w' w.heap.size (fun k_ => some k_ ≠ (v1_ : Value).ownBlock) v2_ r3 ∧ Below w.heap.size w w'
set_option maxHeartbeats 8000000 in
set_option maxRecDepth 100000 in
theorem reconcile_Match.walk (A0 : Option Addr) (c0 : Nat) (l0 : List S40) (A1 : Option Addr) (c1 : Nat) (l1 : List S40) (w : World) (hr0 : Kd.C k40 w A0 l0.length l0) (hr1 : Kd.C k40 w A1 l1.length l1)
    (hs0 : l0.length ≤ 4096) (hs1 : l1.length ≤ 4096) (hok0 : ∀ x ∈ l0, okI x = true) (hok1 : ∀ x ∈ l1, okI x = true) :
    Calls Try.prog 11 #[.slice A0 l0.length c0, .slice A1 l1.length c1] w (MatchP w (ordL (runM l0 l1).out l0.length) (restL (runM l0 l1).M l0.length) (restL (runM l0 l1).S l1.length)) := by
  have HOP := Aside0.mk (open_.calls A1 c1 l1 w hr1 hs1 (fun x hx => by have := hok1 x hx; simpa [okI, maxLen] using this))
  have HR0 := Aside0.mk hr0
  have HR1 := Aside0.mk hr1
  have HF := Aside0.mk (And.intro hok0 (And.intro hs0 hs1))
  have g0 : decide ((4096 : Int) < (l0.length : Int)) = false := decide_eq_false (by omega)
  have g1 : decide ((4096 : Int) < (l1.length : Int)) = false := decide_eq_false (by omega)
  obtain ⟨R, hR⟩ : ∃ R, R = runM l0 l1 := ⟨_, rfl⟩
  rw [← hR]
  have HRR := Aside0.mk hR
  clear hr0 hr1 hs0 hs1 hok0 hok1 hR
  have hmm := @run_makeMap Try.prog
  have hu40 := Try.underlying40
  have hu38 := Try.underlying38
  have hu61 := Try.underlying61
  go_enter Try.func11, Try.ntmps11
  go_wp2_with (first | (go_at_call 28; refine HOP.out.mono ?_; rintro e w1 ⟨rfl, hO⟩; have HO := Aside0.mk hO; clear hO HOP))
  clear g0 g1
  have HI : Aside0 (Inv w w1.heap.size A1 c1 l1 0 (.slice none 0 0) ⟨[], [], []⟩ (w1.alloc (.map #[] 0))) := by
    obtain ⟨hT, ⟨N1, hG⟩, ⟨N2, hA⟩, hM, hlo, hb⟩ := HO.out
    have hga : w1.grownBy (w1.alloc (.map #[] 0)) none := World.grownBy_alloc _ _ _
    refine ⟨{ tab := hT.kept hga (by simp), ref := (hG.reno (fun _ h => .inr h)).kept hga (by simp) (by simp), amt := (hA.reno (fun _ h => .inr h)).kept hga (by simp) (by simp), tak := ⟨0, Nat.le_refl _, hM.alloc _⟩, met := ⟨0, Nat.le_refl _, BM.made _⟩, row := Kd.R_nil _ _ _ _ _, len := Nat.le_refl _, low := hlo, hgh := by simp, bel := hb.alloc (by omega) _ }⟩
  obtain ⟨HM, hHM⟩ : ∃ HM, HM = w1.heap.size := ⟨_, rfl⟩
  rw [← hHM] at HI ⊢
  clear HO
  generalize w1.alloc (.map #[] 0) = w2 at *
  clear hHM
  have HR : Aside0 (fromP l0 l1 3 1 ⟨[], [], []⟩ = R) := ⟨HRR.out.symm⟩
  go_loopw [9, 10] (fun v9 v10 wr => ∃ (p : Int) (m : Nat) (s : St), v10 = .int .i64 p ∧ Aside0 (p + m = 4 ∧ m ≤ 3) ∧ Aside0 (fromP l0 l1 m p s = R) ∧ Aside0 (Inv w HM A1 c1 l1 ((3 - m) * 20000) v9 s wr))
    (fun _ v _ => (4 - intOf v).toNat)
  case atStart => exact ⟨1, 3, _, rfl, ⟨rfl, Nat.le_refl _⟩, HR, HI⟩
  case round =>
    clear HI HR
    obtain ⟨p, m, s, rfl, HP, HR, HI⟩ := hrel
    by_cases c3 : p ≤ 3
    · have c3b : decide (p ≤ 3) = true := decide_eq_true c3
      have HC3 := Aside0.mk c3
      clear c3
      go_wp2
      obtain ⟨RP, hRP⟩ : ∃ RP, passL l1 p l0 0 s = RP := ⟨_, rfl⟩
      have HRP : Aside0 (passL l1 p (l0.drop 0) 0 s = RP) := ⟨hRP⟩
      have HRN : Aside0 (fromP l0 l1 (m - 1) (p + 1) RP = R) := ⟨by
        have h1 := HR.out
        have h2 := HP.out
        have h3 := HC3.out
        obtain ⟨m', rfl⟩ : ∃ m', m = m' + 1 := ⟨m - 1, by omega⟩
        rw [← hRP]
        exact h1⟩
      clear hRP HR
      obtain ⟨wo, rfl⟩ : ∃ wo : World, wo = wr := ⟨_, rfl⟩
      go_loopw [9, 38] (fun v9 v38 wr => ∃ (i : Int) (n : Nat) (s : St), v38 = .int .i64 i ∧ Aside0 (i = n ∧ n ≤ l0.length) ∧ Aside0 (passL l1 p (l0.drop n) i s = RP) ∧ Aside0 (Inv w HM A1 c1 l1 ((3 - m) * 20000 + 4 * n) v9 s wr))
        (fun _ v _ => l0.length - (intOf v).toNat)
      case atStart => exact ⟨0, 0, s, rfl, ⟨rfl, Nat.zero_le _⟩, HRP, HI⟩
      case round =>
        clear HI HRP
        obtain ⟨i, n, s, rfl, HN, HRP, HI⟩ := hrel
        by_cases c4 : i < (l0.length : Int)
        · have c4b : decide (i < (l0.length : Int)) = true := decide_eq_true c4
          have q1 := eq_true c4
          have hi0 : 0 ≤ i := by have := HN.out; omega
          have q0 := eq_true hi0
          obtain ⟨ad, e1, x0, x1, x2⟩ := at_T40 HR0.out i hi0 c4
          cases e1
          replace x0 := (HI.out.bel.cell (World.block_lt_of_cell? w _ x0)).trans x0
          replace x1 := (HI.out.bel.cell (World.block_lt_of_cell? w _ x1)).trans x1
          replace x2 := (HI.out.bel.cell (World.block_lt_of_cell? w _ x2)).trans x2
          have hlt : n < l0.length := by have := HN.out; omega
          have hdrop : l0.drop n = rd_T40 l0 i :: l0.drop (n + 1) := by
            rw [List.drop_eq_getElem_cons hlt]
            unfold rd_T40
            rw [HN.out.1]
            simp [List.getD_eq_getElem?_getD, hlt]
          have hmem : rd_T40 l0 i ∈ l0 := by
            have : rd_T40 l0 i ∈ l0.drop n := by rw [hdrop]; simp
            exact List.mem_of_mem_drop this
          have hokx := HF.out.1 _ hmem
          have hwf : (Lit.int .i64 i).wf = true := wfI hi0 (by have := HF.out.2.1; omega)
          have e2 : wrap64 (i + 1) = ((n + 1 : Nat) : Int) := by have := HN.out; have := HF.out.2.1; unfold wrap64; omega
          have e3 : ((n + 1 : Nat) : Int) = i + 1 := by have := HN.out; omega
          have hstep := HRP.out
          rw [hdrop] at hstep
          unfold passL at hstep
          have HX := Aside0.mk (And.intro hlt (And.intro hokx (And.intro hwf (And.intro e2 (And.intro e3 hstep)))))
          clear c4 hi0 hlt hdrop hmem hokx hwf e2 e3 hstep HRP
          generalize rd_T40 l0 i = x at *
          have hM : BMt (wr.alloc (.cells #[.string x.f0, .int .i64 x.f1, .int .i64 x.f2] 40)) HM HI.out.met.choose s.M := HI.out.met.choose_spec.2.alloc _
          by_cases g2 : i ∈ s.M
          · have hl := BM.lookb (T := 52) hM Try.underlying3 Try.underlying52 Try.underlying4 (Try.zeroValue4 _) HX.out.2.2.1 (c := true) (by simp [g2])
            have hs : stepM l1 p i x s = s := by unfold stepM; rw [if_pos g2]
            have HS := Aside0.mk hs
            clear hM g2 hs
            go_wp2
            go_roundw
            case rel =>
              refine ⟨_, n + 1, s, rfl, ⟨HX.out.2.2.2.1, HX.out.1⟩, ⟨?_⟩, ⟨(HI.out.quiet (World.grownBy_alloc _ _ none)).mono (by omega)⟩⟩
              have h1 := HX.out.2.2.2.2.2
              rw [HS.out] at h1
              rw [HX.out.2.2.2.1, HX.out.2.2.2.2.1]
              exact h1
            case measure =>
              have h1 := HX.out.2.2.2.1
              have h2 := HN.out
              have h3 := HX.out.1
              simp only [intOf, Array.getD_eq_getD_getElem?]
              rw [h1, h2.1]
              omega
          · have hl := BM.lookb (T := 52) hM Try.underlying3 Try.underlying52 Try.underlying4 (Try.zeroValue4 _) HX.out.2.2.1 (c := false) (by simp [g2])
            have HG := Aside0.mk g2
            have hI0 := HI.out.quiet (World.grownBy_alloc wr (.cells #[.string x.f0, .int .i64 x.f1, .int .i64 x.f2] 40) none)
            obtain ⟨nT, hnT, hBT⟩ := hI0.tak
            have hcon := match_any (w.heap.size + 3) A1 c1 l1 x p (w.heap.size + 4) w.heap.size (w.heap.size + 1) (w.heap.size + 2) nT (fun j => HM ≤ j) s.S _ hI0.tab (Kd.C_below HR1.out hI0.bel) hI0.ref hI0.amt hBT HF.out.2.2
              (by have := HF.out.2.1; have := HN.out; have := HP.out; omega) (by omega) HX.out.2.1 (by have := HP.out; have := HC3.out; omega)
            have HI0 := Aside0.mk hI0
            have HT := Aside0.mk hnT
            have hstep : stepM l1 p i x s = match matL l1 s.S x p with
                | none => s
                | some k => ⟨i :: s.M, k :: s.S, s.out ++ [⟨i, k, p⟩]⟩ := by unfold stepM; rw [if_neg HG.out]; cases matL l1 s.S x p <;> rfl
            generalize matL l1 s.S x p = r at *
            clear hM g2 hI0 hnT hBT
            cases r with
            | none =>
              have HC := Aside0.mk (show Calls Try.prog 29 #[.pointer (some ⟨w.heap.size + 3, 0, none⟩), .agg #[.string x.f0, .int .i64 x.f1, .int .i64 x.f2], .int .i64 p] (wr.alloc (.cells #[.string x.f0, .int .i64 x.f1, .int .i64 x.f2] 40)) (fun e w' => e = .returned (.tuple #[.int .i64 0, .bool false]) ∧ BMt w' (w.heap.size + 2) (nT + 1) s.S ∧ (wr.alloc (.cells #[.string x.f0, .int .i64 x.f1, .int .i64 x.f2] 40)).grownBy w' (some (w.heap.size + 2))) from hcon)
              have HS := Aside0.mk (show stepM l1 p i x s = s from hstep)
              clear hcon hstep
              go_wp2_with (first | (go_at_call 29; refine HC.out.mono ?_; rintro e w' ⟨rfl, hm, hg⟩; have HU := Aside0.mk (And.intro hm hg); clear hm hg HC))
              go_roundw
              case rel =>
                refine ⟨_, n + 1, s, rfl, ⟨HX.out.2.2.2.1, HX.out.1⟩, ⟨?_⟩, ⟨(HI0.out.taken HU.out.2 HT.out HU.out.1).mono (by omega)⟩⟩
                have h1 := HX.out.2.2.2.2.2
                rw [HS.out] at h1
                rw [HX.out.2.2.2.1, HX.out.2.2.2.2.1]
                exact h1
              case measure =>
                have h1 := HX.out.2.2.2.1
                have h2 := HN.out
                have h3 := HX.out.1
                simp only [intOf, Array.getD_eq_getD_getElem?]
                rw [h1, h2.1]
                omega
            | some k =>
              have HC := Aside0.mk (show Calls Try.prog 29 #[.pointer (some ⟨w.heap.size + 3, 0, none⟩), .agg #[.string x.f0, .int .i64 x.f1, .int .i64 x.f2], .int .i64 p] (wr.alloc (.cells #[.string x.f0, .int .i64 x.f1, .int .i64 x.f2] 40)) (fun e w' => e = .returned (.tuple #[.int .i64 k, .bool true]) ∧ BMt w' (w.heap.size + 2) (nT + 1) (k :: s.S) ∧ (wr.alloc (.cells #[.string x.f0, .int .i64 x.f1, .int .i64 x.f2] 40)).grownBy w' (some (w.heap.size + 2))) from hcon)
              have HS := Aside0.mk (show stepM l1 p i x s = ⟨i :: s.M, k :: s.S, s.out ++ [⟨i, k, p⟩]⟩ from hstep)
              clear hcon hstep
              go_wp2_with (first | (go_at_call 29; refine HC.out.mono ?_; rintro e w' ⟨rfl, hm, hg⟩; have hI1 := HI0.out.taken hg HT.out hm; obtain ⟨nM, hnM, hBM⟩ := hI1.met; obtain ⟨U, u1, u2, u3, u4⟩ := BM.update (T := 52) hBM Try.underlying3 Try.underlying52 Try.underlying4 (by have := HF.out.2.1; have := HN.out; have := HP.out; unfold maxLen; omega) HX.out.2.2.1; have HU := Aside0.mk (hI1.mets u3 hnM u2); clear hm hg HC hI1 hnM hBM u2 u3 u4) | ((with_reducible refine gate_builtin (b := .append) (xs := #[.tmp 56, .tmp 61]) rfl ?_); at_builtin; refine Kd.R_append k38 (w0 := w) w.heap.size rfl (.tmp 56) (.tmp 61) 25 38 (.agg #[.int .i64 0, .int .i64 0, .int .i64 0]) 24 rfl Try.underlying25 info38 rfl (by decide) (by omega) u9 s.out (⟨i, k, p⟩ : S38) [.int .i64 i, .int .i64 k, .int .i64 p] (fun k => HM < k) (fun _ => False) rfl rfl ?aP (fun _ hk => hk.elim) ?aF ?aO ?aB ?aS ?aL ?_; (case aP => exact k38_mkM _ _ _ (⟨i, k, p⟩ : S38)); (case aF => exact fun k hk => Nat.lt_of_lt_of_le HU.out.hgh hk); (case aO => exact HU.out.row); (case aB => exact HU.out.bel); (case aS => exact below_size HU.out.bel); (case aL => have := HU.out.len; have h5 := HF.out.2.1; have h6 := HN.out; have h7 := HP.out; (show (s.out.length + 1) * 24 ≤ 140737488355328); have h8 : s.out.length ≤ (3 - m) * 20000 + 4 * n + 1 + 1 := this; omega); intro v1 w4 ho hb hg hat; have HA := Aside0.mk (Inv.app HU.out hg ho (by have := HU.out.len; rw [List.length_append, List.length_singleton]; (show s.out.length + 1 ≤ _); have h8 : s.out.length ≤ (3 - m) * 20000 + 4 * n + 1 + 1 := this; omega)); clear ho hb hg hat HU))
              go_roundw
              case rel =>
                refine ⟨_, n + 1, _, rfl, ⟨HX.out.2.2.2.1, HX.out.1⟩, ⟨?_⟩, ⟨HA.out.mono (by omega)⟩⟩
                have h1 := HX.out.2.2.2.2.2
                rw [HS.out] at h1
                rw [HX.out.2.2.2.1, HX.out.2.2.2.2.1]
                exact h1
              case measure =>
                have h1 := HX.out.2.2.2.1
                have h2 := HN.out
                have h3 := HX.out.1
                simp only [intOf, Array.getD_eq_getD_getElem?]
                rw [h1, h2.1]
                omega
        · have c4b : decide (i < (l0.length : Int)) = false := decide_eq_false c4
          have hn : n = l0.length := by have := HN.out; omega
          have hs : s = RP := by
            have := HRP.out
            rw [hn, List.drop_length] at this
            exact this
          subst hs
          clear c4
          have e4 : wrap64 (p + 1) = p + 1 := by have := HP.out; have := HC3.out; unfold wrap64; omega
          have HE4 := Aside0.mk e4
          clear e4
          go_wp2
          go_roundw
          case rel =>
            refine ⟨_, m - 1, s, rfl, ⟨by rw [HE4.out]; have := HP.out; have := HC3.out; omega, by have := HP.out; omega⟩, ⟨by rw [HE4.out]; exact HRN.out⟩, ⟨HI.out.mono (by have := HP.out; have := HC3.out; have := HF.out.2.1; omega)⟩⟩
          case measure =>
            have h1 := HE4.out
            have h2 := HP.out
            have h3 := HC3.out
            simp only [intOf, Array.getD_eq_getD_getElem?]
            rw [h1]
            omega
    · have c3b : decide (p ≤ 3) = false := decide_eq_false c3
      have hm : m = 0 := by have := HP.out; omega
      subst hm
      clear c3
      have hs : s = R := HR.out
      subst hs
      have hI := HI.out
      have HC := Aside0.mk (sort38.calls u9 s.out w.heap.size (fun k => HM < k) wr hI.row (by have := hI.len; omega))
      clear hI HR
      go_wp2_with (first | (go_at_call 30; refine HC.out.mono ?_; rintro e w3 ⟨rfl, ys, hS, hRow, hg⟩; have HI3 := Aside0.mk (HI.out.app hg hRow (by have h1 := HI.out.len; have h2 := hS.1.length_eq; omega)); have HS := Aside0.mk hS; clear hS hRow hg HC HI))
      have hI3 := HI3.out
      obtain ⟨nM, hnM, hBM⟩ := hI3.met
      obtain ⟨nT, hnT, hBT⟩ := hI3.tak
      have HC1 := Aside0.mk (reconcile_rest.calls l0.length HM nM s.M w3.drew hBM.drew HF.out.2.1)
      have HC2 : Aside0 (∀ W, Below w3.drew.heap.size w3.drew W → Calls Try.prog 27 #[.int .i64 (l1.length : Int), .map (some (w.heap.size + 2))] W fun e w' => ∃ v0_ : Value, e = .returned (v0_) ∧ Kd.R (Kd.int .i64) 3 w' W.heap.size (fun _ => True) v0_ (restL s.S l1.length) ∧ Below W.heap.size W w') := ⟨fun W hW => reconcile_rest.calls l1.length (w.heap.size + 2) nT s.S W (BM.below hBT.drew hW) HF.out.2.2⟩
      have t1 : w3.drew.cell? ⟨w.heap.size + 3, 3, none⟩ = some (.map (some (w.heap.size + 2))) := hI3.tab.2.2.2
      have hlt3 : w.heap.size + 3 < w3.heap.size := by have := hI3.low; have := hI3.hgh; omega
      have HL := Aside0.mk hlt3
      clear hI3 hnM hBM hnT hBT hlt3
      go_region_held3 (fun w' => w'.cell? ⟨w.heap.size + 3, 3, none⟩ = some (.map (some (w.heap.size + 2))))
        (first | exact t1 | exact t2 | exact t3)
        ((first | (go_at_call 27; refine HC1.out.mono ?_; rintro e w4 ⟨v1, rfl, hr1, hb1⟩; have t2 := (hb1.cell (World.block_lt_of_cell? w3.drew _ t1)).trans t1; have HA1 := Aside0.mk (And.intro hr1 hb1); clear hr1 hb1 HC1) | (go_at_call 27; refine (HC2.out _ HA1.out.2).mono ?_; rintro e w5 ⟨v2, rfl, hr2, hb2⟩; have t3 := (hb2.cell (World.block_lt_of_cell? w4 _ t2)).trans t2; have HA2 := Aside0.mk (And.intro hr2 hb2); clear hr2 hb2 HC2)))
      all_goals go_wp2
      all_goals
        go_ret3
        obtain ⟨hr1, hb1⟩ := HA1.out
        obtain ⟨hr2, hb2⟩ := HA2.out
        have hsnd := Snd.run l0 l1
        rw [← HRR.out] at hsnd
        have hys := ordL_eq HS.out.1 HS.out.2 hsnd.1 hsnd.2.2
        have hrow := Kd.R_below (Kd.R_below (Kd.R_drew HI3.out.row) hb1) hb2
        have hlow : w.heap.size ≤ w3.drew.heap.size := by have := HL.out; show w.heap.size ≤ w3.heap.size; omega
        have hr1' := Kd.R_below (Kd.R_bound hr1) hb2
        have hsz1 := hb1.size
        have hB : Below w.heap.size w w5 := ((HI3.out.bel.drew).trans (hb1.mono hlow)).trans (hb2.mono (Nat.le_trans hlow hsz1))
        refine ⟨u9, v1, v2, rfl, ?_, ?_, ?_, hB⟩
        · rw [← hys]
          exact Kd.R_mono hrow (fun _ _ => trivial)
        · refine Kd.R_mono (Kd.R_lower hr1' hlow) (fun k hk e => ?_)
          have h1 := Kd.R_base hr2 k e.symm
          have h2 := hk.2.2.1
          omega
        · refine Kd.R_mono (Kd.R_lower (Kd.R_bound hr2) (Nat.le_trans hlow hsz1)) (fun k hk e => ?_)
          have h1 := Kd.R_lt hr1 k e.symm
          have h2 := hk.2.1
          omega
theorem reconcile_Match.calls (A0 : Option Addr) (c0 : Nat) (l0 : List (S40)) (A1 : Option Addr) (c1 : Nat) (l1 : List (S40)) (r1 : List (S38)) (r2 : List Int) (r3 : List Int) (w : World) (hr0 : Kd.C k40 w A0 l0.length l0) (hc0 : l0.length ≤ c0) (hr1 : Kd.C k40 w A1 l1.length l1) (hc1 : l1.length ≤ c1) (h : reconcile_Match.f l0 l1 = some (r1, r2, r3)) :
    Calls Try.prog 11 #[.slice A0 l0.length c0, .slice A1 l1.length c1] w fun e w' => ∃ v0_ v1_ v2_ : Value, e = .returned (.tuple #[v0_, v1_, v2_]) ∧ Kd.R k38 38 w' w.heap.size (fun _ => True) v0_ r1 ∧ Kd.R (Kd.int .i64) 3 w' w.heap.size (fun k_ => some k_ ≠ (v2_ : Value).ownBlock) v1_ r2 ∧ Kd.R (Kd.int .i64) 3 w' w.heap.size (fun k_ => some k_ ≠ (v1_ : Value).ownBlock) v2_ r3 ∧ Below w.heap.size w w' := by
  unfold reconcile_Match.f at h
  split at h
  · rename_i hc
    simp only [Bool.and_eq_true, decide_eq_true_eq, List.all_eq_true] at hc
    simp only [Option.some.injEq, Prod.mk.injEq] at h
    obtain ⟨rfl, rfl, rfl⟩ := h
    exact reconcile_Match.walk A0 c0 l0 A1 c1 l1 w hr0 hr1 hc.1.1.1 hc.1.1.2 hc.1.2 hc.2
  · cases h
end Go.Proofs.Ytdieblejeeojhaa.PA
