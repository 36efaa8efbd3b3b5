/- The contract of reconcile.Valid. -/
import Derived.Test.YtdieblejeeojhaaPAx0
import Derived.Test.YtdieblejeeojhaaMapSet
namespace Go.Proofs.Ytdieblejeeojhaa.PA
open Go.RowKit Go.Proofs.YtdieblejeeojhaaW.PrintWords Go.Proofs.YtdieblejeeojhaaW.PrintLast Go.Proofs.YtdieblejeeojhaaW.PrintMore Go.Proofs.Ytdieblejeeojhaa.MS
attribute [local go_sem] max2_int min2_int max_two min_two max_three min_three max_four min_four
set_option linter.unusedVariables false
set_option linter.unusedSimpArgs false

abbrev BMt (w : World) (b n : Nat) (S : List Int) : Prop := BM Try.prog 3 4 w b n S
theorem wfI {x : Int} (h0 : 0 ≤ x) (h1 : x < 140737488351233) : (Lit.int .i64 x).wf = true := by
  simp [Lit.wf, IntKind.min, IntKind.max, IntKind.signed, IntKind.bits]; omega
/-- One pair is refused. -/
def badp (l0 l1 : List S40) (a b : List Int) (p : S38) : Bool :=
  decide (p.f0 < 0) || decide ((l0.length : Int) ≤ p.f0) || decide (p.f1 < 0) || decide ((l1.length : Int) ≤ p.f1) || decide (p.f0 ∈ a) || decide (p.f1 ∈ b) || !(decide ((rd_T40 l0 p.f0).f2 = (rd_T40 l1 p.f1).f2))
theorem badp_ok {l0 l1 : List S40} {a b : List Int} {p : S38} (h : badp l0 l1 a b p = false) : 0 ≤ p.f0 ∧ p.f0 < (l0.length : Int) ∧ 0 ≤ p.f1 ∧ p.f1 < (l1.length : Int) := by
  unfold badp at h
  simp at h
  omega
def vgo (l0 l1 : List S40) : List Int → List Int → List S38 → Bool
  | _, _, [] => true
  | a, b, p :: r => if badp l0 l1 a b p = true then false else vgo l0 l1 (p.f0 :: a) (p.f1 :: b) r
def reconcile_Valid.f (l0 l1 : List S40) (l2 : List S38) : Option Bool := if l0.length ≤ 140737488351232 ∧ l1.length ≤ 140737488351232 ∧ l2.length ≤ 140737488351232 then some (vgo l0 l1 [] [] l2) else none
set_option maxHeartbeats 8000000 in
set_option maxRecDepth 100000 in
theorem reconcile_Valid.calls (A0 : Option Addr) (c0 : Nat) (l0 : List (S40)) (A1 : Option Addr) (c1 : Nat) (l1 : List (S40)) (A2 : Option Addr) (c2 : Nat) (l2 : List (S38)) (r : Bool) (w : World) (hr0 : Kd.C k40 w A0 l0.length l0) (hc0 : l0.length ≤ c0) (hr1 : Kd.C k40 w A1 l1.length l1) (hc1 : l1.length ≤ c1) (hr2 : Kd.C k38 w A2 l2.length l2) (hc2 : l2.length ≤ c2) (h : reconcile_Valid.f l0 l1 l2 = some r) :
    Calls Try.prog 15 #[.slice A0 l0.length c0, .slice A1 l1.length c1, .slice A2 l2.length c2] w fun e w' => e = .returned (.bool r) ∧ Below w.heap.size w w' := by
  have hsz : (l0.length ≤ 140737488351232 ∧ l1.length ≤ 140737488351232 ∧ l2.length ≤ 140737488351232) ∧ vgo l0 l1 [] [] l2 = r := by
    unfold reconcile_Valid.f at h
    split at h
    · exact ⟨by assumption, Option.some.inj h⟩
    · cases h
  obtain ⟨⟨hs0, hs1, hsz⟩, hv⟩ := hsz
  have HS : Aside0 ((l0.length : Int) ≤ 140737488351233 ∧ (l1.length : Int) ≤ 140737488351233) := ⟨by omega, by omega⟩
  clear hs0 hs1
  clear h
  have HR0 := Aside0.mk hr0
  have HR1 := Aside0.mk hr1
  have HR2 := Aside0.mk hr2
  clear hr0 hr1 hr2 hc0 hc1 hc2
  have HV := Aside0.mk hv
  clear hv
  have hmm := @run_makeMap Try.prog
  go_enter Try.func15, Try.ntmps15
  go_wp2
  go_loopw [15] (fun v wr => ∃ (x : Int) (n : Nat) (a b : List Int), v = .int .i64 x ∧ Aside0 (x = n ∧ n ≤ l2.length) ∧ Aside0 (vgo l0 l1 a b (l2.drop n) = r) ∧ Aside0 (BMt wr w.heap.size n a) ∧ Aside0 (BMt wr (w.heap.size + 1) n b) ∧ Aside0 (Below w.heap.size w wr))
    (fun v _ => l2.length - (intOf v).toNat)
  case atStart =>
    refine ⟨0, 0, [], [], rfl, ⟨rfl, Nat.zero_le _⟩, HV, ⟨(BM.made _).alloc _⟩, ⟨?_⟩, ⟨((Below.refl _ _).alloc (Nat.le_refl _) _).alloc (by simp) _⟩⟩
    have := BM.made (P := Try.prog) (K := 3) (E := 4) (w.alloc (.map #[] 0))
    simpa using this
  case round =>
    clear HV
    obtain ⟨x, n, a, b, rfl, HN, HV, HA, HB, HW⟩ := hrel
    by_cases c1 : x < (l2.length : Int)
    · have q1 : x < (l2.length : Int) := c1
      have q0 : (0 : Int) ≤ x := by have := HN.out; omega
      clear c1
      have c1b : decide (x < (l2.length : Int)) = true := decide_eq_true q1
      obtain ⟨ad, e1, x0, x1, x2⟩ := at_T38 HR2.out x q0 q1
      cases e1
      replace x0 := (HW.out.cell (World.block_lt_of_cell? w _ x0)).trans x0
      replace x1 := (HW.out.cell (World.block_lt_of_cell? w _ x1)).trans x1
      replace x2 := (HW.out.cell (World.block_lt_of_cell? w _ x2)).trans x2
      replace q0 := eq_true q0
      replace q1 := eq_true q1
      go_wp2
      have HC := Aside0.mk (Below.refl 0 w)
      clear q0 q1
      go_cut [67] (fun v67 wc => v67 = .bool (badp l0 l1 a b (rd_T38 l2 x)) ∧ ∃ nq, wc = (wr.alloc (.cells #[.int .i64 (rd_T38 l2 x).f0, .int .i64 (rd_T38 l2 x).f1, .int .i64 (rd_T38 l2 x).f2] 38)).drewN nq)
      case first =>
        generalize hp : rd_T38 l2 x = p at *
        by_cases g1 : p.f0 < 0
        · have g1b : decide (p.f0 < 0) = true := decide_eq_true g1
          have hb : badp l0 l1 a b p = true := by unfold badp; simp [g1]
          go_quiet (fail)
          go_wp2
          go_meet
          case rel => exact ⟨by rw [hb], _, rfl⟩
        · have g1b : decide (p.f0 < 0) = false := decide_eq_false g1
          by_cases g2 : (l0.length : Int) ≤ p.f0
          · have g2b : decide ((l0.length : Int) ≤ p.f0) = true := decide_eq_true g2
            have hb : badp l0 l1 a b p = true := by unfold badp; simp [g1, g2]
            go_quiet (fail)
            go_wp2
            go_meet
            case rel => exact ⟨by rw [hb], _, rfl⟩
          · have g2b : decide ((l0.length : Int) ≤ p.f0) = false := decide_eq_false g2
            by_cases g3 : p.f1 < 0
            · have g3b : decide (p.f1 < 0) = true := decide_eq_true g3
              have hb : badp l0 l1 a b p = true := by unfold badp; simp [g1, g2, g3]
              go_quiet (fail)
              go_wp2
              go_meet
              case rel => exact ⟨by rw [hb], _, rfl⟩
            · have g3b : decide (p.f1 < 0) = false := decide_eq_false g3
              by_cases g4 : (l1.length : Int) ≤ p.f1
              · have g4b : decide ((l1.length : Int) ≤ p.f1) = true := decide_eq_true g4
                have hb : badp l0 l1 a b p = true := by unfold badp; simp [g1, g2, g3, g4]
                go_quiet (fail)
                go_wp2
                go_meet
                case rel => exact ⟨by rw [hb], _, rfl⟩
              · have g4b : decide ((l1.length : Int) ≤ p.f1) = false := decide_eq_false g4
                by_cases g5 : p.f0 ∈ a
                · have gk : 0 ≤ p.f0 ∧ p.f0 < (l0.length : Int) := by omega
                  have hl0 : ∀ n, (Instr.lookup 52 (.map (some w.heap.size)) (.int .i64 p.f0) false).run Try.prog ((wr.alloc (.cells #[.int .i64 p.f0, .int .i64 p.f1, .int .i64 p.f2] 38)).drewN n) = .ok (.bool true) ((wr.alloc (.cells #[.int .i64 p.f0, .int .i64 p.f1, .int .i64 p.f2] 38)).drewN n) := fun n => BM.lookb (BM.drewN (BM.alloc HA.out _) n) Try.underlying3 Try.underlying52 Try.underlying4 (Try.zeroValue4 _) (wfI gk.1 (Int.lt_of_lt_of_le gk.2 HS.out.1)) (by simp [g5])
                  have hb : badp l0 l1 a b p = true := by unfold badp; simp [g1, g2, g3, g4, g5]
                  go_quiet (fail)
                  go_wp2
                  go_meet
                  case rel => exact ⟨by rw [hb], _, rfl⟩
                · have gk : 0 ≤ p.f0 ∧ p.f0 < (l0.length : Int) := by omega
                  have hl0 : ∀ n, (Instr.lookup 52 (.map (some w.heap.size)) (.int .i64 p.f0) false).run Try.prog ((wr.alloc (.cells #[.int .i64 p.f0, .int .i64 p.f1, .int .i64 p.f2] 38)).drewN n) = .ok (.bool false) ((wr.alloc (.cells #[.int .i64 p.f0, .int .i64 p.f1, .int .i64 p.f2] 38)).drewN n) := fun n => BM.lookb (BM.drewN (BM.alloc HA.out _) n) Try.underlying3 Try.underlying52 Try.underlying4 (Try.zeroValue4 _) (wfI gk.1 (Int.lt_of_lt_of_le gk.2 HS.out.1)) (by simp [g5])
                  by_cases g6 : p.f1 ∈ b
                  · have gm : 0 ≤ p.f1 ∧ p.f1 < (l1.length : Int) := by omega
                    have hl1 : ∀ n, (Instr.lookup 52 (.map (some (w.heap.size + 1))) (.int .i64 p.f1) false).run Try.prog ((wr.alloc (.cells #[.int .i64 p.f0, .int .i64 p.f1, .int .i64 p.f2] 38)).drewN n) = .ok (.bool true) ((wr.alloc (.cells #[.int .i64 p.f0, .int .i64 p.f1, .int .i64 p.f2] 38)).drewN n) := fun n => BM.lookb (BM.drewN (BM.alloc HB.out _) n) Try.underlying3 Try.underlying52 Try.underlying4 (Try.zeroValue4 _) (wfI gm.1 (Int.lt_of_lt_of_le gm.2 HS.out.2)) (by simp [g6])
                    have hb : badp l0 l1 a b p = true := by unfold badp; simp [g1, g2, g3, g4, g5, g6]
                    go_quiet (fail)
                    go_wp2
                    go_meet
                    case rel => exact ⟨by rw [hb], _, rfl⟩
                  · have gm : 0 ≤ p.f1 ∧ p.f1 < (l1.length : Int) := by omega
                    have hl1 : ∀ n, (Instr.lookup 52 (.map (some (w.heap.size + 1))) (.int .i64 p.f1) false).run Try.prog ((wr.alloc (.cells #[.int .i64 p.f0, .int .i64 p.f1, .int .i64 p.f2] 38)).drewN n) = .ok (.bool false) ((wr.alloc (.cells #[.int .i64 p.f0, .int .i64 p.f1, .int .i64 p.f2] 38)).drewN n) := fun n => BM.lookb (BM.drewN (BM.alloc HB.out _) n) Try.underlying3 Try.underlying52 Try.underlying4 (Try.zeroValue4 _) (wfI gm.1 (Int.lt_of_lt_of_le gm.2 HS.out.2)) (by simp [g6])
                    obtain ⟨ad0, e0, y0, y1, y2⟩ := at_T40 HR0.out p.f0 gk.1 gk.2
                    obtain ⟨ad1, e2, z0, z1, z2⟩ := at_T40 HR1.out p.f1 gm.1 gm.2
                    cases e0
                    cases e2
                    replace y2 := (HW.out.cell (World.block_lt_of_cell? w _ y2)).trans y2
                    replace z2 := (HW.out.cell (World.block_lt_of_cell? w _ z2)).trans z2
                    replace y2 := (((Below.refl wr.heap.size wr).alloc (Nat.le_refl _) (.cells #[.int .i64 p.f0, .int .i64 p.f1, .int .i64 p.f2] 38)).cell (World.block_lt_of_cell? wr _ y2)).trans y2
                    replace z2 := (((Below.refl wr.heap.size wr).alloc (Nat.le_refl _) (.cells #[.int .i64 p.f0, .int .i64 p.f1, .int .i64 p.f2] 38)).cell (World.block_lt_of_cell? wr _ z2)).trans z2
                    have k1 := eq_true gk.1
                    have k2 := eq_true gk.2
                    have m1 := eq_true gm.1
                    have m2 := eq_true gm.2
                    clear y0 y1 z0 z1 gk gm
                    by_cases g7 : (rd_T40 l0 p.f0).f2 = (rd_T40 l1 p.f1).f2
                    · have hb : badp l0 l1 a b p = false := by unfold badp; simp [g1, g2, g3, g4, g5, g6, g7]
                      rw [← g7] at z2
                      go_quiet (fail)
                      go_wp2
                      go_meet
                      case rel => exact ⟨by rw [hb], _, rfl⟩
                    · have hb : badp l0 l1 a b p = true := by unfold badp; simp [g7]
                      have g7b : ((rd_T40 l0 p.f0).f2 != (rd_T40 l1 p.f1).f2) = true := by simpa using g7
                      have g7c : ((rd_T40 l0 p.f0).f2 == (rd_T40 l1 p.f1).f2) = false := by simpa using g7
                      have g7d : decide ((rd_T40 l0 p.f0).f2 = (rd_T40 l1 p.f1).f2) = false := decide_eq_false g7
                      go_quiet (fail)
                      go_wp2
                      go_meet
                      case rel => exact ⟨by rw [hb], _, rfl⟩
      case rest =>
        obtain ⟨rfl, nq, rfl⟩ := hcut
        have hdrop : l2.drop n = rd_T38 l2 x :: l2.drop (n + 1) := by
          obtain ⟨e, hn⟩ := HN.out
          have hlt : n < l2.length := by have := of_decide_eq_true c1b; omega
          rw [List.drop_eq_getElem_cons hlt]
          unfold rd_T38
          rw [e]
          simp [List.getD_eq_getElem?_getD, hlt]
        have H := HV.out
        rw [hdrop] at H
        unfold vgo at H
        clear hdrop
        generalize hp : rd_T38 l2 x = p at *
        by_cases hb : badp l0 l1 a b p = true
        · rw [if_pos hb] at H
          subst H
          rw [hb]
          go_wp2
          go_ret
          exact ⟨rfl, pw_below_drewN (HW.out.alloc HW.out.size _) nq⟩
        · rw [if_neg hb] at H
          have hb' : badp l0 l1 a b p = false := by simpa using hb
          have H' := Aside0.mk H
          clear H hb
          rw [hb']
          have hg := badp_ok hb'
          have w0 := wfI hg.1 (Int.lt_of_lt_of_le hg.2.1 HS.out.1)
          have w1 := wfI hg.2.2.1 (Int.lt_of_lt_of_le hg.2.2.2 HS.out.2)
          clear hg hb'
          have hA := Aside0.mk (BM.drewN (BM.alloc HA.out (.cells #[.int .i64 p.f0, .int .i64 p.f1, .int .i64 p.f2] 38)) nq)
          have hB := Aside0.mk (BM.drewN (BM.alloc HB.out (.cells #[.int .i64 p.f0, .int .i64 p.f1, .int .i64 p.f2] 38)) nq)
          have hW := Aside0.mk (pw_below_drewN (HW.out.alloc HW.out.size (.cells #[.int .i64 p.f0, .int .i64 p.f1, .int .i64 p.f2] 38)) nq)
          have b0 : ((wr.alloc (.cells #[.int .i64 p.f0, .int .i64 p.f1, .int .i64 p.f2] 38)).drewN nq).cell? ⟨wr.heap.size, 0, none⟩ = some (.int .i64 p.f0) := by simp
          have b1 : ((wr.alloc (.cells #[.int .i64 p.f0, .int .i64 p.f1, .int .i64 p.f2] 38)).drewN nq).cell? ⟨wr.heap.size, 1, none⟩ = some (.int .i64 p.f1) := by simp
          have hne0 : w.heap.size ≠ wr.heap.size := Nat.ne_of_lt HA.out.lt
          have hne1 : w.heap.size + 1 ≠ wr.heap.size := Nat.ne_of_lt HB.out.lt
          generalize (wr.alloc (.cells #[.int .i64 p.f0, .int .i64 p.f1, .int .i64 p.f2] 38)).drewN nq = W at *
          have hn47 : n < maxLen := by have := HN.out; unfold maxLen; omega
          obtain ⟨U1, u1, u2, u3, u4⟩ := BM.update (T := 52) hA.out.drew Try.underlying3 Try.underlying52 Try.underlying4 hn47 w0
          obtain ⟨U2, u5, u6, u7, u8⟩ := BM.update (T := 52) (hB.out.drew.kept u3 (by simp)) Try.underlying3 Try.underlying52 Try.underlying4 hn47 w1
          have uc0 : U1.cell? ⟨wr.heap.size, 0, none⟩ = some (.int .i64 p.f0) := u3.cell (w := W.drew) b0 (by simp; omega)
          have uc1 : U1.cell? ⟨wr.heap.size, 1, none⟩ = some (.int .i64 p.f1) := u3.cell (w := W.drew) b1 (by simp; omega)
          have hb1 : Below w.heap.size w W.drew := pw_below_drewN hW.out 1
          have hb2 := hb1.grown u3 hb1.size (fun j hj => by cases hj; exact Nat.le_refl _)
          have hb3 := hb2.grown u7 hb2.size (fun j hj => by cases hj; exact Nat.le_succ _)
          have E := Aside0.mk (And.intro (u2.kept u7 (by simp)) (And.intro u6 hb3))
          clear u2 u3 u4 u6 u7 u8 hb1 hb2 hb3
          go_wp2
          go_region
          go_wp2
          go_roundw
          case rel =>
            obtain ⟨e, hn⟩ := HN.out
            have hlt : n < l2.length := by have := of_decide_eq_true c1b; omega
            exact ⟨wrap64 (x + 1), n + 1, p.f0 :: a, p.f1 :: b, rfl, ⟨by rw [e]; unfold wrap64; omega, by omega⟩, H', ⟨E.out.1⟩, ⟨E.out.2.1⟩, ⟨E.out.2.2⟩⟩
          case measure =>
            obtain ⟨e, hn⟩ := HN.out
            have hlt : n < l2.length := by have := of_decide_eq_true c1b; omega
            have e2 : wrap64 (x + 1) = (n : Int) + 1 := by rw [e]; unfold wrap64; omega
            rw [e] at e2
            simp only [intOf, Array.getD_eq_getD_getElem?, e]
            rw [e2]
            omega
    · have c1b : decide (x < (l2.length : Int)) = false := decide_eq_false c1
      have hn' : n = l2.length := by have := HN.out; omega
      clear c1
      have HR := HV.out
      rw [hn', List.drop_length] at HR
      unfold vgo at HR
      subst HR
      go_wp2
      go_ret
      exact ⟨rfl, HW.out⟩
end Go.Proofs.Ytdieblejeeojhaa.PA
