/- The contract of reconcile.rest. -/
import Derived.Test.YtdieblejeeojhaaValid
namespace Go.Proofs.Ytdieblejeeojhaa.PA
open Go.RowKit Go.Proofs.YtdieblejeeojhaaW.PrintWords Go.Proofs.YtdieblejeeojhaaW.PrintLast Go.Proofs.YtdieblejeeojhaaW.PrintMore Go.Proofs.Ytdieblejeeojhaa.MS
attribute [local go_sem] max2_int min2_int max_two min_two max_three min_three max_four min_four
set_option linter.unusedVariables false
set_option linter.unusedSimpArgs false

/-- The numbers below k that are not in S. -/
def restL (S : List Int) : Nat → List Int
  | 0 => []
  | k + 1 => if (k : Int) ∈ S then restL S k else restL S k ++ [(k : Int)]
theorem restL_len (S : List Int) (k : Nat) : (restL S k).length ≤ k := by
  induction k with
  | zero => simp [restL]
  | succ k ih => unfold restL; split <;> (try rw [List.length_append, List.length_singleton]) <;> omega
theorem BM.below {w w' : World} {b n : Nat} {S : List Int} (h : BMt w b n S) (hb : Below w.heap.size w w') : BMt w' b n S := BM.same h (hb.block b (BM.lt h))
set_option maxHeartbeats 8000000 in
set_option maxRecDepth 100000 in
theorem reconcile_rest.calls (m : Nat) (b n : Nat) (S : List Int) (w : World) (hm : BMt w b n S) (hs : m ≤ 4096) :
    Calls Try.prog 27 #[.int .i64 (m : Int), .map (some b)] w fun e w' => ∃ v0_ : Value, e = .returned (v0_) ∧ Kd.R (Kd.int .i64) 3 w' w.heap.size (fun _ => True) v0_ (restL S m) ∧ Below w.heap.size w w' := by
  obtain ⟨a0, ha0⟩ : ∃ a : Int, a = (m : Int) := ⟨_, rfl⟩
  rw [← ha0]
  have HA0 := Aside0.mk ha0
  have HM := Aside0.mk hm
  have HS := Aside0.mk hs
  clear hm hs ha0
  have HB := Aside0.mk (Below.refl w.heap.size w)
  go_enter Try.func27, Try.ntmps27
  go_wp2
  go_loopw [5, 8] (fun v5 v8 wr => ∃ (x8 : Int) (k : Nat), v8 = .int .i64 x8 ∧ Aside0 (x8 = (k : Int) ∧ k ≤ m) ∧ Aside0 (Kd.R (Kd.int .i64) 3 wr w.heap.size (fun _ => True) v5 (restL S k)) ∧ Aside0 (Below w.heap.size w wr))
    (fun _ v _ => m - (intOf v).toNat)
  case atStart => exact ⟨0, 0, rfl, ⟨rfl, Nat.zero_le _⟩, ⟨Kd.R_nil _ _ _ _ _⟩, HB⟩
  case round =>
    clear HB
    obtain ⟨x8, k, rfl, HN, HO_5, HB⟩ := hrel
    have e2 : wrap64 (x8 + 1) = ((k + 1 : Nat) : Int) := by have := HN.out; have := HS.out; unfold wrap64; omega
    have E2 := Aside0.mk e2
    clear e2
    by_cases c1 : x8 < a0
    · have c1b : decide (x8 < a0) = true := decide_eq_true c1
      have hlt : k < m := by have := HN.out; have := HA0.out; omega
      have HL := Aside0.mk hlt
      have hwf : (Lit.int .i64 x8).wf = true := wfI (by have := HN.out; omega) (by have := HN.out; have := HS.out; omega)
      have hM := BM.below HM.out HB.out
      clear c1 hlt
      have HB0 := HB
      by_cases g : x8 ∈ S
      · have hl : (Instr.lookup 52 (.map (some b)) (.int .i64 x8) false).run Try.prog wr = .ok (.bool true) wr := BM.lookb hM Try.underlying3 Try.underlying52 Try.underlying4 (Try.zeroValue4 _) hwf (by simp [g])
        have hR : restL S (k + 1) = restL S k := by conv => lhs; unfold restL
                                                    rw [if_pos (by rw [← HN.out.1]; exact g)]
        clear g hM hwf
        have HR := Aside0.mk hR
        clear hR
        go_wp2
        go_roundw
        case rel => exact ⟨_, k + 1, rfl, ⟨E2.out, HL.out⟩, ⟨by rw [HR.out]; exact HO_5.out⟩, HB⟩
        case measure =>
          have h1 := E2.out
          have h2 := HN.out
          have h3 := HL.out
          simp only [intOf, Array.getD_eq_getD_getElem?]
          rw [h1, h2.1]
          omega
      · have hl : (Instr.lookup 52 (.map (some b)) (.int .i64 x8) false).run Try.prog wr = .ok (.bool false) wr := BM.lookb hM Try.underlying3 Try.underlying52 Try.underlying4 (Try.zeroValue4 _) hwf (by simp [g])
        have hR : restL S (k + 1) = restL S k ++ [x8] := by conv => lhs; unfold restL
                                                            rw [if_neg (by rw [← HN.out.1]; exact g), HN.out.1]
        have hlen : (restL S k).length < 17592186044416 := by have := restL_len S k; have := HN.out; have := HS.out; omega
        clear g hM hwf
        have HR := Aside0.mk hR
        have LM := Aside0.mk hlen
        clear hR hlen
        generalize restL S k = y5 at *
        go_wp2_with (first | ((with_reducible refine gate_builtin (b := .append) (xs := #[.tmp 15, .tmp 17]) rfl ?_); at_builtin; refine Kd.R_append (Kd.int .i64) (w0 := w) w.heap.size rfl (.tmp 15) (.tmp 17) 26 3 (.int .i64 0) 8 rfl Try.underlying26 info3 rfl (by decide) (by omega) u5 y5 x8 [.int .i64 x8] (fun _ => True) (fun _ => False) rfl rfl ?aP (fun _ hk => hk.elim) ?aF ?aO ?aB ?aS ?aL ?_; (case aP => exact rfl); (case aB => exact (bE)); (case aF => exact (fun _ _ => trivial)); (case aO => exact (by (with_reducible repeat (first | apply Kd.R_alloc | apply Kd.R_drewN | apply Kd.R_drew)); exact HO_5.out)); (case aS => exact (below_size (bE))); (case aL => have := LM.out; omega); intro v132 w10 ho hb hg hat; clear HB0; have n0_ := Aside0.mk (hb); have n1_ := Aside0.mk (ho); clear HB; clear HO_5; have HB := n0_; have HO133 := n1_; clear n0_ n1_; clear ho hb hg hat))
        go_roundw
        case rel => exact ⟨_, k + 1, rfl, ⟨E2.out, HL.out⟩, ⟨by rw [HR.out]; exact HO133.out⟩, HB⟩
        case measure =>
          have h1 := E2.out
          have h2 := HN.out
          have h3 := HL.out
          simp only [intOf, Array.getD_eq_getD_getElem?]
          rw [h1, h2.1]
          omega
    · have c1b : decide (x8 < a0) = false := decide_eq_false c1
      have hkm : k = m := by have := HN.out; have := HA0.out; omega
      clear c1
      go_wp2
      go_ret
      exact ⟨_, rfl, by rw [← hkm]; exact HO_5.out, HB.out⟩
end Go.Proofs.Ytdieblejeeojhaa.PA
