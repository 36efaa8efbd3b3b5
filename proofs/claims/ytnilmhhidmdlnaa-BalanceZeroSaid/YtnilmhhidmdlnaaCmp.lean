/- cmp.Compare at strings and cmp.Or at two ints. -/
import Derived.Laws.Cover1
import Derived.Test.YtnilmhhidmdlnaaPAx0
namespace Go.Proofs.Ytnilmhhidmdlnaa.PA
open Go.RowKit Go.Proofs.YtnilmhhidmdlnaaW.PrintWords Go.Proofs.YtnilmhhidmdlnaaW.PrintLast Go.Proofs.YtnilmhhidmdlnaaW.PrintMore
set_option linter.unusedVariables false
set_option linter.unusedSimpArgs false

set_option maxHeartbeats 2000000 in
theorem isNaN_str (s : ByteArray) (w : World) : Calls Try.prog 40 #[.string s] w fun e w' => e = .returned (.bool false) ∧ w' = w := by
  go_enter Try.func40, Try.ntmps40
  go_wp2
  go_ret
  exact ⟨rfl, rfl⟩

def cmpS (s t : ByteArray) : Int := if Op.bytesLess s.toList t.toList = true then -1 else if (s.toList == t.toList) = true then 0 else 1
set_option maxHeartbeats 4000000 in
theorem cmp_str (s t : ByteArray) (w : World) : Calls Try.prog 31 #[.string s, .string t] w fun e w' => e = .returned (.int .i64 (cmpS s t)) ∧ w' = w := by
  have n1 := isNaN_str s w
  have n2 := isNaN_str t w
  go_enter Try.func31, Try.ntmps31
  by_cases h1 : Op.bytesLess s.toList t.toList = true
  · have hc : cmpS s t = -1 := if_pos h1
    rw [hc]
    go_wp2_with (first | (go_at_call 40; refine n1.mono ?_; rintro e w' ⟨rfl, rfl⟩) | (go_at_call 40; refine n2.mono ?_; rintro e w' ⟨rfl, rfl⟩))
    all_goals go_ret
    all_goals exact ⟨rfl, rfl⟩
  · have h1' := eq_false_of_ne_true h1
    by_cases h2 : (s.toList == t.toList) = true
    · have hc : cmpS s t = 0 := by unfold cmpS; rw [if_neg h1, if_pos h2]
      rw [hc]
      clear h1
      go_wp2_with (first | (go_at_call 40; refine n1.mono ?_; rintro e w' ⟨rfl, rfl⟩) | (go_at_call 40; refine n2.mono ?_; rintro e w' ⟨rfl, rfl⟩))
      all_goals go_ret
      all_goals exact ⟨rfl, rfl⟩
    · have hc : cmpS s t = 1 := by unfold cmpS; rw [if_neg h1, if_neg h2]
      have h2' := eq_false_of_ne_true h2
      rw [hc]
      clear h1 h2
      go_wp2_with (first | (go_at_call 40; refine n1.mono ?_; rintro e w' ⟨rfl, rfl⟩) | (go_at_call 40; refine n2.mono ?_; rintro e w' ⟨rfl, rfl⟩))
      all_goals go_ret
      all_goals exact ⟨rfl, rfl⟩

def orV (x y : Int) : Int := if x = 0 then y else x
set_option maxHeartbeats 4000000 in
/-- cmp.Or at two ints. -/
theorem or_two (b : Nat) (x y : Int) (w : World) (h0 : w.cell? ⟨b, 0, none⟩ = some (.int .i64 x)) (h1 : w.cell? ⟨b, 1, none⟩ = some (.int .i64 y)) :
    Calls Try.prog 29 #[.slice (some ⟨b, 0, none⟩) 2 2] w fun e w' => e = .returned (.int .i64 (orV x y)) ∧ w' = w := by
  have H0 := Aside0.mk h0
  have H1 := Aside0.mk h1
  clear h0 h1
  go_enter Try.func29, Try.ntmps29
  go_wp2
  go_loopw [8] (fun v wr => ∃ k : Nat, v = .int .i64 (k : Int) ∧ Aside0 (wr = w ∧ k ≤ 2 ∧ (1 ≤ k → x = 0) ∧ (2 ≤ k → y = 0)))
    (fun v _ => 2 - (intOf v).toNat)
  case atStart => exact ⟨0, rfl, ⟨rfl, by omega, by omega, by omega⟩⟩
  case round =>
    obtain ⟨k, rfl, HN⟩ := hrel
    obtain ⟨hw, hk, hx, hy⟩ := HN.out
    have HX := Aside0.mk hx
    have HY := Aside0.mk hy
    clear hx hy HN
    subst hw
    have h0 := H0.out
    have h1 := H1.out
    rcases (show k = 0 ∨ k = 1 ∨ k = 2 by omega) with rfl | rfl | rfl
    · by_cases c : x = 0
      · have cb : (x != 0) = false := by simp [c]
        have cq : (x == 0) = true := by simp [c]
        have C := Aside0.mk c
        clear c
        go_wp2
        go_roundw
        case rel => exact ⟨1, rfl, ⟨by first | exact rfl | trivial, by omega, fun _ => C.out, by omega⟩⟩
        case measure => simp [intOf]
      · have cb : (x != 0) = true := by simp [c]
        have cq : (x == 0) = false := by simp [c]
        have C := Aside0.mk (show x = 0 → False from c)
        clear c
        go_wp2
        go_ret
        exact ⟨by rw [orV, if_neg C.out]; rfl, rfl⟩
    · by_cases c : y = 0
      · have cb : (y != 0) = false := by simp [c]
        have cq : (y == 0) = true := by simp [c]
        have C := Aside0.mk c
        clear c
        go_wp2
        go_roundw
        case rel => exact ⟨2, rfl, ⟨by first | exact rfl | trivial, by omega, fun _ => HX.out (by omega), fun _ => C.out⟩⟩
        case measure => simp [intOf]
      · have cb : (y != 0) = true := by simp [c]
        have cq : (y == 0) = false := by simp [c]
        clear c
        go_wp2
        go_ret
        exact ⟨by rw [orV, if_pos (HX.out (by omega))]; rfl, rfl⟩
    · go_wp2
      go_ret
      exact ⟨by rw [orV, if_pos (HX.out (by omega)), HY.out (by omega)]; rfl, rfl⟩
end Go.Proofs.Ytnilmhhidmdlnaa.PA
