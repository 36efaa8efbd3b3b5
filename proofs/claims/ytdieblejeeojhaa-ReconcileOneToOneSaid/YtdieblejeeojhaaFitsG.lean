/- The contract of the reference's Fits, with the blocks that it lays told. -/
import Derived.Test.YtdieblejeeojhaaPlMatch
import Derived.Shelf.SlSortCmp.QuietGrown
namespace Go.Proofs.Ytdieblejeeojhaa.PA
open Go.RowKit Go.Sort Go.Proofs.YtdieblejeeojhaaW.PrintWords Go.Proofs.YtdieblejeeojhaaW.PrintLast Go.Proofs.YtdieblejeeojhaaW.PrintMore Go.Proofs.Ytdieblejeeojhaa.Pl
attribute [local go_sem] max2_int min2_int max_two min_two max_three min_three max_four min_four
set_option linter.unusedVariables false
set_option linter.unusedSimpArgs false
theorem close_same (a b : Int) (w : World) : Calls Try.prog 39 #[.int .i64 a, .int .i64 b] w fun e w' => e = .returned (.bool (closeB a b)) ∧ w' = w := by
  unfold closeB
  by_cases h : a > b
  · rw [if_pos h]
    go_enter Try.func39, Try.ntmps39
    go_wp2
    go_ret
    exact ⟨rfl, rfl⟩
  · rw [if_neg h]
    go_enter Try.func39, Try.ntmps39
    go_wp2
    go_ret
    exact ⟨rfl, rfl⟩
def GrowP (w : World) (b : Bool) (e : Ending) (w' : World) : Prop := e = .returned (.bool b) ∧ ∃ q os', w' = grow (w.drewN q) os'
set_option maxHeartbeats 4000000 in
set_option maxRecDepth 100000 in
theorem fits_grow (X Y : S40) (p : Int) (w : World) : Calls Try.prog 21 #[.agg #[.string X.f0, .int .i64 X.f1, .int .i64 X.f2], .agg #[.string Y.f0, .int .i64 Y.f1, .int .i64 Y.f2], .int .i64 p] w (GrowP w (fitB X Y p)) := by
  have hu40 := Try.underlying40
  have hend : ∀ (a b : Obj), (w.alloc a).alloc b = grow (w.drewN 0) #[a, b] := fun a b => by rw [alloc_eq_grow, alloc_eq_grow, grow_grow]; rfl
  by_cases h : X.f2 = Y.f2
  · have h' : (X.f2 != Y.f2) = false := by simp [h]
    by_cases h1 : p = 1
    · have hf : fitB X Y p = (X.f0.toList == Y.f0.toList) := by unfold fitB; rw [if_pos h, if_pos h1, str_eq]
      rw [hf]
      subst h1
      have HE := Aside0.mk hend
      clear h hf hend
      go_enter Try.func21, Try.ntmps21
      go_wp2
      go_ret
      exact ⟨rfl, 0, _, HE.out _ _⟩
    · by_cases h2 : p = 2
      · have hf : fitB X Y p = (X.f1 == Y.f1) := by unfold fitB; rw [if_pos h, if_neg h1, if_pos h2]
        rw [hf]
        subst h2
        have HE := Aside0.mk hend
        clear h hf hend h1
        go_enter Try.func21, Try.ntmps21
        go_wp2
        go_ret
        exact ⟨rfl, 0, _, HE.out _ _⟩
      · have hf : fitB X Y p = closeB X.f1 Y.f1 := by unfold fitB; rw [if_pos h, if_neg h1, if_neg h2]
        rw [hf]
        have g1 : (p == 1) = false := by simpa using h1
        have g2 : (p == 2) = false := by simpa using h2
        have g3 : decide (p = 1) = false := decide_eq_false h1
        have g4 : decide (p = 2) = false := decide_eq_false h2
        have HE := Aside0.mk hend
        clear h hf hend h1 h2
        go_enter Try.func21, Try.ntmps21
        go_wp2_with (first | (go_at_call 39; refine (close_same _ _ _).mono ?_; rintro e w' ⟨rfl, rfl⟩))
        go_ret
        exact ⟨rfl, 0, _, HE.out _ _⟩
  · have h' : (X.f2 != Y.f2) = true := by simpa using h
    have hf : fitB X Y p = false := by unfold fitB; rw [if_neg h]
    rw [hf]
    have HE := Aside0.mk hend
    clear h hf hend
    go_enter Try.func21, Try.ntmps21
    go_wp2
    go_ret
    exact ⟨rfl, 0, _, HE.out _ _⟩
end Go.Proofs.Ytdieblejeeojhaa.PA
