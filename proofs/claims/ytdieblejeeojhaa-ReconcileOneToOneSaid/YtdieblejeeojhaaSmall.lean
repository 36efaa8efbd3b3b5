/- The contracts of the closures of (*table).match, of near, and of Match's comparison. -/
import Derived.Test.YtdieblejeeojhaaTake
namespace Go.Proofs.Ytdieblejeeojhaa.PA
open Go.RowKit Go.Proofs.YtdieblejeeojhaaW.PrintWords Go.Proofs.YtdieblejeeojhaaW.PrintLast Go.Proofs.YtdieblejeeojhaaW.PrintMore Go.Proofs.Ytdieblejeeojhaa.MS
attribute [local go_sem] max2_int min2_int max_two min_two max_three min_three max_four min_four
set_option linter.unusedVariables false
set_option linter.unusedSimpArgs false

def nearB (a b : Int) : Bool := decide (IntKind.u64.wrap (IntKind.u64.wrap (max a b) - IntKind.u64.wrap (min a b)) ≤ 5)
set_option maxRecDepth 100000 in
theorem near.calls (a b : Int) (w : World) : Calls Try.prog 45 #[.int .i64 a, .int .i64 b] w fun e w' => e = .returned (.bool (nearB a b)) ∧ w' = w := by
  rcases Int.lt_trichotomy a b with h | h | h
  · have h1 : max a b = b := by omega
    have h2 : min a b = a := by omega
    go_enter Try.func45, Try.ntmps45
    go_wp2
    go_ret
    exact ⟨by unfold nearB; rw [h1, h2]; rfl, rfl⟩
  · subst h
    go_enter Try.func45, Try.ntmps45
    go_wp2
    go_ret
    have h3 : nearB a a = true := by unfold nearB; rw [Int.max_self, Int.min_self, Int.sub_self]; decide
    exact ⟨by rw [h3]; rfl, rfl⟩
  · have h1 : max a b = a := by omega
    have h2 : min a b = b := by omega
    go_enter Try.func45, Try.ntmps45
    go_wp2
    go_ret
    exact ⟨by unfold nearB; rw [h1, h2]; rfl, rfl⟩
set_option maxRecDepth 100000 in
theorem match1_fits (xb : Nat) (x2 : Int) (w : World) (h2 : w.cell? ⟨xb, 2, none⟩ = some (.int .i64 x2)) : Fits 42 (.pointer (some ⟨xb, 0, none⟩)) (fun y => y.f2 == x2) w := by
  intro y W hb
  have k2 := (hb.cell (World.block_lt_of_cell? w _ h2)).trans h2
  have n2 := (((Below.refl W.heap.size W).alloc (Nat.le_refl _) (.cells #[.string y.f0, .int .i64 y.f1, .int .i64 y.f2] 40)).cell (World.block_lt_of_cell? W _ k2)).trans k2
  have hu40 := Try.underlying40
  have HB := Aside0.mk hb
  clear hb h2
  go_enter Try.func42, Try.ntmps42
  go_wp2
  go_ret
  exact ⟨rfl, (Below.refl _ _).alloc (Nat.le_refl _) _⟩
set_option maxRecDepth 100000 in
theorem match2_fits (xb : Nat) (x1 : Int) (w : World) (h2 : w.cell? ⟨xb, 1, none⟩ = some (.int .i64 x1)) : Fits 43 (.pointer (some ⟨xb, 0, none⟩)) (fun y => y.f1 == x1) w := by
  intro y W hb
  have k2 := (hb.cell (World.block_lt_of_cell? w _ h2)).trans h2
  have n2 := (((Below.refl W.heap.size W).alloc (Nat.le_refl _) (.cells #[.string y.f0, .int .i64 y.f1, .int .i64 y.f2] 40)).cell (World.block_lt_of_cell? W _ k2)).trans k2
  have hu40 := Try.underlying40
  have HB := Aside0.mk hb
  clear hb h2
  go_enter Try.func43, Try.ntmps43
  go_wp2
  go_ret
  exact ⟨rfl, (Below.refl _ _).alloc (Nat.le_refl _) _⟩
set_option maxRecDepth 100000 in
theorem match3_fits (xb : Nat) (x1 : Int) (w : World) (h2 : w.cell? ⟨xb, 1, none⟩ = some (.int .i64 x1)) : Fits 44 (.pointer (some ⟨xb, 0, none⟩)) (fun y => nearB x1 y.f1) w := by
  intro y W hb
  have k2 := (hb.cell (World.block_lt_of_cell? w _ h2)).trans h2
  have n2 := (((Below.refl W.heap.size W).alloc (Nat.le_refl _) (.cells #[.string y.f0, .int .i64 y.f1, .int .i64 y.f2] 40)).cell (World.block_lt_of_cell? W _ k2)).trans k2
  have hu40 := Try.underlying40
  have HB := Aside0.mk hb
  clear hb h2
  go_enter Try.func44, Try.ntmps44
  go_wp2_with (first | (go_at_call 45; refine (near.calls _ _ _).mono ?_; rintro e w' ⟨rfl, rfl⟩))
  go_ret
  exact ⟨rfl, (Below.refl _ _).alloc (Nat.le_refl _) _⟩
end Go.Proofs.Ytdieblejeeojhaa.PA
