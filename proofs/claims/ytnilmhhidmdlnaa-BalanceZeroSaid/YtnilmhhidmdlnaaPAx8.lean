/- Contracts of the Go functions and their plain Lean functions, written by a program of this session out of the translation. -/
import Derived.Test.YtnilmhhidmdlnaaSample
import Derived.Test.YtnilmhhidmdlnaaMoves
import Derived.Test.YtnilmhhidmdlnaaTrial
import Derived.Test.YtnilmhhidmdlnaaPAx0
import Derived.Test.YtnilmhhidmdlnaaPAx1
import Derived.Test.YtnilmhhidmdlnaaPAx2
namespace Go.Proofs.Ytnilmhhidmdlnaa.PA
open Go.RowKit Go.Proofs.YtnilmhhidmdlnaaW.PrintWords Go.Proofs.YtnilmhhidmdlnaaW.PrintLast Go.Proofs.YtnilmhhidmdlnaaW.PrintMore
attribute [local go_sem] max2_int min2_int max_two min_two max_three min_three max_four min_four   -- for this text's walks alone
set_option linter.unusedVariables false
set_option linter.unusedSimpArgs false

attribute [local go_sem high] eqA39
-- NOT PRINTED: function 61 (slices_partitionOrdered_int)

-- NOT PRINTED: function 41 (slices_pdqsortOrdered_int)

-- NOT PRINTED: function 33 (slices_Sort_int_int)

-- NOT PRINTED: function 34 (slices_Compact_int_int)

/-! ### balance_Moves: function 20 -/


/-! ### corebankref21_SameLegs: function 22 -/
def corebankref21_SameLegs.l0 : Nat → List (S39) → List (S39) → Int → Option (Bool)
  | 0, _, _, _ => none
  | k + 1, x0, x1, x5 => if x5 < (x0.length : Int) then (if 0 ≤ x5 then (if x5 < (x1.length : Int) then (if (!(((rd_T39 x0 x5).f0) == ((rd_T39 x1 x5).f0)) || (!(((rd_T39 x0 x5).f1) == ((rd_T39 x1 x5).f1)) || (!((((rd_T39 x0 x5).f2).toList) == (((rd_T39 x1 x5).f2).toList))))) = true then (some false) else (corebankref21_SameLegs.l0 k x0 x1 (wrap64 (x5 + 1)))) else (none)) else (none)) else (some true)
def corebankref21_SameLegs.f (k : Nat) (l0 : List (S39)) (l1 : List (S39)) : Option (Bool) := if (l0.length : Int) = (l1.length : Int) then (corebankref21_SameLegs.l0 k l0 l1 0) else (some false)
theorem corebankref21_SameLegs.mono_l : ∀ k, (∀ y0 y1 y2, LeO (corebankref21_SameLegs.l0 k y0 y1 y2) (corebankref21_SameLegs.l0 (k + 1) y0 y1 y2))
  | 0 => fun _ _ _ r h => by simp [corebankref21_SameLegs.l0] at h
  | k + 1 => by
    have ih0 := corebankref21_SameLegs.mono_l k
    · intro y0 y1 y2
      unfold corebankref21_SameLegs.l0
      repeat' first
      | (with_reducible exact ih0 _ _ _)
      | (with_reducible exact LeO.refl _)
      | (with_reducible exact LeO.none _)
      | (with_reducible refine LeO.ite ?_ ?_)
      | (with_reducible refine LeO.bind ?_ (fun _ => ?_))
      | exact ih0 _ _ _
      | exact LeO.none _
      | refine LeO.ite ?_ ?_
      | refine LeO.bind ?_ (fun _ => ?_)
theorem corebankref21_SameLegs.mono : ∀ a0 a1 k, LeO (corebankref21_SameLegs.f k a0 a1) (corebankref21_SameLegs.f (k + 1) a0 a1) := by
  intro a0 a1 k
  have ih0 := corebankref21_SameLegs.mono_l k
  unfold corebankref21_SameLegs.f
  repeat' first
      | (with_reducible exact ih0 _ _ _)
      | (with_reducible exact LeO.refl _)
      | (with_reducible exact LeO.none _)
      | (with_reducible refine LeO.ite ?_ ?_)
      | (with_reducible refine LeO.bind ?_ (fun _ => ?_))
      | exact ih0 _ _ _
      | exact LeO.none _
      | refine LeO.ite ?_ ?_
      | refine LeO.bind ?_ (fun _ => ?_)
set_option maxHeartbeats 8000000 in
set_option maxRecDepth 100000 in
theorem corebankref21_SameLegs.calls (k : Nat) (A0 : Option Addr) (c0 : Nat) (l0 : List (S39)) (A1 : Option Addr) (c1 : Nat) (l1 : List (S39)) (r : Bool) (w : World) (hr0 : Kd.C k39 w A0 l0.length l0) (hc0 : l0.length ≤ c0) (hr1 : Kd.C k39 w A1 l1.length l1) (hc1 : l1.length ≤ c1) (h : corebankref21_SameLegs.f k l0 l1 = some r) :
    Calls Try.prog 22 #[.slice A0 l0.length c0, .slice A1 l1.length c1] w fun e w' => e = .returned (.bool r) ∧ Drawn0 w w' := by
  have hu39 := Try.underlying39
  have HR0 := Aside0.mk hr0
  have HC0 := Aside0.mk hc0
  clear hr0 hc0
  have HR1 := Aside0.mk hr1
  have HC1 := Aside0.mk hc1
  clear hr1 hc1
  have H : (if (l0.length : Int) = (l1.length : Int) then (corebankref21_SameLegs.l0 k l0 l1 0) else (some false)) = some r := h
  clear h
  by_cases c3 : (l0.length : Int) = (l1.length : Int)
  · rw [if_pos c3] at H
    have c3b0 : ((l0.length : Int) == (l1.length : Int)) = true := beq_iff_eq.mpr c3
    have c3b1 : ((l0.length : Int) != (l1.length : Int)) = false := bne_eq_false_iff_eq.mpr c3
    have c3b2 : (l0.length == l1.length) = true := by first | simpa using c3 | (simp at c3 ⊢; omega)
    clear c3
    have H' := Aside0.mk H
    clear H
    go_enter Try.func22, Try.ntmps22
    go_wp2
    repeat (go_quiet (fail); try go_wp2)
    go_loopg [5] k (fun kq v5 w' => ∃ (x5_1 : Int), v5 = .int .i64 x5_1 ∧ Aside0 (corebankref21_SameLegs.l0 kq l0 l1 x5_1 = some r) ∧ Aside0 (kq ≤ k) ∧ Drawn0 w w')
    case atStart => exact ⟨(0), (by first | rfl | (simp; done) | (simp [*]; done)), H', ⟨Nat.le_refl _⟩, by repeat (first | exact Drawn0.refl _ | apply Drawn0.step)⟩
    case round =>
      clear H'
      try clear c1
      try clear c2
      try clear p2
      try clear c3
      try clear c3b0
      try clear c3b1
      try clear c3b2
      obtain ⟨x5_1, rfl, HA, HK1, ⟨m1, rfl⟩⟩ := hrel
      cases gk with
      | zero => exact absurd HA.out (by simp [corebankref21_SameLegs.l0])
      | succ k1 =>
        have H := HA.out
        clear HA
        simp only [corebankref21_SameLegs.l0] at H
        by_cases c4 : x5_1 < (l0.length : Int)
        · rw [if_pos c4] at H
          have c4b0 : decide (x5_1 < (l0.length : Int)) = true := decide_eq_true c4
          clear c4
          by_cases c5 : 0 ≤ x5_1
          · rw [if_pos c5] at H
            have c5b0 : decide (0 ≤ x5_1) = true := decide_eq_true c5
            clear c5
            by_cases c6 : x5_1 < (l1.length : Int)
            · rw [if_pos c6] at H
              have c6b0 : decide (x5_1 < (l1.length : Int)) = true := decide_eq_true c6
              clear c6
              by_cases c7 : (!(((rd_T39 l0 x5_1).f0) == ((rd_T39 l1 x5_1).f0)) || (!(((rd_T39 l0 x5_1).f1) == ((rd_T39 l1 x5_1).f1)) || (!((((rd_T39 l0 x5_1).f2).toList) == (((rd_T39 l1 x5_1).f2).toList))))) = true
              · rw [if_pos c7] at H
                have c7b0 : (!(((rd_T39 l0 x5_1).f0) == ((rd_T39 l1 x5_1).f0)) || (!(((rd_T39 l0 x5_1).f1) == ((rd_T39 l1 x5_1).f1)) || (!((((rd_T39 l0 x5_1).f2).toList) == (((rd_T39 l1 x5_1).f2).toList))))) = true := c7
                clear c7
                obtain rfl := Option.some.inj H
                have p238 : 0 ≤ (x5_1 : Int) := of_decide_eq_true (by first | (with_reducible assumption) | assumption)
                have q238 : x5_1 < (l0.length : Int) := of_decide_eq_true (by first | (with_reducible assumption) | assumption)
                obtain ⟨ad238, e238, hx238_0, hx238_1, hx238_2⟩ := at_T39 HR0.out x5_1 p238 q238
                cases e238
                replace p238 := eq_true p238
                replace q238 := eq_true q238
                have p239 : 0 ≤ (x5_1 : Int) := of_decide_eq_true (by first | (with_reducible assumption) | assumption)
                have q239 : x5_1 < (l1.length : Int) := of_decide_eq_true (by first | (with_reducible assumption) | assumption)
                obtain ⟨ad239, e239, hx239_0, hx239_1, hx239_2⟩ := at_T39 HR1.out x5_1 p239 q239
                cases e239
                replace p239 := eq_true p239
                replace q239 := eq_true q239
                go_wp2
                repeat (go_quiet (fail); try go_wp2)
                go_ret
                exact ⟨by first | rfl | (simp; done) | (simp [*]; done), by repeat (first | exact Drawn0.refl _ | apply Drawn0.step)⟩
              · rw [if_neg c7] at H
                have c7b0 : (!(((rd_T39 l0 x5_1).f0) == ((rd_T39 l1 x5_1).f0)) || (!(((rd_T39 l0 x5_1).f1) == ((rd_T39 l1 x5_1).f1)) || (!((((rd_T39 l0 x5_1).f2).toList) == (((rd_T39 l1 x5_1).f2).toList))))) = false := by simpa using c7
                clear c7
                have H' := Aside0.mk H
                clear H
                have p238 : 0 ≤ (x5_1 : Int) := of_decide_eq_true (by first | (with_reducible assumption) | assumption)
                have q238 : x5_1 < (l0.length : Int) := of_decide_eq_true (by first | (with_reducible assumption) | assumption)
                obtain ⟨ad238, e238, hx238_0, hx238_1, hx238_2⟩ := at_T39 HR0.out x5_1 p238 q238
                cases e238
                replace p238 := eq_true p238
                replace q238 := eq_true q238
                have p239 : 0 ≤ (x5_1 : Int) := of_decide_eq_true (by first | (with_reducible assumption) | assumption)
                have q239 : x5_1 < (l1.length : Int) := of_decide_eq_true (by first | (with_reducible assumption) | assumption)
                obtain ⟨ad239, e239, hx239_0, hx239_1, hx239_2⟩ := at_T39 HR1.out x5_1 p239 q239
                cases e239
                replace p239 := eq_true p239
                replace q239 := eq_true q239
                go_wp2
                repeat (go_quiet (fail); try go_wp2)
                go_roundg k1
                case measure => have := HK1.out; omega
                case rel => exact ⟨(wrap64 (x5_1 + 1)), (by first | rfl | (simp; done) | (simp [*]; done)), H', ⟨by have := HK1.out; omega⟩, by repeat (first | exact Drawn0.refl _ | apply Drawn0.step)⟩
            · rw [if_neg c6] at H
              exact absurd H (by simp)
          · rw [if_neg c5] at H
            exact absurd H (by simp)
        · rw [if_neg c4] at H
          have c4b0 : decide (x5_1 < (l0.length : Int)) = false := decide_eq_false c4
          clear c4
          obtain rfl := Option.some.inj H
          go_wp2
          repeat (go_quiet (fail); try go_wp2)
          go_ret
          exact ⟨by first | rfl | (simp; done) | (simp [*]; done), by repeat (first | exact Drawn0.refl _ | apply Drawn0.step)⟩
  · rw [if_neg c3] at H
    have c3b0 : ((l0.length : Int) == (l1.length : Int)) = false := beq_eq_false_iff_ne.mpr c3
    have c3b1 : ((l0.length : Int) != (l1.length : Int)) = true := bne_iff_ne.mpr c3
    have c3b2 : (l0.length == l1.length) = false := by first | simpa using c3 | (simp at c3 ⊢; omega)
    obtain rfl := Option.some.inj H
    go_enter Try.func22, Try.ntmps22
    go_wp2
    repeat (go_quiet (fail); try go_wp2)
    go_ret
    exact ⟨by first | rfl | (simp; done) | (simp [*]; done), by repeat (first | exact Drawn0.refl _ | apply Drawn0.step)⟩

/-! ### corebanklaw21_sample: function 24 -/


/-! ### corebanklaw21_lives: function 9 -/
def corebanklaw21_lives.f (k : Nat)  : Option (Bool) := (corebanklaw21_sample.f).bind fun t240 => ((balance_Turnover.f t240 1000 5 6).bind fun bt243 => ((balance_Of.f t240 1000).bind fun t245 => (if t245 = 50 then ((balance_At.f t240 1000 5 9).bind fun t246 => (if t246 = 70 then ((balance_Daily.f t240 1000 2 7).bind fun t247 => ((corebankref21_SameInts.f k t247 (([0, 70, 70, 70, 70, 50] : List Int))).bind fun t253 => (if t253 = true then (if bt243.1 = 20 then (if bt243.2 = 70 then ((balance_Trial.f t240).bind fun t254 => ((corebankref21_SameLegs.f k t254 (([(⟨101, 50, (⟨#[69, 85, 82]⟩ : ByteArray)⟩ : S39), (⟨1000, (-50), (⟨#[69, 85, 82]⟩ : ByteArray)⟩ : S39)] : List (S39)))).bind fun t260 => (if t260 = true then ((balance_Moves.f t240 1000).bind fun t261 => ((corebankref21_SameInts.f k t261 (([3, 7] : List Int))).bind fun t267 => (some t267))) else (none)))) else (none)) else (none)) else (none)))) else (none))) else (none))))
theorem corebanklaw21_lives.mono : ∀ k, LeO (corebanklaw21_lives.f k ) (corebanklaw21_lives.f (k + 1) ) := by
  intro  k
  unfold corebanklaw21_lives.f
  repeat' first
      | (with_reducible exact corebankref21_SameInts.mono _ _ _)
      | (with_reducible exact corebankref21_SameLegs.mono _ _ _)
      | (with_reducible exact LeO.refl _)
      | (with_reducible exact LeO.none _)
      | (with_reducible refine LeO.ite ?_ ?_)
      | (with_reducible refine LeO.bind ?_ (fun _ => ?_))
      | exact corebankref21_SameInts.mono _ _ _
      | exact corebankref21_SameLegs.mono _ _ _
      | exact LeO.none _
      | refine LeO.ite ?_ ?_
      | refine LeO.bind ?_ (fun _ => ?_)
set_option maxHeartbeats 8000000 in
set_option maxRecDepth 100000 in
theorem corebanklaw21_lives.calls (k : Nat)  (r : Bool) (w : World) (h : corebanklaw21_lives.f k  = some r) :
    Calls Try.prog 9 #[] w fun e w' => e = .returned (.bool r) ∧ Below w.heap.size w w' := by
  have hu39 := Try.underlying39
  have HB := Aside0.mk (Below.refl w.heap.size w)
  have H : ((corebanklaw21_sample.f).bind fun t240 => ((balance_Turnover.f t240 1000 5 6).bind fun bt243 => ((balance_Of.f t240 1000).bind fun t245 => (if t245 = 50 then ((balance_At.f t240 1000 5 9).bind fun t246 => (if t246 = 70 then ((balance_Daily.f t240 1000 2 7).bind fun t247 => ((corebankref21_SameInts.f k t247 (([0, 70, 70, 70, 70, 50] : List Int))).bind fun t253 => (if t253 = true then (if bt243.1 = 20 then (if bt243.2 = 70 then ((balance_Trial.f t240).bind fun t254 => ((corebankref21_SameLegs.f k t254 (([(⟨101, 50, (⟨#[69, 85, 82]⟩ : ByteArray)⟩ : S39), (⟨1000, (-50), (⟨#[69, 85, 82]⟩ : ByteArray)⟩ : S39)] : List (S39)))).bind fun t260 => (if t260 = true then ((balance_Moves.f t240 1000).bind fun t261 => ((corebankref21_SameInts.f k t261 (([3, 7] : List Int))).bind fun t267 => (some t267))) else (none)))) else (none)) else (none)) else (none)))) else (none))) else (none))))) = some r := h
  clear h
  replace H := Option.bind_eq_some_iff.mp H
  obtain ⟨t240, A10, H⟩ := H
  replace H : ((balance_Turnover.f t240 1000 5 6).bind fun bt243 => ((balance_Of.f t240 1000).bind fun t245 => (if t245 = 50 then ((balance_At.f t240 1000 5 9).bind fun t246 => (if t246 = 70 then ((balance_Daily.f t240 1000 2 7).bind fun t247 => ((corebankref21_SameInts.f k t247 (([0, 70, 70, 70, 70, 50] : List Int))).bind fun t253 => (if t253 = true then (if bt243.1 = 20 then (if bt243.2 = 70 then ((balance_Trial.f t240).bind fun t254 => ((corebankref21_SameLegs.f k t254 (([(⟨101, 50, (⟨#[69, 85, 82]⟩ : ByteArray)⟩ : S39), (⟨1000, (-50), (⟨#[69, 85, 82]⟩ : ByteArray)⟩ : S39)] : List (S39)))).bind fun t260 => (if t260 = true then ((balance_Moves.f t240 1000).bind fun t261 => ((corebankref21_SameInts.f k t261 (([3, 7] : List Int))).bind fun t267 => (some t267))) else (none)))) else (none)) else (none)) else (none)))) else (none))) else (none)))) = some r := H
  have A1 := Aside0.mk A10
  clear A10
  replace H := Option.bind_eq_some_iff.mp H
  obtain ⟨⟨t243, t244⟩, A20, H⟩ := H
  replace H : ((balance_Of.f t240 1000).bind fun t245 => (if t245 = 50 then ((balance_At.f t240 1000 5 9).bind fun t246 => (if t246 = 70 then ((balance_Daily.f t240 1000 2 7).bind fun t247 => ((corebankref21_SameInts.f k t247 (([0, 70, 70, 70, 70, 50] : List Int))).bind fun t253 => (if t253 = true then (if t243 = 20 then (if t244 = 70 then ((balance_Trial.f t240).bind fun t254 => ((corebankref21_SameLegs.f k t254 (([(⟨101, 50, (⟨#[69, 85, 82]⟩ : ByteArray)⟩ : S39), (⟨1000, (-50), (⟨#[69, 85, 82]⟩ : ByteArray)⟩ : S39)] : List (S39)))).bind fun t260 => (if t260 = true then ((balance_Moves.f t240 1000).bind fun t261 => ((corebankref21_SameInts.f k t261 (([3, 7] : List Int))).bind fun t267 => (some t267))) else (none)))) else (none)) else (none)) else (none)))) else (none))) else (none))) = some r := H
  have A2 := Aside0.mk A20
  clear A20
  replace H := Option.bind_eq_some_iff.mp H
  obtain ⟨t245, A30, H⟩ := H
  replace H : (if t245 = 50 then ((balance_At.f t240 1000 5 9).bind fun t246 => (if t246 = 70 then ((balance_Daily.f t240 1000 2 7).bind fun t247 => ((corebankref21_SameInts.f k t247 (([0, 70, 70, 70, 70, 50] : List Int))).bind fun t253 => (if t253 = true then (if t243 = 20 then (if t244 = 70 then ((balance_Trial.f t240).bind fun t254 => ((corebankref21_SameLegs.f k t254 (([(⟨101, 50, (⟨#[69, 85, 82]⟩ : ByteArray)⟩ : S39), (⟨1000, (-50), (⟨#[69, 85, 82]⟩ : ByteArray)⟩ : S39)] : List (S39)))).bind fun t260 => (if t260 = true then ((balance_Moves.f t240 1000).bind fun t261 => ((corebankref21_SameInts.f k t261 (([3, 7] : List Int))).bind fun t267 => (some t267))) else (none)))) else (none)) else (none)) else (none)))) else (none))) else (none)) = some r := H
  have A3 := Aside0.mk A30
  clear A30
  by_cases c4 : t245 = 50
  · rw [if_pos c4] at H
    have c4b0 : (t245 == 50) = true := beq_iff_eq.mpr c4
    have c4b1 : (t245 != 50) = false := bne_eq_false_iff_eq.mpr c4
    clear c4
    replace H := Option.bind_eq_some_iff.mp H
    obtain ⟨t246, A50, H⟩ := H
    replace H : (if t246 = 70 then ((balance_Daily.f t240 1000 2 7).bind fun t247 => ((corebankref21_SameInts.f k t247 (([0, 70, 70, 70, 70, 50] : List Int))).bind fun t253 => (if t253 = true then (if t243 = 20 then (if t244 = 70 then ((balance_Trial.f t240).bind fun t254 => ((corebankref21_SameLegs.f k t254 (([(⟨101, 50, (⟨#[69, 85, 82]⟩ : ByteArray)⟩ : S39), (⟨1000, (-50), (⟨#[69, 85, 82]⟩ : ByteArray)⟩ : S39)] : List (S39)))).bind fun t260 => (if t260 = true then ((balance_Moves.f t240 1000).bind fun t261 => ((corebankref21_SameInts.f k t261 (([3, 7] : List Int))).bind fun t267 => (some t267))) else (none)))) else (none)) else (none)) else (none)))) else (none)) = some r := H
    have A5 := Aside0.mk A50
    clear A50
    by_cases c6 : t246 = 70
    · rw [if_pos c6] at H
      have c6b0 : (t246 == 70) = true := beq_iff_eq.mpr c6
      have c6b1 : (t246 != 70) = false := bne_eq_false_iff_eq.mpr c6
      clear c6
      replace H := Option.bind_eq_some_iff.mp H
      obtain ⟨t247, A70, H⟩ := H
      replace H : ((corebankref21_SameInts.f k t247 (([0, 70, 70, 70, 70, 50] : List Int))).bind fun t253 => (if t253 = true then (if t243 = 20 then (if t244 = 70 then ((balance_Trial.f t240).bind fun t254 => ((corebankref21_SameLegs.f k t254 (([(⟨101, 50, (⟨#[69, 85, 82]⟩ : ByteArray)⟩ : S39), (⟨1000, (-50), (⟨#[69, 85, 82]⟩ : ByteArray)⟩ : S39)] : List (S39)))).bind fun t260 => (if t260 = true then ((balance_Moves.f t240 1000).bind fun t261 => ((corebankref21_SameInts.f k t261 (([3, 7] : List Int))).bind fun t267 => (some t267))) else (none)))) else (none)) else (none)) else (none))) = some r := H
      have A7 := Aside0.mk A70
      clear A70
      obtain ⟨y250, hy250⟩ : ∃ y_ : List Int, y_ = (([0, 70, 70, 70, 70, 50] : List Int)) := ⟨_, rfl⟩
      replace H : ((corebankref21_SameInts.f k t247 y250).bind fun t253 => (if t253 = true then (if t243 = 20 then (if t244 = 70 then ((balance_Trial.f t240).bind fun t254 => ((corebankref21_SameLegs.f k t254 (([(⟨101, 50, (⟨#[69, 85, 82]⟩ : ByteArray)⟩ : S39), (⟨1000, (-50), (⟨#[69, 85, 82]⟩ : ByteArray)⟩ : S39)] : List (S39)))).bind fun t260 => (if t260 = true then ((balance_Moves.f t240 1000).bind fun t261 => ((corebankref21_SameInts.f k t261 (([3, 7] : List Int))).bind fun t267 => (some t267))) else (none)))) else (none)) else (none)) else (none))) = some r := by first | (rw [hy250]; with_reducible exact H) | (have H2_ := (Option.bind_some _ _).symm.trans H; rw [hy250]; with_reducible exact H2_) | (have H2_ := (Option.bind_some _ _).symm.trans H; with_reducible exact H2_) | with_reducible exact H | (rw [hy250]; exact H) | exact H
      have Ny250 := Aside0.mk hy250
      clear hy250
      replace H := Option.bind_eq_some_iff.mp H
      obtain ⟨t253, A80, H⟩ := H
      replace H : (if t253 = true then (if t243 = 20 then (if t244 = 70 then ((balance_Trial.f t240).bind fun t254 => ((corebankref21_SameLegs.f k t254 (([(⟨101, 50, (⟨#[69, 85, 82]⟩ : ByteArray)⟩ : S39), (⟨1000, (-50), (⟨#[69, 85, 82]⟩ : ByteArray)⟩ : S39)] : List (S39)))).bind fun t260 => (if t260 = true then ((balance_Moves.f t240 1000).bind fun t261 => ((corebankref21_SameInts.f k t261 (([3, 7] : List Int))).bind fun t267 => (some t267))) else (none)))) else (none)) else (none)) else (none)) = some r := H
      have A8 := Aside0.mk A80
      clear A80
      by_cases c9 : t253 = true
      · subst c9
        have H1 : (if t243 = 20 then (if t244 = 70 then ((balance_Trial.f t240).bind fun t254 => ((corebankref21_SameLegs.f k t254 (([(⟨101, 50, (⟨#[69, 85, 82]⟩ : ByteArray)⟩ : S39), (⟨1000, (-50), (⟨#[69, 85, 82]⟩ : ByteArray)⟩ : S39)] : List (S39)))).bind fun t260 => (if t260 = true then ((balance_Moves.f t240 1000).bind fun t261 => ((corebankref21_SameInts.f k t261 (([3, 7] : List Int))).bind fun t267 => (some t267))) else (none)))) else (none)) else (none)) = some r := by rw [if_pos rfl] at H; exact H
        clear H
        have H := H1
        clear H1
        by_cases c10 : t243 = 20
        · rw [if_pos c10] at H
          have c10b0 : (t243 == 20) = true := beq_iff_eq.mpr c10
          have c10b1 : (t243 != 20) = false := bne_eq_false_iff_eq.mpr c10
          clear c10
          by_cases c11 : t244 = 70
          · rw [if_pos c11] at H
            have c11b0 : (t244 == 70) = true := beq_iff_eq.mpr c11
            have c11b1 : (t244 != 70) = false := bne_eq_false_iff_eq.mpr c11
            clear c11
            replace H := Option.bind_eq_some_iff.mp H
            obtain ⟨t254, A120, H⟩ := H
            replace H : ((corebankref21_SameLegs.f k t254 (([(⟨101, 50, (⟨#[69, 85, 82]⟩ : ByteArray)⟩ : S39), (⟨1000, (-50), (⟨#[69, 85, 82]⟩ : ByteArray)⟩ : S39)] : List (S39)))).bind fun t260 => (if t260 = true then ((balance_Moves.f t240 1000).bind fun t261 => ((corebankref21_SameInts.f k t261 (([3, 7] : List Int))).bind fun t267 => (some t267))) else (none))) = some r := H
            have A12 := Aside0.mk A120
            clear A120
            obtain ⟨y257, hy257⟩ : ∃ y_ : List (S39), y_ = (([(⟨101, 50, (⟨#[69, 85, 82]⟩ : ByteArray)⟩ : S39), (⟨1000, (-50), (⟨#[69, 85, 82]⟩ : ByteArray)⟩ : S39)] : List (S39))) := ⟨_, rfl⟩
            replace H : ((corebankref21_SameLegs.f k t254 y257).bind fun t260 => (if t260 = true then ((balance_Moves.f t240 1000).bind fun t261 => ((corebankref21_SameInts.f k t261 (([3, 7] : List Int))).bind fun t267 => (some t267))) else (none))) = some r := by first | (rw [hy257]; with_reducible exact H) | (have H2_ := (Option.bind_some _ _).symm.trans H; rw [hy257]; with_reducible exact H2_) | (have H2_ := (Option.bind_some _ _).symm.trans H; with_reducible exact H2_) | with_reducible exact H | (rw [hy257]; exact H) | exact H
            have Ny257 := Aside0.mk hy257
            clear hy257
            replace H := Option.bind_eq_some_iff.mp H
            obtain ⟨t260, A130, H⟩ := H
            replace H : (if t260 = true then ((balance_Moves.f t240 1000).bind fun t261 => ((corebankref21_SameInts.f k t261 (([3, 7] : List Int))).bind fun t267 => (some t267))) else (none)) = some r := H
            have A13 := Aside0.mk A130
            clear A130
            by_cases c14 : t260 = true
            · subst c14
              have H1 : ((balance_Moves.f t240 1000).bind fun t261 => ((corebankref21_SameInts.f k t261 (([3, 7] : List Int))).bind fun t267 => (some t267))) = some r := by rw [if_pos rfl] at H; exact H
              clear H
              have H := H1
              clear H1
              replace H := Option.bind_eq_some_iff.mp H
              obtain ⟨t261, A150, H⟩ := H
              replace H : ((corebankref21_SameInts.f k t261 (([3, 7] : List Int))).bind fun t267 => (some t267)) = some r := H
              have A15 := Aside0.mk A150
              clear A150
              obtain ⟨y264, hy264⟩ : ∃ y_ : List Int, y_ = (([3, 7] : List Int)) := ⟨_, rfl⟩
              replace H : ((corebankref21_SameInts.f k t261 y264).bind fun t267 => (some t267)) = some r := by first | (rw [hy264]; with_reducible exact H) | (have H2_ := (Option.bind_some _ _).symm.trans H; rw [hy264]; with_reducible exact H2_) | (have H2_ := (Option.bind_some _ _).symm.trans H; with_reducible exact H2_) | with_reducible exact H | (rw [hy264]; exact H) | exact H
              have Ny264 := Aside0.mk hy264
              clear hy264
              replace H := Option.bind_eq_some_iff.mp H
              obtain ⟨t267, A160, H⟩ := H
              replace H : (some t267) = some r := H
              have A16 := Aside0.mk A160
              clear A160
              obtain rfl := Option.some.inj H
              go_enter Try.func9, Try.ntmps9
              go_wp2_with (first | ((with_reducible refine gate_callee (f := 24) rfl ?_); refine goesL_ (some 4) rfl rfl Try.func24 (by kernel_rfl) rfl #[] rfl aG ?_; (with_reducible refine (corebanklaw21_sample.calls  t240 _ A1.out).mono ?_); rintro e w17 ⟨v241, rfl, ho0, hb⟩; refine ⟨_, rfl, ?_⟩; have HO242 := Aside0.mk (Kd.S_lower ho0 (below_size (bE))); replace HB := Aside0.mk (bS hb); (try clear hb); (try clear hb2); (try clear hk); (try clear hi); (try clear ho0); obtain ⟨Ao18, co18, eo18⟩ := Kd.S_slice HO242.out; subst eo18) | ((with_reducible refine gate_callee (f := 12) rfl ?_); refine goesL_ (some 7) rfl rfl Try.func12 (by kernel_rfl) rfl #[.slice Ao18 t240.length co18, .int .i64 1000, .int .i64 5, .int .i64 6] rfl aG ?_; (with_reducible refine (balance_Turnover.calls _ _ t240 1000 5 6 t243 t244 _ ?side1 ?side2 A2.out).mono ?_); (case side1 => repeat (first | exact (Kd.S_reads' HO242.out).2.2 | (with_reducible refine Kd.C_alloc ?_ _) | (with_reducible refine Kd.C_drewN ?_ _) | (with_reducible refine Kd.C_drew ?_))); (case side2 => exact (Kd.S_reads' HO242.out).2.1); rintro e w19 ⟨rfl, hb⟩; refine ⟨_, rfl, ?_⟩; have n0_ := Aside0.mk (Kd.S_below (by (with_reducible repeat (first | apply Kd.S_alloc | apply Kd.S_drewN | apply Kd.S_drew)); exact HO242.out) hb); have n1_ := Aside0.mk (bS hb); clear HO242; clear HB; have HO242 := n0_; have HB := n1_; clear n0_ n1_; (try clear hb); (try clear hb2); (try clear hk); (try clear hi)) | ((with_reducible refine gate_callee (f := 10) rfl ?_); refine goesL_ (some 11) rfl rfl Try.func10 (by kernel_rfl) rfl #[.slice Ao18 t240.length co18, .int .i64 1000] rfl aG ?_; (with_reducible refine (balance_Of.calls _ _ t240 1000 t245 _ ?side1 ?side2 A3.out).mono ?_); (case side1 => repeat (first | exact (Kd.S_reads' HO242.out).2.2 | (with_reducible refine Kd.C_alloc ?_ _) | (with_reducible refine Kd.C_drewN ?_ _) | (with_reducible refine Kd.C_drew ?_))); (case side2 => exact (Kd.S_reads' HO242.out).2.1); rintro e w20 ⟨rfl, hb⟩; refine ⟨_, rfl, ?_⟩; have n0_ := Aside0.mk (Kd.S_below (by (with_reducible repeat (first | apply Kd.S_alloc | apply Kd.S_drewN | apply Kd.S_drew)); exact HO242.out) hb); have n1_ := Aside0.mk (bS hb); clear HO242; clear HB; have HO242 := n0_; have HB := n1_; clear n0_ n1_; (try clear hb); (try clear hb2); (try clear hk); (try clear hi)) | (go_at_call 11; (with_reducible refine (balance_At.calls _ _ t240 1000 5 9 t246 _ ?side1 ?side2 A5.out).mono ?_); (case side1 => repeat (first | exact (Kd.S_reads' HO242.out).2.2 | (with_reducible refine Kd.C_alloc ?_ _) | (with_reducible refine Kd.C_drewN ?_ _) | (with_reducible refine Kd.C_drew ?_))); (case side2 => exact (Kd.S_reads' HO242.out).2.1); rintro e w21 ⟨rfl, hb⟩; have n0_ := Aside0.mk (Kd.S_below (by (with_reducible repeat (first | apply Kd.S_alloc | apply Kd.S_drewN | apply Kd.S_drew)); exact HO242.out) hb); have n1_ := Aside0.mk (bS hb); clear HO242; clear HB; have HO242 := n0_; have HB := n1_; clear n0_ n1_; (try clear hb); (try clear hb2); (try clear hk); (try clear hi)) | (go_at_call 13; (with_reducible refine (balance_Daily.calls _ _ t240 1000 2 7 t247 _ ?side1 ?side2 A7.out).mono ?_); (case side1 => repeat (first | exact (Kd.S_reads' HO242.out).2.2 | (with_reducible refine Kd.C_alloc ?_ _) | (with_reducible refine Kd.C_drewN ?_ _) | (with_reducible refine Kd.C_drew ?_))); (case side2 => exact (Kd.S_reads' HO242.out).2.1); rintro e w22 ⟨v248, rfl, ho0, hb⟩; have n0_ := Aside0.mk (Kd.S_below (by (with_reducible repeat (first | apply Kd.S_alloc | apply Kd.S_drewN | apply Kd.S_drew)); exact HO242.out) hb); have n1_ := Aside0.mk (Kd.R_lower ho0 (below_size (bE))); have n2_ := Aside0.mk (bS hb); clear HO242; clear HB; have HO242 := n0_; have HO249 := n1_; have HB := n2_; clear n0_ n1_ n2_; (try clear hb); (try clear hb2); (try clear hk); (try clear hi); (try clear ho0)) | ((with_reducible refine gate_dst (N := 21) rfl ?_); (try (refine gate_guard (by rfl) ?_; dsimp only)); refine Kd.R_lit (Kd.int .i64) _ 3 ?hg (N := 21) ?hd (xs := ([0, 70, 70, 70, 70, 50] : List Int)) (inner := [.int .i64 0, .int .i64 70, .int .i64 70, .int .i64 70, .int .i64 70, .int .i64 50]) (ok := fun _ => True) (okp := fun _ => True) ?hr ?hp (fun _ hk => hk) trivial (Below.refl _ _) (Nat.le_refl _) (by simp) ?_; (case hd => rfl); (case hg => rfl); (case hr => first | (go_simp; done) | (go_simp; rfl)); (case hp => exact (Reps.one (show Kd.M (Kd.int .i64) _ _ _ 0 [.int .i64 0] from rfl) (Reps.one (show Kd.M (Kd.int .i64) _ _ _ 70 [.int .i64 70] from rfl) (Reps.one (show Kd.M (Kd.int .i64) _ _ _ 70 [.int .i64 70] from rfl) (Reps.one (show Kd.M (Kd.int .i64) _ _ _ 70 [.int .i64 70] from rfl) (Reps.one (show Kd.M (Kd.int .i64) _ _ _ 70 [.int .i64 70] from rfl) (Reps.one (show Kd.M (Kd.int .i64) _ _ _ 50 [.int .i64 50] from rfl) (Reps.none _ _)))))))); intro v251 w23 ho24 hb hg_ hnew_; clear hg_ hnew_; (first | rw [← Ny250.out] at ho24 | (simp only [Int.reduceToNat] at ho24; rw [← Ny250.out] at ho24)); have n0_ := Aside0.mk (Kd.S_below (by (with_reducible repeat (first | apply Kd.S_alloc | apply Kd.S_drewN | apply Kd.S_drew)); exact HO242.out) hb); have n1_ := Aside0.mk (Kd.R_elder' (by (with_reducible repeat (first | apply Kd.R_alloc | apply Kd.R_drewN | apply Kd.R_drew)); exact HO249.out) (Kd.R_base ho24) hb); have n2_ := Aside0.mk (Kd.R_lower (Kd.R_new' ho24 (Kd.R_lt (by (with_reducible repeat (first | apply Kd.R_alloc | apply Kd.R_drewN | apply Kd.R_drew)); exact HO249.out))) (below_size (bE))); have n3_ := Aside0.mk (bS hb); clear HO242; clear HO249; clear HB; have HO242 := n0_; have HO249 := n1_; have HO252 := n2_; have HB := n3_; clear n0_ n1_ n2_ n3_; clear hb ho24; obtain ⟨Ao25, co25, eo25⟩ := Kd.R_slice HO249.out; subst eo25; obtain ⟨Ao26, co26, eo26⟩ := Kd.R_slice HO252.out; subst eo26) | (go_at_call 18; (with_reducible refine (corebankref21_SameInts.calls k _ _ t247 _ _ y250 true _ ?side1 ?side2 ?side3 ?side4 A8.out).mono ?_); (case side1 => repeat (first | exact (Kd.R_reads' HO249.out).2.2 | (with_reducible refine Kd.C_alloc ?_ _) | (with_reducible refine Kd.C_drewN ?_ _) | (with_reducible refine Kd.C_drew ?_))); (case side2 => exact (Kd.R_reads' HO249.out).2.1); (case side3 => repeat (first | exact (Kd.R_reads' HO252.out).2.2 | (with_reducible refine Kd.C_alloc ?_ _) | (with_reducible refine Kd.C_drewN ?_ _) | (with_reducible refine Kd.C_drew ?_))); (case side4 => exact (Kd.R_reads' HO252.out).2.1); rintro e w' ⟨rfl, ⟨nd, rfl⟩⟩) | (go_at_call 14; (with_reducible refine (balance_Trial.calls _ _ t240 t254 _ ?side1 ?side2 A12.out).mono ?_); (case side1 => repeat (first | exact (Kd.S_reads' HO242.out).2.2 | (with_reducible refine Kd.C_alloc ?_ _) | (with_reducible refine Kd.C_drewN ?_ _) | (with_reducible refine Kd.C_drew ?_))); (case side2 => exact (Kd.S_reads' HO242.out).2.1); rintro e w27 ⟨v255, rfl, ho0, hb⟩; have n0_ := Aside0.mk (Kd.S_elder' (by (with_reducible repeat (first | apply Kd.S_alloc | apply Kd.S_drewN | apply Kd.S_drew)); exact HO242.out) (Kd.R_base ho0) hb); have n1_ := Aside0.mk (Kd.R_below (by (with_reducible repeat (first | apply Kd.R_alloc | apply Kd.R_drewN | apply Kd.R_drew)); exact HO249.out) hb); have n2_ := Aside0.mk (Kd.R_below (by (with_reducible repeat (first | apply Kd.R_alloc | apply Kd.R_drewN | apply Kd.R_drew)); exact HO252.out) hb); have n3_ := Aside0.mk (Kd.R_lower ho0 (below_size (bE))); have n4_ := Aside0.mk (bS hb); clear HO242; clear HO249; clear HO252; clear HB; have HO242 := n0_; have HO249 := n1_; have HO252 := n2_; have HO256 := n3_; have HB := n4_; clear n0_ n1_ n2_ n3_ n4_; (try clear hb); (try clear hb2); (try clear hk); (try clear hi); (try clear ho0)) | ((with_reducible refine gate_dst (N := 37) rfl ?_); (try (refine gate_guard (by rfl) ?_; dsimp only)); refine Kd.R_lit k39 _ 39 ?hg (N := 37) ?hd (xs := ([(⟨101, 50, (⟨#[69, 85, 82]⟩ : ByteArray)⟩ : S39), (⟨1000, (-50), (⟨#[69, 85, 82]⟩ : ByteArray)⟩ : S39)] : List (S39))) (inner := [.int .i64 101, .int .i64 50, .string (⟨#[69, 85, 82]⟩ : ByteArray), .int .i64 1000, .int .i64 (-50), .string (⟨#[69, 85, 82]⟩ : ByteArray)]) (ok := fun _ => True) (okp := fun _ => True) ?hr ?hp (fun _ hk => hk) trivial (Below.refl _ _) (Nat.le_refl _) (by simp) ?_; (case hd => rfl); (case hg => rfl); (case hr => first | (go_simp; done) | (go_simp; rfl)); (case hp => exact (Reps.c3 (show Kd.M k39 _ _ _ (⟨101, 50, (⟨#[69, 85, 82]⟩ : ByteArray)⟩ : S39) [.int .i64 101, .int .i64 50, .string (⟨#[69, 85, 82]⟩ : ByteArray)] from (k39_mkM _ _ _ (⟨101, 50, (⟨#[69, 85, 82]⟩ : ByteArray)⟩ : S39) )) (Reps.c3 (show Kd.M k39 _ _ _ (⟨1000, (-50), (⟨#[69, 85, 82]⟩ : ByteArray)⟩ : S39) [.int .i64 1000, .int .i64 (-50), .string (⟨#[69, 85, 82]⟩ : ByteArray)] from (k39_mkM _ _ _ (⟨1000, (-50), (⟨#[69, 85, 82]⟩ : ByteArray)⟩ : S39) )) (Reps.none _ _)))); intro v258 w28 ho29 hb hg_ hnew_; clear hg_ hnew_; (first | rw [← Ny257.out] at ho29 | (simp only [Int.reduceToNat] at ho29; rw [← Ny257.out] at ho29)); have n0_ := Aside0.mk (Kd.S_elder' (by (with_reducible repeat (first | apply Kd.S_alloc | apply Kd.S_drewN | apply Kd.S_drew)); exact HO242.out) (Kd.R_base ho29) hb); have n1_ := Aside0.mk (Kd.R_below (by (with_reducible repeat (first | apply Kd.R_alloc | apply Kd.R_drewN | apply Kd.R_drew)); exact HO249.out) hb); have n2_ := Aside0.mk (Kd.R_below (by (with_reducible repeat (first | apply Kd.R_alloc | apply Kd.R_drewN | apply Kd.R_drew)); exact HO252.out) hb); have n3_ := Aside0.mk (Kd.R_elder' (by (with_reducible repeat (first | apply Kd.R_alloc | apply Kd.R_drewN | apply Kd.R_drew)); exact HO256.out) (Kd.R_base ho29) hb); have n4_ := Aside0.mk (Kd.R_lower (Kd.R_new' ho29 (Kd.R_lt (by (with_reducible repeat (first | apply Kd.R_alloc | apply Kd.R_drewN | apply Kd.R_drew)); exact HO256.out))) (below_size (bE))); have n5_ := Aside0.mk (bS hb); clear HO242; clear HO249; clear HO252; clear HO256; clear HB; have HO242 := n0_; have HO249 := n1_; have HO252 := n2_; have HO256 := n3_; have HO259 := n4_; have HB := n5_; clear n0_ n1_ n2_ n3_ n4_ n5_; clear hb ho29; obtain ⟨Ao30, co30, eo30⟩ := Kd.R_slice HO256.out; subst eo30; obtain ⟨Ao31, co31, eo31⟩ := Kd.R_slice HO259.out; subst eo31) | (go_at_call 22; (with_reducible refine (corebankref21_SameLegs.calls k _ _ t254 _ _ y257 true _ ?side1 ?side2 ?side3 ?side4 A13.out).mono ?_); (case side1 => repeat (first | exact (Kd.R_reads' HO256.out).2.2 | (with_reducible refine Kd.C_alloc ?_ _) | (with_reducible refine Kd.C_drewN ?_ _) | (with_reducible refine Kd.C_drew ?_))); (case side2 => exact (Kd.R_reads' HO256.out).2.1); (case side3 => repeat (first | exact (Kd.R_reads' HO259.out).2.2 | (with_reducible refine Kd.C_alloc ?_ _) | (with_reducible refine Kd.C_drewN ?_ _) | (with_reducible refine Kd.C_drew ?_))); (case side4 => exact (Kd.R_reads' HO259.out).2.1); rintro e w' ⟨rfl, ⟨nd, rfl⟩⟩) | (go_at_call 20; (with_reducible refine (balance_Moves.calls _ _ t240 1000 t261 _ ?side1 ?side2 A15.out).mono ?_); (case side1 => repeat (first | exact (Kd.S_reads' HO242.out).2.2 | (with_reducible refine Kd.C_alloc ?_ _) | (with_reducible refine Kd.C_drewN ?_ _) | (with_reducible refine Kd.C_drew ?_))); (case side2 => exact (Kd.S_reads' HO242.out).2.1); rintro e w32 ⟨v262, rfl, ho0, hb⟩; have n0_ := Aside0.mk (Kd.S_below (by (with_reducible repeat (first | apply Kd.S_alloc | apply Kd.S_drewN | apply Kd.S_drew)); exact HO242.out) hb); have n1_ := Aside0.mk (Kd.R_elder' (by (with_reducible repeat (first | apply Kd.R_alloc | apply Kd.R_drewN | apply Kd.R_drew)); exact HO249.out) (Kd.R_base ho0) hb); have n2_ := Aside0.mk (Kd.R_elder' (by (with_reducible repeat (first | apply Kd.R_alloc | apply Kd.R_drewN | apply Kd.R_drew)); exact HO252.out) (Kd.R_base ho0) hb); have n3_ := Aside0.mk (Kd.R_below (by (with_reducible repeat (first | apply Kd.R_alloc | apply Kd.R_drewN | apply Kd.R_drew)); exact HO256.out) hb); have n4_ := Aside0.mk (Kd.R_below (by (with_reducible repeat (first | apply Kd.R_alloc | apply Kd.R_drewN | apply Kd.R_drew)); exact HO259.out) hb); have n5_ := Aside0.mk (Kd.R_lower (Kd.R_new' (Kd.R_new' ho0 (Kd.R_lt (by (with_reducible repeat (first | apply Kd.R_alloc | apply Kd.R_drewN | apply Kd.R_drew)); exact HO249.out))) (Kd.R_lt (by (with_reducible repeat (first | apply Kd.R_alloc | apply Kd.R_drewN | apply Kd.R_drew)); exact HO252.out))) (below_size (bE))); have n6_ := Aside0.mk (bS hb); clear HO242; clear HO249; clear HO252; clear HO256; clear HO259; clear HB; have HO242 := n0_; have HO249 := n1_; have HO252 := n2_; have HO256 := n3_; have HO259 := n4_; have HO263 := n5_; have HB := n6_; clear n0_ n1_ n2_ n3_ n4_ n5_ n6_; (try clear hb); (try clear hb2); (try clear hk); (try clear hi); (try clear ho0)) | ((with_reducible refine gate_dst (N := 43) rfl ?_); (try (refine gate_guard (by rfl) ?_; dsimp only)); refine Kd.R_lit (Kd.int .i64) _ 3 ?hg (N := 43) ?hd (xs := ([3, 7] : List Int)) (inner := [.int .i64 3, .int .i64 7]) (ok := fun _ => True) (okp := fun _ => True) ?hr ?hp (fun _ hk => hk) trivial (Below.refl _ _) (Nat.le_refl _) (by simp) ?_; (case hd => rfl); (case hg => rfl); (case hr => first | (go_simp; done) | (go_simp; rfl)); (case hp => exact (Reps.one (show Kd.M (Kd.int .i64) _ _ _ 3 [.int .i64 3] from rfl) (Reps.one (show Kd.M (Kd.int .i64) _ _ _ 7 [.int .i64 7] from rfl) (Reps.none _ _)))); intro v265 w33 ho34 hb hg_ hnew_; clear hg_ hnew_; (first | rw [← Ny264.out] at ho34 | (simp only [Int.reduceToNat] at ho34; rw [← Ny264.out] at ho34)); have n0_ := Aside0.mk (Kd.S_below (by (with_reducible repeat (first | apply Kd.S_alloc | apply Kd.S_drewN | apply Kd.S_drew)); exact HO242.out) hb); have n1_ := Aside0.mk (Kd.R_elder' (by (with_reducible repeat (first | apply Kd.R_alloc | apply Kd.R_drewN | apply Kd.R_drew)); exact HO249.out) (Kd.R_base ho34) hb); have n2_ := Aside0.mk (Kd.R_elder' (by (with_reducible repeat (first | apply Kd.R_alloc | apply Kd.R_drewN | apply Kd.R_drew)); exact HO252.out) (Kd.R_base ho34) hb); have n3_ := Aside0.mk (Kd.R_below (by (with_reducible repeat (first | apply Kd.R_alloc | apply Kd.R_drewN | apply Kd.R_drew)); exact HO256.out) hb); have n4_ := Aside0.mk (Kd.R_below (by (with_reducible repeat (first | apply Kd.R_alloc | apply Kd.R_drewN | apply Kd.R_drew)); exact HO259.out) hb); have n5_ := Aside0.mk (Kd.R_elder' (by (with_reducible repeat (first | apply Kd.R_alloc | apply Kd.R_drewN | apply Kd.R_drew)); exact HO263.out) (Kd.R_base ho34) hb); have n6_ := Aside0.mk (Kd.R_lower (Kd.R_new' (Kd.R_new' (Kd.R_new' ho34 (Kd.R_lt (by (with_reducible repeat (first | apply Kd.R_alloc | apply Kd.R_drewN | apply Kd.R_drew)); exact HO249.out))) (Kd.R_lt (by (with_reducible repeat (first | apply Kd.R_alloc | apply Kd.R_drewN | apply Kd.R_drew)); exact HO252.out))) (Kd.R_lt (by (with_reducible repeat (first | apply Kd.R_alloc | apply Kd.R_drewN | apply Kd.R_drew)); exact HO263.out))) (below_size (bE))); have n7_ := Aside0.mk (bS hb); clear HO242; clear HO249; clear HO252; clear HO256; clear HO259; clear HO263; clear HB; have HO242 := n0_; have HO249 := n1_; have HO252 := n2_; have HO256 := n3_; have HO259 := n4_; have HO263 := n5_; have HO266 := n6_; have HB := n7_; clear n0_ n1_ n2_ n3_ n4_ n5_ n6_ n7_; clear hb ho34; obtain ⟨Ao35, co35, eo35⟩ := Kd.R_slice HO263.out; subst eo35; obtain ⟨Ao36, co36, eo36⟩ := Kd.R_slice HO266.out; subst eo36) | (go_at_call 18; (with_reducible refine (corebankref21_SameInts.calls k _ _ t261 _ _ y264 t267 _ ?side1 ?side2 ?side3 ?side4 A16.out).mono ?_); (case side1 => repeat (first | exact (Kd.R_reads' HO263.out).2.2 | (with_reducible refine Kd.C_alloc ?_ _) | (with_reducible refine Kd.C_drewN ?_ _) | (with_reducible refine Kd.C_drew ?_))); (case side2 => exact (Kd.R_reads' HO263.out).2.1); (case side3 => repeat (first | exact (Kd.R_reads' HO266.out).2.2 | (with_reducible refine Kd.C_alloc ?_ _) | (with_reducible refine Kd.C_drewN ?_ _) | (with_reducible refine Kd.C_drew ?_))); (case side4 => exact (Kd.R_reads' HO266.out).2.1); rintro e w' ⟨rfl, ⟨nd, rfl⟩⟩))
              go_ret
              exact ⟨by first | rfl | (simp [errW_none, errW_some] <;> rfl) | (simp [*, errW_none, errW_some] <;> rfl), bE⟩
            · replace c14 := Bool.eq_false_iff.mpr c14
              subst c14
              have H1 : (none) = some r := by rw [if_neg (show ¬ (false = true) by decide)] at H; exact H
              clear H
              have H := H1
              clear H1
              exact absurd H (by simp)
          · rw [if_neg c11] at H
            exact absurd H (by simp)
        · rw [if_neg c10] at H
          exact absurd H (by simp)
      · replace c9 := Bool.eq_false_iff.mpr c9
        subst c9
        have H1 : (none) = some r := by rw [if_neg (show ¬ (false = true) by decide)] at H; exact H
        clear H
        have H := H1
        clear H1
        exact absurd H (by simp)
    · rw [if_neg c6] at H
      exact absurd H (by simp)
  · rw [if_neg c4] at H
    exact absurd H (by simp)

-- NOT PRINTED: function 3 (corebanklaw21_BalanceAdds)

-- NOT PRINTED: function 4 (corebanklaw21_BalanceZero)

end Go.Proofs.Ytnilmhhidmdlnaa.PA
