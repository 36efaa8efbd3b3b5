/- Contracts of the Go functions and their plain Lean functions, written by a program of this session out of the translation. -/
import Derived.Test.YtkhocaehhflpcaaPAx0
import Derived.Test.YtkhocaehhflpcaaPAx4
import Derived.Test.YtkhocaehhflpcaaPAx5
namespace Go.Proofs.Ytkhocaehhflpcaa.PA
open Go.RowKit Go.Proofs.YtkhocaehhflpcaaW.PrintWords Go.Proofs.YtkhocaehhflpcaaW.PrintLast Go.Proofs.YtkhocaehhflpcaaW.PrintMore
attribute [local go_sem] max2_int min2_int max_two min_two max_three min_three max_four min_four   -- for this text's walks alone
set_option linter.unusedVariables false
set_option linter.unusedSimpArgs false

/-! ### wide_Parse: function 13 -/
mutual
def wide_Parse.j0 : Nat → ByteArray → Bool → Option (Int × Int × Int)
  | 0, _, _ => none
  | k + 1, x0, x4 => if x4 = true then (if 1 ≤ (x0.size : Int) then (wide_Parse.j1 k x4 (x0.extract 1 x0.size)) else (none)) else (wide_Parse.j1 k x4 x0)
def wide_Parse.j1 : Nat → Bool → ByteArray → Option (Int × Int × Int)
  | 0, _, _ => none
  | k + 1, x4, x5 => if x5.toList = ([] : List UInt8) then (wide_Parse.j2 k x4 x5 true) else (if 0 < (x5.size : Int) then (if (bt x5 0) = 48 then (if (x5.size : Int) > 1 then (wide_Parse.j2 k x4 x5 true) else (wide_Parse.j2 k x4 x5 x4)) else (wide_Parse.j2 k x4 x5 false)) else (none))
def wide_Parse.j2 : Nat → Bool → ByteArray → Bool → Option (Int × Int × Int)
  | 0, _, _, _ => none
  | k + 1, x4, x5, x38 => if x38 = true then (some (0, 0, 2)) else (wide_Parse.l0 k x4 x5 true (x5.size : Int) 0 0 0)
def wide_Parse.l0 : Nat → Bool → ByteArray → Bool → Int → Int → Int → Int → Option (Int × Int × Int)
  | 0, _, _, _, _, _, _, _ => none
  | k + 1, x4, x5, x7, x41, x42, x195000, x195001 => if x42 < x41 then (wide_Parse.l1 k x4 x5 x7 x42 x41 x42 0 x195000 x195001) else (if x7 = true then ((wide_size_signed.f k x195000 x195001 x4).bind fun bt195 => (some (bt195.1, bt195.2.1, bt195.2.2))) else (some (0, 0, 6)))
def wide_Parse.l1 : Nat → Bool → ByteArray → Bool → Int → Int → Int → Int → Int → Int → Option (Int × Int × Int)
  | 0, _, _, _, _, _, _, _, _, _ => none
  | k + 1, x4, x5, x7, x8, x41, x42, x45, x195000, x195001 => if x45 < 10 then (if 0 ≤ x8 then (if x8 < (x5.size : Int) then (if 0 ≤ x45 then (if (bt x5 x8) = (bt (⟨#[48, 49, 50, 51, 52, 53, 54, 55, 56, 57]⟩ : ByteArray) x45) then ((wide_size_times.f x195000 x195001 10 (IntKind.u64.wrap (x45))).bind fun bt198 => (if x7 = true then (wide_Parse.l0 k x4 x5 bt198.2.2 x41 (wrap64 (x42 + 1)) bt198.1 bt198.2.1) else (wide_Parse.l0 k x4 x5 false x41 (wrap64 (x42 + 1)) bt198.1 bt198.2.1))) else (wide_Parse.l1 k x4 x5 x7 x8 x41 x42 (wrap64 (x45 + 1)) x195000 x195001)) else (none)) else (none)) else (none)) else (some (0, 0, 2))
end
def wide_Parse.f (k : Nat) (a0 : ByteArray) : Option (Int × Int × Int) := if (a0.size : Int) > 0 then (if 0 < (a0.size : Int) then (wide_Parse.j0 k a0 ((bt a0 0) == 45)) else (none)) else (wide_Parse.j0 k a0 false)
theorem wide_Parse.mono_l : ∀ k, (∀ y0 y1, LeO (wide_Parse.j0 k y0 y1) (wide_Parse.j0 (k + 1) y0 y1)) ∧ (∀ y0 y1, LeO (wide_Parse.j1 k y0 y1) (wide_Parse.j1 (k + 1) y0 y1)) ∧ (∀ y0 y1 y2, LeO (wide_Parse.j2 k y0 y1 y2) (wide_Parse.j2 (k + 1) y0 y1 y2)) ∧ (∀ y0 y1 y2 y3 y4 y5 y6, LeO (wide_Parse.l0 k y0 y1 y2 y3 y4 y5 y6) (wide_Parse.l0 (k + 1) y0 y1 y2 y3 y4 y5 y6)) ∧ (∀ y0 y1 y2 y3 y4 y5 y6 y7 y8, LeO (wide_Parse.l1 k y0 y1 y2 y3 y4 y5 y6 y7 y8) (wide_Parse.l1 (k + 1) y0 y1 y2 y3 y4 y5 y6 y7 y8))
  | 0 => ⟨fun _ _ r h => by simp [wide_Parse.j0] at h, fun _ _ r h => by simp [wide_Parse.j1] at h, fun _ _ _ r h => by simp [wide_Parse.j2] at h, fun _ _ _ _ _ _ _ r h => by simp [wide_Parse.l0] at h, fun _ _ _ _ _ _ _ _ _ r h => by simp [wide_Parse.l1] at h⟩
  | k + 1 => by
    obtain ⟨ih0, ih1, ih2, ih3, ih4⟩ := wide_Parse.mono_l k
    refine ⟨?_, ?_, ?_, ?_, ?_⟩
    · intro y0 y1
      unfold wide_Parse.j0
      repeat' first
      | (with_reducible exact ih0 _ _)
      | (with_reducible exact ih1 _ _)
      | (with_reducible exact ih2 _ _ _)
      | (with_reducible exact ih3 _ _ _ _ _ _ _)
      | (with_reducible exact ih4 _ _ _ _ _ _ _ _ _)
      | (with_reducible exact wide_size_signed.mono _ _ _ _)
      | (with_reducible exact LeO.refl _)
      | (with_reducible exact LeO.none _)
      | (with_reducible refine LeO.ite ?_ ?_)
      | (with_reducible refine LeO.bind ?_ (fun _ => ?_))
      | exact ih0 _ _
      | exact ih1 _ _
      | exact ih2 _ _ _
      | exact ih3 _ _ _ _ _ _ _
      | exact ih4 _ _ _ _ _ _ _ _ _
      | exact wide_size_signed.mono _ _ _ _
      | exact LeO.none _
      | refine LeO.ite ?_ ?_
      | refine LeO.bind ?_ (fun _ => ?_)
    · intro y0 y1
      unfold wide_Parse.j1
      repeat' first
      | (with_reducible exact ih0 _ _)
      | (with_reducible exact ih1 _ _)
      | (with_reducible exact ih2 _ _ _)
      | (with_reducible exact ih3 _ _ _ _ _ _ _)
      | (with_reducible exact ih4 _ _ _ _ _ _ _ _ _)
      | (with_reducible exact wide_size_signed.mono _ _ _ _)
      | (with_reducible exact LeO.refl _)
      | (with_reducible exact LeO.none _)
      | (with_reducible refine LeO.ite ?_ ?_)
      | (with_reducible refine LeO.bind ?_ (fun _ => ?_))
      | exact ih0 _ _
      | exact ih1 _ _
      | exact ih2 _ _ _
      | exact ih3 _ _ _ _ _ _ _
      | exact ih4 _ _ _ _ _ _ _ _ _
      | exact wide_size_signed.mono _ _ _ _
      | exact LeO.none _
      | refine LeO.ite ?_ ?_
      | refine LeO.bind ?_ (fun _ => ?_)
    · intro y0 y1 y2
      unfold wide_Parse.j2
      repeat' first
      | (with_reducible exact ih0 _ _)
      | (with_reducible exact ih1 _ _)
      | (with_reducible exact ih2 _ _ _)
      | (with_reducible exact ih3 _ _ _ _ _ _ _)
      | (with_reducible exact ih4 _ _ _ _ _ _ _ _ _)
      | (with_reducible exact wide_size_signed.mono _ _ _ _)
      | (with_reducible exact LeO.refl _)
      | (with_reducible exact LeO.none _)
      | (with_reducible refine LeO.ite ?_ ?_)
      | (with_reducible refine LeO.bind ?_ (fun _ => ?_))
      | exact ih0 _ _
      | exact ih1 _ _
      | exact ih2 _ _ _
      | exact ih3 _ _ _ _ _ _ _
      | exact ih4 _ _ _ _ _ _ _ _ _
      | exact wide_size_signed.mono _ _ _ _
      | exact LeO.none _
      | refine LeO.ite ?_ ?_
      | refine LeO.bind ?_ (fun _ => ?_)
    · intro y0 y1 y2 y3 y4 y5 y6
      unfold wide_Parse.l0
      repeat' first
      | (with_reducible exact ih0 _ _)
      | (with_reducible exact ih1 _ _)
      | (with_reducible exact ih2 _ _ _)
      | (with_reducible exact ih3 _ _ _ _ _ _ _)
      | (with_reducible exact ih4 _ _ _ _ _ _ _ _ _)
      | (with_reducible exact wide_size_signed.mono _ _ _ _)
      | (with_reducible exact LeO.refl _)
      | (with_reducible exact LeO.none _)
      | (with_reducible refine LeO.ite ?_ ?_)
      | (with_reducible refine LeO.bind ?_ (fun _ => ?_))
      | exact ih0 _ _
      | exact ih1 _ _
      | exact ih2 _ _ _
      | exact ih3 _ _ _ _ _ _ _
      | exact ih4 _ _ _ _ _ _ _ _ _
      | exact wide_size_signed.mono _ _ _ _
      | exact LeO.none _
      | refine LeO.ite ?_ ?_
      | refine LeO.bind ?_ (fun _ => ?_)
    · intro y0 y1 y2 y3 y4 y5 y6 y7 y8
      unfold wide_Parse.l1
      repeat' first
      | (with_reducible exact ih0 _ _)
      | (with_reducible exact ih1 _ _)
      | (with_reducible exact ih2 _ _ _)
      | (with_reducible exact ih3 _ _ _ _ _ _ _)
      | (with_reducible exact ih4 _ _ _ _ _ _ _ _ _)
      | (with_reducible exact wide_size_signed.mono _ _ _ _)
      | (with_reducible exact LeO.refl _)
      | (with_reducible exact LeO.none _)
      | (with_reducible refine LeO.ite ?_ ?_)
      | (with_reducible refine LeO.bind ?_ (fun _ => ?_))
      | exact ih0 _ _
      | exact ih1 _ _
      | exact ih2 _ _ _
      | exact ih3 _ _ _ _ _ _ _
      | exact ih4 _ _ _ _ _ _ _ _ _
      | exact wide_size_signed.mono _ _ _ _
      | exact LeO.none _
      | refine LeO.ite ?_ ?_
      | refine LeO.bind ?_ (fun _ => ?_)
theorem wide_Parse.mono : ∀ a0 k, LeO (wide_Parse.f k a0) (wide_Parse.f (k + 1) a0) := by
  intro a0 k
  obtain ⟨ih0, ih1, ih2, ih3, ih4⟩ := wide_Parse.mono_l k
  unfold wide_Parse.f
  repeat' first
      | (with_reducible exact ih0 _ _)
      | (with_reducible exact ih1 _ _)
      | (with_reducible exact ih2 _ _ _)
      | (with_reducible exact ih3 _ _ _ _ _ _ _)
      | (with_reducible exact ih4 _ _ _ _ _ _ _ _ _)
      | (with_reducible exact wide_size_signed.mono _ _ _ _)
      | (with_reducible exact LeO.refl _)
      | (with_reducible exact LeO.none _)
      | (with_reducible refine LeO.ite ?_ ?_)
      | (with_reducible refine LeO.bind ?_ (fun _ => ?_))
      | exact ih0 _ _
      | exact ih1 _ _
      | exact ih2 _ _ _
      | exact ih3 _ _ _ _ _ _ _
      | exact ih4 _ _ _ _ _ _ _ _ _
      | exact wide_size_signed.mono _ _ _ _
      | exact LeO.none _
      | refine LeO.ite ?_ ?_
      | refine LeO.bind ?_ (fun _ => ?_)
set_option maxHeartbeats 8000000 in
set_option maxRecDepth 100000 in
theorem wide_Parse.calls (k : Nat) (a0 : ByteArray) (r1 : Int) (r2 : Int) (r3 : Int) (w : World) (h : wide_Parse.f k a0 = some (r1, r2, r3)) :
    Calls Try.prog 13 #[.string a0] w fun e w' => e = .returned (.tuple #[.agg #[.int .i64 r1, .int .u64 r2], .int .i64 r3]) ∧ Below w.heap.size w w' := by
  have hu24 := Try.underlying24
  have hu45 := Try.underlying45
  have HB := Aside0.mk (Below.refl w.heap.size w)
  have H : (if (a0.size : Int) > 0 then (if 0 < (a0.size : Int) then (wide_Parse.j0 k a0 ((bt a0 0) == 45)) else (none)) else (wide_Parse.j0 k a0 false)) = some (r1, r2, r3) := h
  clear h
  have HC2 := Aside0.mk H
  clear H
  go_enter Try.func13, Try.ntmps13
  go_wp2_with (first | ((with_reducible refine gate_dst (N := 2) rfl ?_); refine box_event ?hg (N := 2) ?hd (cs := #[.int .i64 0, .int .u64 0]) (t := 24) ?hr ?_; (case hd => rfl); (case hg => rfl); (case hr => first | (go_simp; done) | (go_simp; rfl)); intro gb193 hg w3 hbox hb; have nn_ := bT hb hg; have BK193 := Aside0.mk (hbox); have GW193 := Aside0.mk nn_.2; have GE193 := GW193; replace HB := Aside0.mk nn_.1; clear nn_; clear hb hbox hg))
  go_step3
  go_upto_region 1 with (first | ((with_reducible refine gate_dst (N := 2) rfl ?_); refine box_event ?hg (N := 2) ?hd (cs := #[.int .i64 0, .int .u64 0]) (t := 24) ?hr ?_; (case hd => rfl); (case hg => rfl); (case hr => first | (go_simp; done) | (go_simp; rfl)); intro gb193 hg w3 hbox hb; have nn_ := bT hb hg; have BK193 := Aside0.mk (hbox); have GW193 := Aside0.mk nn_.2; have GE193 := GW193; replace HB := Aside0.mk nn_.1; clear nn_; clear hb hbox hg))
  repeat (go_quiet (first | ((with_reducible refine gate_dst (N := 2) rfl ?_); refine box_event ?hg (N := 2) ?hd (cs := #[.int .i64 0, .int .u64 0]) (t := 24) ?hr ?_; (case hd => rfl); (case hg => rfl); (case hr => first | (go_simp; done) | (go_simp; rfl)); intro gb193 hg w3 hbox hb; have nn_ := bT hb hg; have BK193 := Aside0.mk (hbox); have GW193 := Aside0.mk nn_.2; have GE193 := GW193; replace HB := Aside0.mk nn_.1; clear nn_; clear hb hbox hg)); go_upto_region 1 with (first | ((with_reducible refine gate_dst (N := 2) rfl ?_); refine box_event ?hg (N := 2) ?hd (cs := #[.int .i64 0, .int .u64 0]) (t := 24) ?hr ?_; (case hd => rfl); (case hg => rfl); (case hr => first | (go_simp; done) | (go_simp; rfl)); intro gb193 hg w3 hbox hb; have nn_ := bT hb hg; have BK193 := Aside0.mk (hbox); have GW193 := Aside0.mk nn_.2; have GE193 := GW193; replace HB := Aside0.mk nn_.1; clear nn_; clear hb hbox hg)))
  (try simp only [Act.put, List.setIfInBounds_toArray, List.set_cons_zero, List.set_cons_succ])
  go_cut [4] (fun v4 wc => ∃ (kq : Nat) (x4_1 : Bool), v4 = .bool x4_1 ∧ Aside0 (wide_Parse.j0 kq a0 x4_1 = some (r1, r2, r3)) ∧ Aside0 (kq ≤ k) ∧ Aside0 (wc.heap[gb193]? = some (.cells #[.int .i64 0, .int .u64 0] 24 (0, 0))) ∧ Aside0 (Below w.heap.size w wc))
  case first =>
    have H := HC2.out
    clear HC2
    by_cases c4 : (a0.size : Int) > 0
    · rw [if_pos c4] at H
      have c4b0 : decide (0 < (a0.size : Int)) = true := decide_eq_true c4
      have c4b1 : decide (0 < a0.size) = true := decide_eq_true (by omega)
      clear c4
      (first | rw [c4b0] | (simp only [i64_w, i32_w]; rw [c4b0]) | skip)
      by_cases c5 : 0 < (a0.size : Int)
      · rw [if_pos c5] at H
        have c5b0 : decide (0 < (a0.size : Int)) = true := decide_eq_true c5
        have c5b1 : decide (0 < a0.size) = true := decide_eq_true (by omega)
        clear c5
        have H' := Aside0.mk H
        clear H
        have p6 : 0 ≤ (0 : Int) := (by omega)
        have q6 : 0 < a0.size := (by have : (0 : Int) < (a0.size : Int) := of_decide_eq_true (by first | (with_reducible assumption) | assumption); omega)
        have hx6 : ∀ h : 0 < a0.size, ((a0[0]'h).toNat : Int) = bt a0 0 := bt_at a0 0
        clear p6
        have qi6 : (0 < (a0.size : Int)) = True := eq_true (of_decide_eq_true (by first | (with_reducible assumption) | assumption))
        replace q6 := eq_true q6
        go_wp2
        repeat (go_quiet (fail); try go_wp2)
        go_meet
        case rel => exact ⟨_, (((bt a0 0) == 45)), (by first | rfl | (simp; done) | (simp [*]; done)), H', ⟨by first | omega | exact Nat.le_refl _⟩, ⟨by (with_reducible repeat (first | refine blk_drewN ?_ _ | refine blk_drew ?_ | refine blk_alloc ?_ _)); exact BK193.out⟩, ⟨bE⟩⟩
      · rw [if_neg c5] at H
        exact absurd H (by simp)
    · rw [if_neg c4] at H
      have c4b0 : decide (0 < (a0.size : Int)) = false := decide_eq_false c4
      have c4b1 : decide (0 < a0.size) = false := decide_eq_false (by omega)
      clear c4
      (first | rw [c4b0] | (simp only [i64_w, i32_w]; rw [c4b0]) | skip)
      have H' := Aside0.mk H
      clear H
      go_wp2
      repeat (go_quiet (fail); try go_wp2)
      go_meet
      case rel => exact ⟨_, (false), (by first | rfl | (simp; done) | (simp [*]; done)), H', ⟨by first | omega | exact Nat.le_refl _⟩, ⟨by (with_reducible repeat (first | refine blk_drewN ?_ _ | refine blk_drew ?_ | refine blk_alloc ?_ _)); exact BK193.out⟩, ⟨bE⟩⟩
  case rest =>
    clear HC2
    try clear c1
    try clear p2
    try clear c4
    try clear c4b0
    try clear c4b1
    try clear c5
    try clear c5b0
    try clear c5b1
    try clear p6
    try clear q6
    try clear hx6
    try clear qi6
    try clear p6
    try clear q6
    obtain ⟨kq, x4_1, rfl, HA, HJ1, BK193, HB⟩ := hcut
    cases kq with
    | zero => exact absurd HA.out (by simp [wide_Parse.j0])
    | succ kj1 =>
      have H := HA.out
      clear HA
      simp only [wide_Parse.j0] at H
      have HC7 := Aside0.mk H
      clear H
      go_upto_if 21 with (fail)
      repeat (go_quiet (fail); go_upto_if 21 with (fail))
      go_cut [5] (fun v5 wc => ∃ (kq : Nat) (x5_6 : ByteArray), v5 = .string x5_6 ∧ Aside0 (wide_Parse.j1 kq x4_1 x5_6 = some (r1, r2, r3)) ∧ Aside0 (kq ≤ kj1) ∧ Aside0 (wc.heap[gb193]? = some (.cells #[.int .i64 0, .int .u64 0] 24 (0, 0))) ∧ Aside0 (Below w.heap.size w wc))
      case first =>
        have H := HC7.out
        clear HC7
        by_cases c8 : x4_1 = true
        · subst c8
          have H1 : (if 1 ≤ (a0.size : Int) then (wide_Parse.j1 kj1 true (a0.extract 1 a0.size)) else (none)) = some (r1, r2, r3) := by rw [if_pos rfl] at H; exact H
          clear H
          have H := H1
          clear H1
          by_cases c9 : 1 ≤ (a0.size : Int)
          · rw [if_pos c9] at H
            have c9b0 := eq_true c9
            have c9b1 : decide (1 ≤ (a0.size : Int)) = true := decide_eq_true c9
            clear c9
            have H' := Aside0.mk H
            clear H
            go_wp2
            repeat (go_quiet (fail); try go_wp2)
            go_meet
            case rel => exact ⟨_, (a0.extract 1 a0.size), (by first | rfl | (simp; done) | (simp [*]; done)), H', ⟨by have := HJ1.out; first | omega | exact Nat.le_refl _⟩, ⟨by (with_reducible repeat (first | refine blk_drewN ?_ _ | refine blk_drew ?_ | refine blk_alloc ?_ _)); exact BK193.out⟩, ⟨bE⟩⟩
          · rw [if_neg c9] at H
            exact absurd H (by simp)
        · replace c8 := Bool.eq_false_iff.mpr c8
          subst c8
          have H1 : (wide_Parse.j1 kj1 false a0) = some (r1, r2, r3) := by rw [if_neg (show ¬ (false = true) by decide)] at H; exact H
          clear H
          have H := H1
          clear H1
          have H' := Aside0.mk H
          clear H
          go_wp2
          repeat (go_quiet (fail); try go_wp2)
          go_meet
          case rel => exact ⟨_, (a0), (by first | rfl | (simp; done) | (simp [*]; done)), H', ⟨by have := HJ1.out; first | omega | exact Nat.le_refl _⟩, ⟨by (with_reducible repeat (first | refine blk_drewN ?_ _ | refine blk_drew ?_ | refine blk_alloc ?_ _)); exact BK193.out⟩, ⟨bE⟩⟩
      case rest =>
        clear HC7
        try clear c1
        try clear p2
        try clear c4
        try clear c4b0
        try clear c4b1
        try clear c5
        try clear c5b0
        try clear c5b1
        try clear p6
        try clear q6
        try clear hx6
        try clear qi6
        try clear c8
        try clear c9
        try clear c9b0
        try clear c9b1
        try clear p2
        try clear p6
        try clear q6
        obtain ⟨kq, x5_6, rfl, HA, HJ6, BK193, HB⟩ := hcut
        cases kq with
        | zero => exact absurd HA.out (by simp [wide_Parse.j1])
        | succ kj6 =>
          have H := HA.out
          clear HA
          simp only [wide_Parse.j1] at H
          have HC10 := Aside0.mk H
          clear H
          go_upto_region 5 with (fail)
          repeat (go_quiet (fail); go_upto_region 5 with (fail))
          go_cut [38] (fun v38 wc => ∃ (kq : Nat) (x38_9 : Bool), v38 = .bool x38_9 ∧ Aside0 (wide_Parse.j2 kq x4_1 x5_6 x38_9 = some (r1, r2, r3)) ∧ Aside0 (kq ≤ kj6) ∧ Aside0 (wc.heap[gb193]? = some (.cells #[.int .i64 0, .int .u64 0] 24 (0, 0))) ∧ Aside0 (Below w.heap.size w wc))
          case first =>
            have H := HC10.out
            clear HC10
            by_cases c11 : x5_6.toList = ([] : List UInt8)
            · rw [if_pos c11] at H
              have c11b0 : (x5_6.toList == ([] : List UInt8)) = true := beq_iff_eq.mpr c11
              have c11b1 : (x5_6.toList != ([] : List UInt8)) = false := bne_eq_false_iff_eq.mpr c11
              clear c11
              (first | rw [c11b0] | (simp only [i64_w, i32_w]; rw [c11b0]) | skip)
              have H' := Aside0.mk H
              clear H
              go_wp2
              repeat (go_quiet (fail); try go_wp2)
              go_meet
              case rel => exact ⟨_, (true), (by first | rfl | (simp; done) | (simp [*]; done)), H', ⟨by have := HJ1.out; have := HJ6.out; first | omega | exact Nat.le_refl _⟩, ⟨by (with_reducible repeat (first | refine blk_drewN ?_ _ | refine blk_drew ?_ | refine blk_alloc ?_ _)); exact BK193.out⟩, ⟨bE⟩⟩
            · rw [if_neg c11] at H
              have c11b0 : (x5_6.toList == ([] : List UInt8)) = false := beq_eq_false_iff_ne.mpr c11
              have c11b1 : (x5_6.toList != ([] : List UInt8)) = true := bne_iff_ne.mpr c11
              (first | rw [c11b0] | (simp only [i64_w, i32_w]; rw [c11b0]) | skip)
              by_cases c12 : 0 < (x5_6.size : Int)
              · rw [if_pos c12] at H
                have c12b0 : decide (0 < (x5_6.size : Int)) = true := decide_eq_true c12
                have c12b1 : decide (0 < x5_6.size) = true := decide_eq_true (by omega)
                clear c12
                by_cases c14 : (bt x5_6 0) = 48
                · rw [if_pos c14] at H
                  have c14b0 : ((bt x5_6 0) == 48) = true := beq_iff_eq.mpr c14
                  have c14b1 : ((bt x5_6 0) != 48) = false := bne_eq_false_iff_eq.mpr c14
                  clear c14
                  by_cases c15 : (x5_6.size : Int) > 1
                  · rw [if_pos c15] at H
                    have c15b0 : decide (1 < (x5_6.size : Int)) = true := decide_eq_true c15
                    have c15b1 : decide (1 < x5_6.size) = true := decide_eq_true (by omega)
                    clear c15
                    have H' := Aside0.mk H
                    clear H
                    have p13 : 0 ≤ (0 : Int) := (by omega)
                    have q13 : 0 < x5_6.size := (by have : (0 : Int) < (x5_6.size : Int) := of_decide_eq_true (by first | (with_reducible assumption) | assumption); omega)
                    have hx13 : ∀ h : 0 < x5_6.size, ((x5_6[0]'h).toNat : Int) = bt x5_6 0 := bt_at x5_6 0
                    clear p13
                    have qi13 : (0 < (x5_6.size : Int)) = True := eq_true (of_decide_eq_true (by first | (with_reducible assumption) | assumption))
                    replace q13 := eq_true q13
                    go_wp2
                    repeat (go_quiet (fail); try go_wp2)
                    go_meet
                    case rel => exact ⟨_, (true), (by first | rfl | (simp; done) | (simp [*]; done)), H', ⟨by have := HJ1.out; have := HJ6.out; first | omega | exact Nat.le_refl _⟩, ⟨by (with_reducible repeat (first | refine blk_drewN ?_ _ | refine blk_drew ?_ | refine blk_alloc ?_ _)); exact BK193.out⟩, ⟨bE⟩⟩
                  · rw [if_neg c15] at H
                    have c15b0 : decide (1 < (x5_6.size : Int)) = false := decide_eq_false c15
                    have c15b1 : decide (1 < x5_6.size) = false := decide_eq_false (by omega)
                    clear c15
                    have H' := Aside0.mk H
                    clear H
                    have p13 : 0 ≤ (0 : Int) := (by omega)
                    have q13 : 0 < x5_6.size := (by have : (0 : Int) < (x5_6.size : Int) := of_decide_eq_true (by first | (with_reducible assumption) | assumption); omega)
                    have hx13 : ∀ h : 0 < x5_6.size, ((x5_6[0]'h).toNat : Int) = bt x5_6 0 := bt_at x5_6 0
                    clear p13
                    have qi13 : (0 < (x5_6.size : Int)) = True := eq_true (of_decide_eq_true (by first | (with_reducible assumption) | assumption))
                    replace q13 := eq_true q13
                    go_wp2
                    repeat (go_quiet (fail); try go_wp2)
                    go_meet
                    case rel => exact ⟨_, (x4_1), (by first | rfl | (simp; done) | (simp [*]; done)), H', ⟨by have := HJ1.out; have := HJ6.out; first | omega | exact Nat.le_refl _⟩, ⟨by (with_reducible repeat (first | refine blk_drewN ?_ _ | refine blk_drew ?_ | refine blk_alloc ?_ _)); exact BK193.out⟩, ⟨bE⟩⟩
                · rw [if_neg c14] at H
                  have c14b0 : ((bt x5_6 0) == 48) = false := beq_eq_false_iff_ne.mpr c14
                  have c14b1 : ((bt x5_6 0) != 48) = true := bne_iff_ne.mpr c14
                  have H' := Aside0.mk H
                  clear H
                  have p13 : 0 ≤ (0 : Int) := (by omega)
                  have q13 : 0 < x5_6.size := (by have : (0 : Int) < (x5_6.size : Int) := of_decide_eq_true (by first | (with_reducible assumption) | assumption); omega)
                  have hx13 : ∀ h : 0 < x5_6.size, ((x5_6[0]'h).toNat : Int) = bt x5_6 0 := bt_at x5_6 0
                  clear p13
                  have qi13 : (0 < (x5_6.size : Int)) = True := eq_true (of_decide_eq_true (by first | (with_reducible assumption) | assumption))
                  replace q13 := eq_true q13
                  go_wp2
                  repeat (go_quiet (fail); try go_wp2)
                  go_meet
                  case rel => exact ⟨_, (false), (by first | rfl | (simp; done) | (simp [*]; done)), H', ⟨by have := HJ1.out; have := HJ6.out; first | omega | exact Nat.le_refl _⟩, ⟨by (with_reducible repeat (first | refine blk_drewN ?_ _ | refine blk_drew ?_ | refine blk_alloc ?_ _)); exact BK193.out⟩, ⟨bE⟩⟩
              · rw [if_neg c12] at H
                exact absurd H (by simp)
          case rest =>
            clear HC10
            try clear c1
            try clear p1
            try clear q1
            try clear hx1
            try clear qi1
            try clear p2
            try clear c4
            try clear c4b0
            try clear c4b1
            try clear c5
            try clear c5b0
            try clear c5b1
            try clear p6
            try clear q6
            try clear hx6
            try clear qi6
            try clear c8
            try clear c9
            try clear c9b0
            try clear c9b1
            try clear c11
            try clear c11b0
            try clear c11b1
            try clear c12
            try clear c12b0
            try clear c12b1
            try clear c13
            try clear p13
            try clear q13
            try clear hx13
            try clear qi13
            try clear c14
            try clear c14b0
            try clear c14b1
            try clear c15
            try clear c15b0
            try clear c15b1
            try clear p13
            try clear p2
            try clear p6
            try clear q13
            try clear q6
            obtain ⟨kq, x38_9, rfl, HA, HJ9, BK193, HB⟩ := hcut
            cases kq with
            | zero => exact absurd HA.out (by simp [wide_Parse.j2])
            | succ kj9 =>
              have H := HA.out
              clear HA
              simp only [wide_Parse.j2] at H
              by_cases c16 : x38_9 = true
              · subst c16
                have H1 : (some (0, 0, 2)) = some (r1, r2, r3) := by rw [if_pos rfl] at H; exact H
                clear H
                have H := H1
                clear H1
                simp only [Option.some.injEq, Prod.mk.injEq] at H
                obtain ⟨rfl, rfl, rfl⟩ := H
                have hcz17_0 : wc.cell? ⟨gb193, 0, none⟩ = some (.int .i64 0) := (blk_cell BK193.out 0).trans rfl
                have hcz17_1 : wc.cell? ⟨gb193, 1, none⟩ = some (.int .u64 0) := (blk_cell BK193.out 1).trans rfl
                have hfz17_0 := blk_frozen BK193.out 0
                have hfz17_1 := blk_frozen BK193.out 1
                go_wp2
                repeat (go_quiet (fail); try go_wp2)
                (try rw [Exit.noGoto_ret])
                refine bodyPost_ret (results_ct rfl _ _ gb193 24 #[.int .i64 0, .int .u64 0] (0, 0) _ rfl (by (with_reducible repeat (first | refine blk_drewN ?_ _ | refine blk_drew ?_ | refine blk_alloc ?_ _)); refine blk_put (cs := #[.int .i64 0, .int .u64 0]) ?_ 1 _ rfl; (with_reducible repeat (first | refine blk_drewN ?_ _ | refine blk_drew ?_ | refine blk_alloc ?_ _)); refine blk_put (cs := #[.int .i64 0, .int .u64 0]) ?_ 0 _ rfl; (with_reducible repeat (first | refine blk_drewN ?_ _ | refine blk_drew ?_ | refine blk_alloc ?_ _)); exact BK193.out) Try.underlying24 rfl (by kernel_rfl)) rfl ?_
                exact ⟨by first | rfl | (simp [errW_none, errW_some] <;> rfl) | (simp [*, errW_none, errW_some] <;> rfl), bE⟩
              · replace c16 := Bool.eq_false_iff.mpr c16
                subst c16
                have H1 : (wide_Parse.l0 kj9 x4_1 x5_6 true (x5_6.size : Int) 0 0 0) = some (r1, r2, r3) := by rw [if_neg (show ¬ (false = true) by decide)] at H; exact H
                clear H
                have H := H1
                clear H1
                have H' := Aside0.mk H
                clear H
                go_wp2_with (first | ((with_reducible refine gate_dst (N := 6) rfl ?_); refine box_event ?hg (N := 6) ?hd (cs := #[.int .u64 0, .int .u64 0]) (t := 45) ?hr ?_; (case hd => rfl); (case hg => rfl); (case hr => first | (go_simp; done) | (go_simp; rfl)); intro gb194 hg w18 hbox hb; have nn_ := bT hb hg; have bgb193_ := bN BK193 hb hg; have BK194 := Aside0.mk (hbox); have GW194 := Aside0.mk nn_.2; have GE194 := GW194; have NB193_194 := Aside0.mk bgb193_.2.1; have NB194_193 := Aside0.mk bgb193_.2.2; replace BK193 := Aside0.mk bgb193_.1; replace HB := Aside0.mk nn_.1; clear nn_ bgb193_; clear hb hbox hg))
                (try (go_step3; go_wp2_with (first | ((with_reducible refine gate_dst (N := 6) rfl ?_); refine box_event ?hg (N := 6) ?hd (cs := #[.int .u64 0, .int .u64 0]) (t := 45) ?hr ?_; (case hd => rfl); (case hg => rfl); (case hr => first | (go_simp; done) | (go_simp; rfl)); intro gb194 hg w18 hbox hb; have nn_ := bT hb hg; have bgb193_ := bN BK193 hb hg; have BK194 := Aside0.mk (hbox); have GW194 := Aside0.mk nn_.2; have GE194 := GW194; have NB193_194 := Aside0.mk bgb193_.2.1; have NB194_193 := Aside0.mk bgb193_.2.2; replace BK193 := Aside0.mk bgb193_.1; replace HB := Aside0.mk nn_.1; clear nn_ bgb193_; clear hb hbox hg))))
                (try (go_step3; go_wp2_with (first | ((with_reducible refine gate_dst (N := 6) rfl ?_); refine box_event ?hg (N := 6) ?hd (cs := #[.int .u64 0, .int .u64 0]) (t := 45) ?hr ?_; (case hd => rfl); (case hg => rfl); (case hr => first | (go_simp; done) | (go_simp; rfl)); intro gb194 hg w18 hbox hb; have nn_ := bT hb hg; have bgb193_ := bN BK193 hb hg; have BK194 := Aside0.mk (hbox); have GW194 := Aside0.mk nn_.2; have GE194 := GW194; have NB193_194 := Aside0.mk bgb193_.2.1; have NB194_193 := Aside0.mk bgb193_.2.2; replace BK193 := Aside0.mk bgb193_.1; replace HB := Aside0.mk nn_.1; clear nn_ bgb193_; clear hb hbox hg))))
                repeat (go_quiet (first | ((with_reducible refine gate_dst (N := 6) rfl ?_); refine box_event ?hg (N := 6) ?hd (cs := #[.int .u64 0, .int .u64 0]) (t := 45) ?hr ?_; (case hd => rfl); (case hg => rfl); (case hr => first | (go_simp; done) | (go_simp; rfl)); intro gb194 hg w18 hbox hb; have nn_ := bT hb hg; have bgb193_ := bN BK193 hb hg; have BK194 := Aside0.mk (hbox); have GW194 := Aside0.mk nn_.2; have GE194 := GW194; have NB193_194 := Aside0.mk bgb193_.2.1; have NB194_193 := Aside0.mk bgb193_.2.2; replace BK193 := Aside0.mk bgb193_.1; replace HB := Aside0.mk nn_.1; clear nn_ bgb193_; clear hb hbox hg)); try go_wp2_with (first | ((with_reducible refine gate_dst (N := 6) rfl ?_); refine box_event ?hg (N := 6) ?hd (cs := #[.int .u64 0, .int .u64 0]) (t := 45) ?hr ?_; (case hd => rfl); (case hg => rfl); (case hr => first | (go_simp; done) | (go_simp; rfl)); intro gb194 hg w18 hbox hb; have nn_ := bT hb hg; have bgb193_ := bN BK193 hb hg; have BK194 := Aside0.mk (hbox); have GW194 := Aside0.mk nn_.2; have GE194 := GW194; have NB193_194 := Aside0.mk bgb193_.2.1; have NB194_193 := Aside0.mk bgb193_.2.2; replace BK193 := Aside0.mk bgb193_.1; replace HB := Aside0.mk nn_.1; clear nn_ bgb193_; clear hb hbox hg)))
                go_loopg [7, 42] kj9 (fun kq v7 v42 w' => ∃ (x7_4 : Bool) (x42_4 : Int) (x194000_4 : Int) (x194001_4 : Int) (x195000_4 : Int) (x195001_4 : Int), v7 = .bool x7_4 ∧ v42 = .int .i64 x42_4 ∧ Aside0 (wide_Parse.l0 kq x4_1 x5_6 x7_4 (x5_6.size : Int) x42_4 x195000_4 x195001_4 = some (r1, r2, r3)) ∧ Aside0 (kq ≤ kj9) ∧ Aside0 (w'.heap[gb193]? = some (.cells #[.int .i64 x194000_4, .int .u64 x194001_4] 24 (0, 0))) ∧ Aside0 (w'.heap[gb194]? = some (.cells #[.int .u64 x195000_4, .int .u64 x195001_4] 45 (0, 0))) ∧ Aside0 (Below w.heap.size w w'))
                case atStart => exact ⟨(true), (0), (0), (0), (0), (0), (by first | rfl | (simp; done) | (simp [*]; done)), (by first | rfl | (simp; done) | (simp [*]; done)), H', ⟨Nat.le_refl _⟩, ⟨by (with_reducible repeat (first | refine blk_drewN ?_ _ | refine blk_drew ?_ | refine blk_alloc ?_ _)); exact BK193.out⟩, ⟨by (with_reducible repeat (first | refine blk_drewN ?_ _ | refine blk_drew ?_ | refine blk_alloc ?_ _)); exact BK194.out⟩, ⟨bE⟩⟩
                case round =>
                  clear H'
                  try clear c1
                  try clear p1
                  try clear q1
                  try clear hx1
                  try clear qi1
                  try clear p2
                  try clear c4
                  try clear c4b0
                  try clear c4b1
                  try clear c5
                  try clear c5b0
                  try clear c5b1
                  try clear p6
                  try clear q6
                  try clear hx6
                  try clear qi6
                  try clear c8
                  try clear c9
                  try clear c9b0
                  try clear c9b1
                  try clear c11
                  try clear c11b0
                  try clear c11b1
                  try clear c12
                  try clear c12b0
                  try clear c12b1
                  try clear c13
                  try clear p13
                  try clear q13
                  try clear hx13
                  try clear qi13
                  try clear c14
                  try clear c14b0
                  try clear c14b1
                  try clear c15
                  try clear c15b0
                  try clear c15b1
                  try clear c16
                  try clear hcz17_0
                  try clear hcz17_1
                  try clear hfz17_0
                  try clear hfz17_1
                  try clear p1
                  try clear p13
                  try clear p2
                  try clear p6
                  try clear q1
                  try clear q13
                  try clear q6
                  obtain ⟨x7_4, x42_4, x194000_4, x194001_4, x195000_4, x195001_4, rfl, rfl, HA, HK4, BK193, BK194, HB⟩ := hrel
                  cases gk with
                  | zero => exact absurd HA.out (by simp [wide_Parse.l0])
                  | succ k4 =>
                    have H := HA.out
                    clear HA
                    simp only [wide_Parse.l0] at H
                    by_cases c19 : x42_4 < (x5_6.size : Int)
                    · rw [if_pos c19] at H
                      have c19b0 : decide (x42_4 < (x5_6.size : Int)) = true := decide_eq_true c19
                      clear c19
                      have H' := Aside0.mk H
                      clear H
                      go_wp2
                      repeat (go_quiet (fail); try go_wp2)
                      go_loopg [7, 45] k4 (fun kq v7 v45 w' => ∃ (x7_5 : Bool) (x45_5 : Int) (x195000_5 : Int) (x195001_5 : Int), v7 = .bool x7_5 ∧ v45 = .int .i64 x45_5 ∧ Aside0 (wide_Parse.l1 kq x4_1 x5_6 x7_5 x42_4 (x5_6.size : Int) x42_4 x45_5 x195000_5 x195001_5 = some (r1, r2, r3)) ∧ Aside0 (kq ≤ k4) ∧ Aside0 (w'.heap[gb193]? = some (.cells #[.int .i64 x194000_4, .int .u64 x194001_4] 24 (0, 0))) ∧ Aside0 (w'.heap[gb194]? = some (.cells #[.int .u64 x195000_5, .int .u64 x195001_5] 45 (0, 0))) ∧ Aside0 (Below w.heap.size w w'))
                      case atStart => exact ⟨(x7_4), (0), (x195000_4), (x195001_4), (by first | rfl | (simp; done) | (simp [*]; done)), (by first | rfl | (simp; done) | (simp [*]; done)), H', ⟨Nat.le_refl _⟩, ⟨by (with_reducible repeat (first | refine blk_drewN ?_ _ | refine blk_drew ?_ | refine blk_alloc ?_ _)); exact BK193.out⟩, ⟨by (with_reducible repeat (first | refine blk_drewN ?_ _ | refine blk_drew ?_ | refine blk_alloc ?_ _)); exact BK194.out⟩, ⟨bE⟩⟩
                      case round =>
                        clear H'
                        try clear c1
                        try clear p1
                        try clear q1
                        try clear hx1
                        try clear qi1
                        try clear p2
                        try clear c4
                        try clear c4b0
                        try clear c4b1
                        try clear c5
                        try clear c5b0
                        try clear c5b1
                        try clear p6
                        try clear q6
                        try clear hx6
                        try clear qi6
                        try clear c8
                        try clear c9
                        try clear c9b0
                        try clear c9b1
                        try clear c11
                        try clear c11b0
                        try clear c11b1
                        try clear c12
                        try clear c12b0
                        try clear c12b1
                        try clear c13
                        try clear p13
                        try clear q13
                        try clear hx13
                        try clear qi13
                        try clear c14
                        try clear c14b0
                        try clear c14b1
                        try clear c15
                        try clear c15b0
                        try clear c15b1
                        try clear c16
                        try clear c19
                        try clear c19b0
                        try clear hcz17_0
                        try clear hcz17_1
                        try clear hfz17_0
                        try clear hfz17_1
                        try clear p1
                        try clear p13
                        try clear p2
                        try clear p6
                        try clear q1
                        try clear q13
                        try clear q6
                        obtain ⟨x7_5, x45_5, x195000_5, x195001_5, rfl, rfl, HA, HK5, BK193, BK194, HB⟩ := hrel
                        cases gk with
                        | zero => exact absurd HA.out (by simp [wide_Parse.l1])
                        | succ k5 =>
                          have H := HA.out
                          clear HA
                          simp only [wide_Parse.l1] at H
                          by_cases c20 : x45_5 < 10
                          · rw [if_pos c20] at H
                            have c20b0 : decide (x45_5 < 10) = true := decide_eq_true c20
                            clear c20
                            by_cases c21 : 0 ≤ x42_4
                            · rw [if_pos c21] at H
                              have c21b0 : decide (0 ≤ x42_4) = true := decide_eq_true c21
                              clear c21
                              by_cases c22 : x42_4 < (x5_6.size : Int)
                              · rw [if_pos c22] at H
                                have c22b0 : decide (x42_4 < (x5_6.size : Int)) = true := decide_eq_true c22
                                clear c22
                                by_cases c24 : 0 ≤ x45_5
                                · rw [if_pos c24] at H
                                  have c24b0 : decide (0 ≤ x45_5) = true := decide_eq_true c24
                                  clear c24
                                  by_cases c26 : (bt x5_6 x42_4) = (bt (⟨#[48, 49, 50, 51, 52, 53, 54, 55, 56, 57]⟩ : ByteArray) x45_5)
                                  · rw [if_pos c26] at H
                                    have c26b0 : ((bt x5_6 x42_4) == (bt (⟨#[48, 49, 50, 51, 52, 53, 54, 55, 56, 57]⟩ : ByteArray) x45_5)) = true := beq_iff_eq.mpr c26
                                    have c26b1 : ((bt x5_6 x42_4) != (bt (⟨#[48, 49, 50, 51, 52, 53, 54, 55, 56, 57]⟩ : ByteArray) x45_5)) = false := bne_eq_false_iff_eq.mpr c26
                                    clear c26
                                    replace H := Option.bind_eq_some_iff.mp H
                                    obtain ⟨⟨t198, t199, t200⟩, A270, H⟩ := H
                                    replace H : (if x7_5 = true then (wide_Parse.l0 k5 x4_1 x5_6 t200 (x5_6.size : Int) (wrap64 (x42_4 + 1)) t198 t199) else (wide_Parse.l0 k5 x4_1 x5_6 false (x5_6.size : Int) (wrap64 (x42_4 + 1)) t198 t199)) = some (r1, r2, r3) := H
                                    have A27 := Aside0.mk A270
                                    clear A270
                                    by_cases c28 : x7_5 = true
                                    · subst c28
                                      have H1 : (wide_Parse.l0 k5 x4_1 x5_6 t200 (x5_6.size : Int) (wrap64 (x42_4 + 1)) t198 t199) = some (r1, r2, r3) := by rw [if_pos rfl] at H; exact H
                                      clear H
                                      have H := H1
                                      clear H1
                                      have H' := Aside0.mk H
                                      clear H
                                      have p23 : 0 ≤ (x42_4 : Int) := of_decide_eq_true (by first | (with_reducible assumption) | assumption)
                                      have q23 : x42_4 < (x5_6.size : Int) := of_decide_eq_true (by first | (with_reducible assumption) | assumption)
                                      have hx23 := bt_at x5_6 x42_4
                                      replace p23 := eq_true p23
                                      replace q23 := eq_true q23
                                      have p25 : 0 ≤ (x45_5 : Int) := of_decide_eq_true (by first | (with_reducible assumption) | assumption)
                                      have q25 : x45_5 < (10 : Int) := of_decide_eq_true (by first | (with_reducible assumption) | assumption)
                                      have hx25 := bt_at (⟨#[48, 49, 50, 51, 52, 53, 54, 55, 56, 57]⟩ : ByteArray) x45_5
                                      replace p25 := eq_true p25
                                      replace q25 := eq_true q25
                                      have hnb29 := NB194_193.out
                                      have hnc29 := NB193_194.out
                                      have hcz30_0 : wr.cell? ⟨gb194, 0, none⟩ = some (.int .u64 x195000_5) := (blk_cell BK194.out 0).trans rfl
                                      have hcz30_1 : wr.cell? ⟨gb194, 1, none⟩ = some (.int .u64 x195001_5) := (blk_cell BK194.out 1).trans rfl
                                      have hfz30_0 := blk_frozen BK194.out 0
                                      have hfz30_1 := blk_frozen BK194.out 1
                                      go_wp2_with (first | (go_at_call 33; (with_reducible refine (wide_size_times.calls x195000_5 x195001_5 10 (IntKind.u64.wrap (x45_5)) t198 t199 t200 _ A27.out).mono ?_); rintro e w31 ⟨rfl, hb⟩; replace BK193 := Aside0.mk (bK BK193 hb); replace BK194 := Aside0.mk (bK BK194 hb); replace HB := Aside0.mk (bS hb); (try clear hb); (try clear hb2); (try clear hk); (try clear hi)) | ((with_reducible refine gate_dst (N := 10) rfl ?_); refine box_event ?hg (N := 10) ?hd (cs := #[.int .u64 0, .int .u64 0]) (t := 45) ?hr ?_; (case hd => rfl); (case hg => rfl); (case hr => first | (go_simp; done) | (go_simp; rfl)); intro gb201 hg w32 hbox hb; have nn_ := bT hb hg; have bgb193_ := bN BK193 hb hg; have bgb194_ := bN BK194 hb hg; have BK201 := Aside0.mk (hbox); have GW201 := Aside0.mk nn_.2; have GE201 := GW201; have NB193_201 := Aside0.mk bgb193_.2.1; have NB201_193 := Aside0.mk bgb193_.2.2; have NB194_201 := Aside0.mk bgb194_.2.1; have NB201_194 := Aside0.mk bgb194_.2.2; replace BK193 := Aside0.mk bgb193_.1; replace BK194 := Aside0.mk bgb194_.1; replace HB := Aside0.mk nn_.1; clear nn_ bgb193_ bgb194_; clear hb hbox hg; have hnb33 := NB201_193.out; have hnc33 := NB193_201.out; have hnb34 := NB201_194.out; have hnc34 := NB194_201.out; have hcz35_0 : w32.cell? ⟨gb201, 0, none⟩ = some (.int .u64 0) := (blk_cell BK201.out 0).trans rfl; have hcz35_1 : w32.cell? ⟨gb201, 1, none⟩ = some (.int .u64 0) := (blk_cell BK201.out 1).trans rfl; have hfz35_0 := blk_frozen BK201.out 0; have hfz35_1 := blk_frozen BK201.out 1; have hcz36_0 : w32.cell? ⟨gb194, 0, none⟩ = some (.int .u64 x195000_5) := (blk_cell BK194.out 0).trans rfl; have hcz36_1 : w32.cell? ⟨gb194, 1, none⟩ = some (.int .u64 x195001_5) := (blk_cell BK194.out 1).trans rfl; have hfz36_0 := blk_frozen BK194.out 0; have hfz36_1 := blk_frozen BK194.out 1))
                                      (try (go_step3; go_wp2_with (first | (go_at_call 33; (with_reducible refine (wide_size_times.calls x195000_5 x195001_5 10 (IntKind.u64.wrap (x45_5)) t198 t199 t200 _ A27.out).mono ?_); rintro e w31 ⟨rfl, hb⟩; replace BK193 := Aside0.mk (bK BK193 hb); replace BK194 := Aside0.mk (bK BK194 hb); replace HB := Aside0.mk (bS hb); (try clear hb); (try clear hb2); (try clear hk); (try clear hi)) | ((with_reducible refine gate_dst (N := 10) rfl ?_); refine box_event ?hg (N := 10) ?hd (cs := #[.int .u64 0, .int .u64 0]) (t := 45) ?hr ?_; (case hd => rfl); (case hg => rfl); (case hr => first | (go_simp; done) | (go_simp; rfl)); intro gb201 hg w32 hbox hb; have nn_ := bT hb hg; have bgb193_ := bN BK193 hb hg; have bgb194_ := bN BK194 hb hg; have BK201 := Aside0.mk (hbox); have GW201 := Aside0.mk nn_.2; have GE201 := GW201; have NB193_201 := Aside0.mk bgb193_.2.1; have NB201_193 := Aside0.mk bgb193_.2.2; have NB194_201 := Aside0.mk bgb194_.2.1; have NB201_194 := Aside0.mk bgb194_.2.2; replace BK193 := Aside0.mk bgb193_.1; replace BK194 := Aside0.mk bgb194_.1; replace HB := Aside0.mk nn_.1; clear nn_ bgb193_ bgb194_; clear hb hbox hg; have hnb33 := NB201_193.out; have hnc33 := NB193_201.out; have hnb34 := NB201_194.out; have hnc34 := NB194_201.out; have hcz35_0 : w32.cell? ⟨gb201, 0, none⟩ = some (.int .u64 0) := (blk_cell BK201.out 0).trans rfl; have hcz35_1 : w32.cell? ⟨gb201, 1, none⟩ = some (.int .u64 0) := (blk_cell BK201.out 1).trans rfl; have hfz35_0 := blk_frozen BK201.out 0; have hfz35_1 := blk_frozen BK201.out 1; have hcz36_0 : w32.cell? ⟨gb194, 0, none⟩ = some (.int .u64 x195000_5) := (blk_cell BK194.out 0).trans rfl; have hcz36_1 : w32.cell? ⟨gb194, 1, none⟩ = some (.int .u64 x195001_5) := (blk_cell BK194.out 1).trans rfl; have hfz36_0 := blk_frozen BK194.out 0; have hfz36_1 := blk_frozen BK194.out 1))))
                                      (try (go_step3; go_wp2_with (first | (go_at_call 33; (with_reducible refine (wide_size_times.calls x195000_5 x195001_5 10 (IntKind.u64.wrap (x45_5)) t198 t199 t200 _ A27.out).mono ?_); rintro e w31 ⟨rfl, hb⟩; replace BK193 := Aside0.mk (bK BK193 hb); replace BK194 := Aside0.mk (bK BK194 hb); replace HB := Aside0.mk (bS hb); (try clear hb); (try clear hb2); (try clear hk); (try clear hi)) | ((with_reducible refine gate_dst (N := 10) rfl ?_); refine box_event ?hg (N := 10) ?hd (cs := #[.int .u64 0, .int .u64 0]) (t := 45) ?hr ?_; (case hd => rfl); (case hg => rfl); (case hr => first | (go_simp; done) | (go_simp; rfl)); intro gb201 hg w32 hbox hb; have nn_ := bT hb hg; have bgb193_ := bN BK193 hb hg; have bgb194_ := bN BK194 hb hg; have BK201 := Aside0.mk (hbox); have GW201 := Aside0.mk nn_.2; have GE201 := GW201; have NB193_201 := Aside0.mk bgb193_.2.1; have NB201_193 := Aside0.mk bgb193_.2.2; have NB194_201 := Aside0.mk bgb194_.2.1; have NB201_194 := Aside0.mk bgb194_.2.2; replace BK193 := Aside0.mk bgb193_.1; replace BK194 := Aside0.mk bgb194_.1; replace HB := Aside0.mk nn_.1; clear nn_ bgb193_ bgb194_; clear hb hbox hg; have hnb33 := NB201_193.out; have hnc33 := NB193_201.out; have hnb34 := NB201_194.out; have hnc34 := NB194_201.out; have hcz35_0 : w32.cell? ⟨gb201, 0, none⟩ = some (.int .u64 0) := (blk_cell BK201.out 0).trans rfl; have hcz35_1 : w32.cell? ⟨gb201, 1, none⟩ = some (.int .u64 0) := (blk_cell BK201.out 1).trans rfl; have hfz35_0 := blk_frozen BK201.out 0; have hfz35_1 := blk_frozen BK201.out 1; have hcz36_0 : w32.cell? ⟨gb194, 0, none⟩ = some (.int .u64 x195000_5) := (blk_cell BK194.out 0).trans rfl; have hcz36_1 : w32.cell? ⟨gb194, 1, none⟩ = some (.int .u64 x195001_5) := (blk_cell BK194.out 1).trans rfl; have hfz36_0 := blk_frozen BK194.out 0; have hfz36_1 := blk_frozen BK194.out 1))))
                                      repeat (go_quiet (first | (go_at_call 33; (with_reducible refine (wide_size_times.calls x195000_5 x195001_5 10 (IntKind.u64.wrap (x45_5)) t198 t199 t200 _ A27.out).mono ?_); rintro e w31 ⟨rfl, hb⟩; replace BK193 := Aside0.mk (bK BK193 hb); replace BK194 := Aside0.mk (bK BK194 hb); replace HB := Aside0.mk (bS hb); (try clear hb); (try clear hb2); (try clear hk); (try clear hi)) | ((with_reducible refine gate_dst (N := 10) rfl ?_); refine box_event ?hg (N := 10) ?hd (cs := #[.int .u64 0, .int .u64 0]) (t := 45) ?hr ?_; (case hd => rfl); (case hg => rfl); (case hr => first | (go_simp; done) | (go_simp; rfl)); intro gb201 hg w32 hbox hb; have nn_ := bT hb hg; have bgb193_ := bN BK193 hb hg; have bgb194_ := bN BK194 hb hg; have BK201 := Aside0.mk (hbox); have GW201 := Aside0.mk nn_.2; have GE201 := GW201; have NB193_201 := Aside0.mk bgb193_.2.1; have NB201_193 := Aside0.mk bgb193_.2.2; have NB194_201 := Aside0.mk bgb194_.2.1; have NB201_194 := Aside0.mk bgb194_.2.2; replace BK193 := Aside0.mk bgb193_.1; replace BK194 := Aside0.mk bgb194_.1; replace HB := Aside0.mk nn_.1; clear nn_ bgb193_ bgb194_; clear hb hbox hg; have hnb33 := NB201_193.out; have hnc33 := NB193_201.out; have hnb34 := NB201_194.out; have hnc34 := NB194_201.out; have hcz35_0 : w32.cell? ⟨gb201, 0, none⟩ = some (.int .u64 0) := (blk_cell BK201.out 0).trans rfl; have hcz35_1 : w32.cell? ⟨gb201, 1, none⟩ = some (.int .u64 0) := (blk_cell BK201.out 1).trans rfl; have hfz35_0 := blk_frozen BK201.out 0; have hfz35_1 := blk_frozen BK201.out 1; have hcz36_0 : w32.cell? ⟨gb194, 0, none⟩ = some (.int .u64 x195000_5) := (blk_cell BK194.out 0).trans rfl; have hcz36_1 : w32.cell? ⟨gb194, 1, none⟩ = some (.int .u64 x195001_5) := (blk_cell BK194.out 1).trans rfl; have hfz36_0 := blk_frozen BK194.out 0; have hfz36_1 := blk_frozen BK194.out 1)); try go_wp2_with (first | (go_at_call 33; (with_reducible refine (wide_size_times.calls x195000_5 x195001_5 10 (IntKind.u64.wrap (x45_5)) t198 t199 t200 _ A27.out).mono ?_); rintro e w31 ⟨rfl, hb⟩; replace BK193 := Aside0.mk (bK BK193 hb); replace BK194 := Aside0.mk (bK BK194 hb); replace HB := Aside0.mk (bS hb); (try clear hb); (try clear hb2); (try clear hk); (try clear hi)) | ((with_reducible refine gate_dst (N := 10) rfl ?_); refine box_event ?hg (N := 10) ?hd (cs := #[.int .u64 0, .int .u64 0]) (t := 45) ?hr ?_; (case hd => rfl); (case hg => rfl); (case hr => first | (go_simp; done) | (go_simp; rfl)); intro gb201 hg w32 hbox hb; have nn_ := bT hb hg; have bgb193_ := bN BK193 hb hg; have bgb194_ := bN BK194 hb hg; have BK201 := Aside0.mk (hbox); have GW201 := Aside0.mk nn_.2; have GE201 := GW201; have NB193_201 := Aside0.mk bgb193_.2.1; have NB201_193 := Aside0.mk bgb193_.2.2; have NB194_201 := Aside0.mk bgb194_.2.1; have NB201_194 := Aside0.mk bgb194_.2.2; replace BK193 := Aside0.mk bgb193_.1; replace BK194 := Aside0.mk bgb194_.1; replace HB := Aside0.mk nn_.1; clear nn_ bgb193_ bgb194_; clear hb hbox hg; have hnb33 := NB201_193.out; have hnc33 := NB193_201.out; have hnb34 := NB201_194.out; have hnc34 := NB194_201.out; have hcz35_0 : w32.cell? ⟨gb201, 0, none⟩ = some (.int .u64 0) := (blk_cell BK201.out 0).trans rfl; have hcz35_1 : w32.cell? ⟨gb201, 1, none⟩ = some (.int .u64 0) := (blk_cell BK201.out 1).trans rfl; have hfz35_0 := blk_frozen BK201.out 0; have hfz35_1 := blk_frozen BK201.out 1; have hcz36_0 : w32.cell? ⟨gb194, 0, none⟩ = some (.int .u64 x195000_5) := (blk_cell BK194.out 0).trans rfl; have hcz36_1 : w32.cell? ⟨gb194, 1, none⟩ = some (.int .u64 x195001_5) := (blk_cell BK194.out 1).trans rfl; have hfz36_0 := blk_frozen BK194.out 0; have hfz36_1 := blk_frozen BK194.out 1)))
                                      go_roundg k5
                                      case measure => have := HJ1.out; have := HJ6.out; have := HJ9.out; have := HK4.out; have := HK5.out; omega
                                      case rel => exact ⟨(t200), (wrap64 (x42_4 + 1)), (x194000_4), (x194001_4), (t198), (t199), (by first | rfl | (simp; done) | (simp [*]; done)), (by first | rfl | (simp; done) | (simp [*]; done)), H', ⟨by have := HJ1.out; have := HJ6.out; have := HJ9.out; have := HK4.out; have := HK5.out; omega⟩, ⟨by (with_reducible repeat (first | refine blk_drewN ?_ _ | refine blk_drew ?_ | refine blk_alloc ?_ _)); refine blk_far ?_ NB193_194.out _; (with_reducible repeat (first | refine blk_drewN ?_ _ | refine blk_drew ?_ | refine blk_alloc ?_ _)); refine blk_far ?_ NB193_194.out _; (with_reducible repeat (first | refine blk_drewN ?_ _ | refine blk_drew ?_ | refine blk_alloc ?_ _)); refine blk_far ?_ NB193_201.out _; (with_reducible repeat (first | refine blk_drewN ?_ _ | refine blk_drew ?_ | refine blk_alloc ?_ _)); refine blk_far ?_ NB193_201.out _; (with_reducible repeat (first | refine blk_drewN ?_ _ | refine blk_drew ?_ | refine blk_alloc ?_ _)); exact BK193.out⟩, ⟨by (with_reducible repeat (first | refine blk_drewN ?_ _ | refine blk_drew ?_ | refine blk_alloc ?_ _)); refine blk_put (cs := #[.int .u64 t198, .int .u64 x195001_5]) ?_ 1 _ rfl; (with_reducible repeat (first | refine blk_drewN ?_ _ | refine blk_drew ?_ | refine blk_alloc ?_ _)); refine blk_put (cs := #[.int .u64 x195000_5, .int .u64 x195001_5]) ?_ 0 _ rfl; (with_reducible repeat (first | refine blk_drewN ?_ _ | refine blk_drew ?_ | refine blk_alloc ?_ _)); refine blk_far ?_ NB194_201.out _; (with_reducible repeat (first | refine blk_drewN ?_ _ | refine blk_drew ?_ | refine blk_alloc ?_ _)); refine blk_far ?_ NB194_201.out _; (with_reducible repeat (first | refine blk_drewN ?_ _ | refine blk_drew ?_ | refine blk_alloc ?_ _)); exact BK194.out⟩, ⟨bE⟩⟩
                                    · replace c28 := Bool.eq_false_iff.mpr c28
                                      subst c28
                                      have H1 : (wide_Parse.l0 k5 x4_1 x5_6 false (x5_6.size : Int) (wrap64 (x42_4 + 1)) t198 t199) = some (r1, r2, r3) := by rw [if_neg (show ¬ (false = true) by decide)] at H; exact H
                                      clear H
                                      have H := H1
                                      clear H1
                                      have H' := Aside0.mk H
                                      clear H
                                      have p23 : 0 ≤ (x42_4 : Int) := of_decide_eq_true (by first | (with_reducible assumption) | assumption)
                                      have q23 : x42_4 < (x5_6.size : Int) := of_decide_eq_true (by first | (with_reducible assumption) | assumption)
                                      have hx23 := bt_at x5_6 x42_4
                                      replace p23 := eq_true p23
                                      replace q23 := eq_true q23
                                      have p25 : 0 ≤ (x45_5 : Int) := of_decide_eq_true (by first | (with_reducible assumption) | assumption)
                                      have q25 : x45_5 < (10 : Int) := of_decide_eq_true (by first | (with_reducible assumption) | assumption)
                                      have hx25 := bt_at (⟨#[48, 49, 50, 51, 52, 53, 54, 55, 56, 57]⟩ : ByteArray) x45_5
                                      replace p25 := eq_true p25
                                      replace q25 := eq_true q25
                                      have hnb37 := NB194_193.out
                                      have hnc37 := NB193_194.out
                                      have hcz38_0 : wr.cell? ⟨gb194, 0, none⟩ = some (.int .u64 x195000_5) := (blk_cell BK194.out 0).trans rfl
                                      have hcz38_1 : wr.cell? ⟨gb194, 1, none⟩ = some (.int .u64 x195001_5) := (blk_cell BK194.out 1).trans rfl
                                      have hfz38_0 := blk_frozen BK194.out 0
                                      have hfz38_1 := blk_frozen BK194.out 1
                                      go_wp2_with (first | (go_at_call 33; (with_reducible refine (wide_size_times.calls x195000_5 x195001_5 10 (IntKind.u64.wrap (x45_5)) t198 t199 t200 _ A27.out).mono ?_); rintro e w39 ⟨rfl, hb⟩; replace BK193 := Aside0.mk (bK BK193 hb); replace BK194 := Aside0.mk (bK BK194 hb); replace HB := Aside0.mk (bS hb); (try clear hb); (try clear hb2); (try clear hk); (try clear hi)) | ((with_reducible refine gate_dst (N := 10) rfl ?_); refine box_event ?hg (N := 10) ?hd (cs := #[.int .u64 0, .int .u64 0]) (t := 45) ?hr ?_; (case hd => rfl); (case hg => rfl); (case hr => first | (go_simp; done) | (go_simp; rfl)); intro gb201 hg w40 hbox hb; have nn_ := bT hb hg; have bgb193_ := bN BK193 hb hg; have bgb194_ := bN BK194 hb hg; have BK201 := Aside0.mk (hbox); have GW201 := Aside0.mk nn_.2; have GE201 := GW201; have NB193_201 := Aside0.mk bgb193_.2.1; have NB201_193 := Aside0.mk bgb193_.2.2; have NB194_201 := Aside0.mk bgb194_.2.1; have NB201_194 := Aside0.mk bgb194_.2.2; replace BK193 := Aside0.mk bgb193_.1; replace BK194 := Aside0.mk bgb194_.1; replace HB := Aside0.mk nn_.1; clear nn_ bgb193_ bgb194_; clear hb hbox hg; have hnb41 := NB201_193.out; have hnc41 := NB193_201.out; have hnb42 := NB201_194.out; have hnc42 := NB194_201.out; have hcz43_0 : w40.cell? ⟨gb201, 0, none⟩ = some (.int .u64 0) := (blk_cell BK201.out 0).trans rfl; have hcz43_1 : w40.cell? ⟨gb201, 1, none⟩ = some (.int .u64 0) := (blk_cell BK201.out 1).trans rfl; have hfz43_0 := blk_frozen BK201.out 0; have hfz43_1 := blk_frozen BK201.out 1; have hcz44_0 : w40.cell? ⟨gb194, 0, none⟩ = some (.int .u64 x195000_5) := (blk_cell BK194.out 0).trans rfl; have hcz44_1 : w40.cell? ⟨gb194, 1, none⟩ = some (.int .u64 x195001_5) := (blk_cell BK194.out 1).trans rfl; have hfz44_0 := blk_frozen BK194.out 0; have hfz44_1 := blk_frozen BK194.out 1))
                                      (try (go_step3; go_wp2_with (first | (go_at_call 33; (with_reducible refine (wide_size_times.calls x195000_5 x195001_5 10 (IntKind.u64.wrap (x45_5)) t198 t199 t200 _ A27.out).mono ?_); rintro e w39 ⟨rfl, hb⟩; replace BK193 := Aside0.mk (bK BK193 hb); replace BK194 := Aside0.mk (bK BK194 hb); replace HB := Aside0.mk (bS hb); (try clear hb); (try clear hb2); (try clear hk); (try clear hi)) | ((with_reducible refine gate_dst (N := 10) rfl ?_); refine box_event ?hg (N := 10) ?hd (cs := #[.int .u64 0, .int .u64 0]) (t := 45) ?hr ?_; (case hd => rfl); (case hg => rfl); (case hr => first | (go_simp; done) | (go_simp; rfl)); intro gb201 hg w40 hbox hb; have nn_ := bT hb hg; have bgb193_ := bN BK193 hb hg; have bgb194_ := bN BK194 hb hg; have BK201 := Aside0.mk (hbox); have GW201 := Aside0.mk nn_.2; have GE201 := GW201; have NB193_201 := Aside0.mk bgb193_.2.1; have NB201_193 := Aside0.mk bgb193_.2.2; have NB194_201 := Aside0.mk bgb194_.2.1; have NB201_194 := Aside0.mk bgb194_.2.2; replace BK193 := Aside0.mk bgb193_.1; replace BK194 := Aside0.mk bgb194_.1; replace HB := Aside0.mk nn_.1; clear nn_ bgb193_ bgb194_; clear hb hbox hg; have hnb41 := NB201_193.out; have hnc41 := NB193_201.out; have hnb42 := NB201_194.out; have hnc42 := NB194_201.out; have hcz43_0 : w40.cell? ⟨gb201, 0, none⟩ = some (.int .u64 0) := (blk_cell BK201.out 0).trans rfl; have hcz43_1 : w40.cell? ⟨gb201, 1, none⟩ = some (.int .u64 0) := (blk_cell BK201.out 1).trans rfl; have hfz43_0 := blk_frozen BK201.out 0; have hfz43_1 := blk_frozen BK201.out 1; have hcz44_0 : w40.cell? ⟨gb194, 0, none⟩ = some (.int .u64 x195000_5) := (blk_cell BK194.out 0).trans rfl; have hcz44_1 : w40.cell? ⟨gb194, 1, none⟩ = some (.int .u64 x195001_5) := (blk_cell BK194.out 1).trans rfl; have hfz44_0 := blk_frozen BK194.out 0; have hfz44_1 := blk_frozen BK194.out 1))))
                                      (try (go_step3; go_wp2_with (first | (go_at_call 33; (with_reducible refine (wide_size_times.calls x195000_5 x195001_5 10 (IntKind.u64.wrap (x45_5)) t198 t199 t200 _ A27.out).mono ?_); rintro e w39 ⟨rfl, hb⟩; replace BK193 := Aside0.mk (bK BK193 hb); replace BK194 := Aside0.mk (bK BK194 hb); replace HB := Aside0.mk (bS hb); (try clear hb); (try clear hb2); (try clear hk); (try clear hi)) | ((with_reducible refine gate_dst (N := 10) rfl ?_); refine box_event ?hg (N := 10) ?hd (cs := #[.int .u64 0, .int .u64 0]) (t := 45) ?hr ?_; (case hd => rfl); (case hg => rfl); (case hr => first | (go_simp; done) | (go_simp; rfl)); intro gb201 hg w40 hbox hb; have nn_ := bT hb hg; have bgb193_ := bN BK193 hb hg; have bgb194_ := bN BK194 hb hg; have BK201 := Aside0.mk (hbox); have GW201 := Aside0.mk nn_.2; have GE201 := GW201; have NB193_201 := Aside0.mk bgb193_.2.1; have NB201_193 := Aside0.mk bgb193_.2.2; have NB194_201 := Aside0.mk bgb194_.2.1; have NB201_194 := Aside0.mk bgb194_.2.2; replace BK193 := Aside0.mk bgb193_.1; replace BK194 := Aside0.mk bgb194_.1; replace HB := Aside0.mk nn_.1; clear nn_ bgb193_ bgb194_; clear hb hbox hg; have hnb41 := NB201_193.out; have hnc41 := NB193_201.out; have hnb42 := NB201_194.out; have hnc42 := NB194_201.out; have hcz43_0 : w40.cell? ⟨gb201, 0, none⟩ = some (.int .u64 0) := (blk_cell BK201.out 0).trans rfl; have hcz43_1 : w40.cell? ⟨gb201, 1, none⟩ = some (.int .u64 0) := (blk_cell BK201.out 1).trans rfl; have hfz43_0 := blk_frozen BK201.out 0; have hfz43_1 := blk_frozen BK201.out 1; have hcz44_0 : w40.cell? ⟨gb194, 0, none⟩ = some (.int .u64 x195000_5) := (blk_cell BK194.out 0).trans rfl; have hcz44_1 : w40.cell? ⟨gb194, 1, none⟩ = some (.int .u64 x195001_5) := (blk_cell BK194.out 1).trans rfl; have hfz44_0 := blk_frozen BK194.out 0; have hfz44_1 := blk_frozen BK194.out 1))))
                                      repeat (go_quiet (first | (go_at_call 33; (with_reducible refine (wide_size_times.calls x195000_5 x195001_5 10 (IntKind.u64.wrap (x45_5)) t198 t199 t200 _ A27.out).mono ?_); rintro e w39 ⟨rfl, hb⟩; replace BK193 := Aside0.mk (bK BK193 hb); replace BK194 := Aside0.mk (bK BK194 hb); replace HB := Aside0.mk (bS hb); (try clear hb); (try clear hb2); (try clear hk); (try clear hi)) | ((with_reducible refine gate_dst (N := 10) rfl ?_); refine box_event ?hg (N := 10) ?hd (cs := #[.int .u64 0, .int .u64 0]) (t := 45) ?hr ?_; (case hd => rfl); (case hg => rfl); (case hr => first | (go_simp; done) | (go_simp; rfl)); intro gb201 hg w40 hbox hb; have nn_ := bT hb hg; have bgb193_ := bN BK193 hb hg; have bgb194_ := bN BK194 hb hg; have BK201 := Aside0.mk (hbox); have GW201 := Aside0.mk nn_.2; have GE201 := GW201; have NB193_201 := Aside0.mk bgb193_.2.1; have NB201_193 := Aside0.mk bgb193_.2.2; have NB194_201 := Aside0.mk bgb194_.2.1; have NB201_194 := Aside0.mk bgb194_.2.2; replace BK193 := Aside0.mk bgb193_.1; replace BK194 := Aside0.mk bgb194_.1; replace HB := Aside0.mk nn_.1; clear nn_ bgb193_ bgb194_; clear hb hbox hg; have hnb41 := NB201_193.out; have hnc41 := NB193_201.out; have hnb42 := NB201_194.out; have hnc42 := NB194_201.out; have hcz43_0 : w40.cell? ⟨gb201, 0, none⟩ = some (.int .u64 0) := (blk_cell BK201.out 0).trans rfl; have hcz43_1 : w40.cell? ⟨gb201, 1, none⟩ = some (.int .u64 0) := (blk_cell BK201.out 1).trans rfl; have hfz43_0 := blk_frozen BK201.out 0; have hfz43_1 := blk_frozen BK201.out 1; have hcz44_0 : w40.cell? ⟨gb194, 0, none⟩ = some (.int .u64 x195000_5) := (blk_cell BK194.out 0).trans rfl; have hcz44_1 : w40.cell? ⟨gb194, 1, none⟩ = some (.int .u64 x195001_5) := (blk_cell BK194.out 1).trans rfl; have hfz44_0 := blk_frozen BK194.out 0; have hfz44_1 := blk_frozen BK194.out 1)); try go_wp2_with (first | (go_at_call 33; (with_reducible refine (wide_size_times.calls x195000_5 x195001_5 10 (IntKind.u64.wrap (x45_5)) t198 t199 t200 _ A27.out).mono ?_); rintro e w39 ⟨rfl, hb⟩; replace BK193 := Aside0.mk (bK BK193 hb); replace BK194 := Aside0.mk (bK BK194 hb); replace HB := Aside0.mk (bS hb); (try clear hb); (try clear hb2); (try clear hk); (try clear hi)) | ((with_reducible refine gate_dst (N := 10) rfl ?_); refine box_event ?hg (N := 10) ?hd (cs := #[.int .u64 0, .int .u64 0]) (t := 45) ?hr ?_; (case hd => rfl); (case hg => rfl); (case hr => first | (go_simp; done) | (go_simp; rfl)); intro gb201 hg w40 hbox hb; have nn_ := bT hb hg; have bgb193_ := bN BK193 hb hg; have bgb194_ := bN BK194 hb hg; have BK201 := Aside0.mk (hbox); have GW201 := Aside0.mk nn_.2; have GE201 := GW201; have NB193_201 := Aside0.mk bgb193_.2.1; have NB201_193 := Aside0.mk bgb193_.2.2; have NB194_201 := Aside0.mk bgb194_.2.1; have NB201_194 := Aside0.mk bgb194_.2.2; replace BK193 := Aside0.mk bgb193_.1; replace BK194 := Aside0.mk bgb194_.1; replace HB := Aside0.mk nn_.1; clear nn_ bgb193_ bgb194_; clear hb hbox hg; have hnb41 := NB201_193.out; have hnc41 := NB193_201.out; have hnb42 := NB201_194.out; have hnc42 := NB194_201.out; have hcz43_0 : w40.cell? ⟨gb201, 0, none⟩ = some (.int .u64 0) := (blk_cell BK201.out 0).trans rfl; have hcz43_1 : w40.cell? ⟨gb201, 1, none⟩ = some (.int .u64 0) := (blk_cell BK201.out 1).trans rfl; have hfz43_0 := blk_frozen BK201.out 0; have hfz43_1 := blk_frozen BK201.out 1; have hcz44_0 : w40.cell? ⟨gb194, 0, none⟩ = some (.int .u64 x195000_5) := (blk_cell BK194.out 0).trans rfl; have hcz44_1 : w40.cell? ⟨gb194, 1, none⟩ = some (.int .u64 x195001_5) := (blk_cell BK194.out 1).trans rfl; have hfz44_0 := blk_frozen BK194.out 0; have hfz44_1 := blk_frozen BK194.out 1)))
                                      go_roundg k5
                                      case measure => have := HJ1.out; have := HJ6.out; have := HJ9.out; have := HK4.out; have := HK5.out; omega
                                      case rel => exact ⟨(false), (wrap64 (x42_4 + 1)), (x194000_4), (x194001_4), (t198), (t199), (by first | rfl | (simp; done) | (simp [*]; done)), (by first | rfl | (simp; done) | (simp [*]; done)), H', ⟨by have := HJ1.out; have := HJ6.out; have := HJ9.out; have := HK4.out; have := HK5.out; omega⟩, ⟨by (with_reducible repeat (first | refine blk_drewN ?_ _ | refine blk_drew ?_ | refine blk_alloc ?_ _)); refine blk_far ?_ NB193_194.out _; (with_reducible repeat (first | refine blk_drewN ?_ _ | refine blk_drew ?_ | refine blk_alloc ?_ _)); refine blk_far ?_ NB193_194.out _; (with_reducible repeat (first | refine blk_drewN ?_ _ | refine blk_drew ?_ | refine blk_alloc ?_ _)); refine blk_far ?_ NB193_201.out _; (with_reducible repeat (first | refine blk_drewN ?_ _ | refine blk_drew ?_ | refine blk_alloc ?_ _)); refine blk_far ?_ NB193_201.out _; (with_reducible repeat (first | refine blk_drewN ?_ _ | refine blk_drew ?_ | refine blk_alloc ?_ _)); exact BK193.out⟩, ⟨by (with_reducible repeat (first | refine blk_drewN ?_ _ | refine blk_drew ?_ | refine blk_alloc ?_ _)); refine blk_put (cs := #[.int .u64 t198, .int .u64 x195001_5]) ?_ 1 _ rfl; (with_reducible repeat (first | refine blk_drewN ?_ _ | refine blk_drew ?_ | refine blk_alloc ?_ _)); refine blk_put (cs := #[.int .u64 x195000_5, .int .u64 x195001_5]) ?_ 0 _ rfl; (with_reducible repeat (first | refine blk_drewN ?_ _ | refine blk_drew ?_ | refine blk_alloc ?_ _)); refine blk_far ?_ NB194_201.out _; (with_reducible repeat (first | refine blk_drewN ?_ _ | refine blk_drew ?_ | refine blk_alloc ?_ _)); refine blk_far ?_ NB194_201.out _; (with_reducible repeat (first | refine blk_drewN ?_ _ | refine blk_drew ?_ | refine blk_alloc ?_ _)); exact BK194.out⟩, ⟨bE⟩⟩
                                  · rw [if_neg c26] at H
                                    have c26b0 : ((bt x5_6 x42_4) == (bt (⟨#[48, 49, 50, 51, 52, 53, 54, 55, 56, 57]⟩ : ByteArray) x45_5)) = false := beq_eq_false_iff_ne.mpr c26
                                    have c26b1 : ((bt x5_6 x42_4) != (bt (⟨#[48, 49, 50, 51, 52, 53, 54, 55, 56, 57]⟩ : ByteArray) x45_5)) = true := bne_iff_ne.mpr c26
                                    have H' := Aside0.mk H
                                    clear H
                                    have p23 : 0 ≤ (x42_4 : Int) := of_decide_eq_true (by first | (with_reducible assumption) | assumption)
                                    have q23 : x42_4 < (x5_6.size : Int) := of_decide_eq_true (by first | (with_reducible assumption) | assumption)
                                    have hx23 := bt_at x5_6 x42_4
                                    replace p23 := eq_true p23
                                    replace q23 := eq_true q23
                                    have p25 : 0 ≤ (x45_5 : Int) := of_decide_eq_true (by first | (with_reducible assumption) | assumption)
                                    have q25 : x45_5 < (10 : Int) := of_decide_eq_true (by first | (with_reducible assumption) | assumption)
                                    have hx25 := bt_at (⟨#[48, 49, 50, 51, 52, 53, 54, 55, 56, 57]⟩ : ByteArray) x45_5
                                    replace p25 := eq_true p25
                                    replace q25 := eq_true q25
                                    go_wp2
                                    repeat (go_quiet (fail); try go_wp2)
                                    go_roundg k5
                                    case measure => have := HJ1.out; have := HJ6.out; have := HJ9.out; have := HK4.out; have := HK5.out; omega
                                    case rel => exact ⟨(x7_5), (wrap64 (x45_5 + 1)), (x195000_5), (x195001_5), (by first | rfl | (simp; done) | (simp [*]; done)), (by first | rfl | (simp; done) | (simp [*]; done)), H', ⟨by have := HJ1.out; have := HJ6.out; have := HJ9.out; have := HK4.out; have := HK5.out; omega⟩, ⟨by (with_reducible repeat (first | refine blk_drewN ?_ _ | refine blk_drew ?_ | refine blk_alloc ?_ _)); exact BK193.out⟩, ⟨by (with_reducible repeat (first | refine blk_drewN ?_ _ | refine blk_drew ?_ | refine blk_alloc ?_ _)); exact BK194.out⟩, ⟨bE⟩⟩
                                · rw [if_neg c24] at H
                                  exact absurd H (by simp)
                              · rw [if_neg c22] at H
                                exact absurd H (by simp)
                            · rw [if_neg c21] at H
                              exact absurd H (by simp)
                          · rw [if_neg c20] at H
                            have c20b0 : decide (x45_5 < 10) = false := decide_eq_false c20
                            clear c20
                            simp only [Option.some.injEq, Prod.mk.injEq] at H
                            obtain ⟨rfl, rfl, rfl⟩ := H
                            have hnb45 := NB193_194.out
                            have hnc45 := NB194_193.out
                            have hcz46_0 : wr.cell? ⟨gb193, 0, none⟩ = some (.int .i64 x194000_4) := (blk_cell BK193.out 0).trans rfl
                            have hcz46_1 : wr.cell? ⟨gb193, 1, none⟩ = some (.int .u64 x194001_4) := (blk_cell BK193.out 1).trans rfl
                            have hfz46_0 := blk_frozen BK193.out 0
                            have hfz46_1 := blk_frozen BK193.out 1
                            go_wp2
                            repeat (go_quiet (fail); try go_wp2)
                            (try rw [Exit.noGoto_ret])
                            refine bodyPost_ret (results_ct rfl _ _ gb193 24 #[.int .i64 0, .int .u64 0] (0, 0) _ rfl (by (with_reducible repeat (first | refine blk_drewN ?_ _ | refine blk_drew ?_ | refine blk_alloc ?_ _)); refine blk_put (cs := #[.int .i64 0, .int .u64 x194001_4]) ?_ 1 _ rfl; (with_reducible repeat (first | refine blk_drewN ?_ _ | refine blk_drew ?_ | refine blk_alloc ?_ _)); refine blk_put (cs := #[.int .i64 x194000_4, .int .u64 x194001_4]) ?_ 0 _ rfl; (with_reducible repeat (first | refine blk_drewN ?_ _ | refine blk_drew ?_ | refine blk_alloc ?_ _)); exact BK193.out) Try.underlying24 rfl (by kernel_rfl)) rfl ?_
                            exact ⟨by first | rfl | (simp [errW_none, errW_some] <;> rfl) | (simp [*, errW_none, errW_some] <;> rfl), bE⟩
                    · rw [if_neg c19] at H
                      have c19b0 : decide (x42_4 < (x5_6.size : Int)) = false := decide_eq_false c19
                      clear c19
                      by_cases c47 : x7_4 = true
                      · subst c47
                        have H1 : ((wide_size_signed.f k4 x195000_4 x195001_4 x4_1).bind fun bt195 => (some (bt195.1, bt195.2.1, bt195.2.2))) = some (r1, r2, r3) := by rw [if_pos rfl] at H; exact H
                        clear H
                        have H := H1
                        clear H1
                        replace H := Option.bind_eq_some_iff.mp H
                        obtain ⟨⟨t195, t196, t197⟩, A480, H⟩ := H
                        replace H : (some (t195, t196, t197)) = some (r1, r2, r3) := H
                        have A48 := Aside0.mk A480
                        clear A480
                        simp only [Option.some.injEq, Prod.mk.injEq] at H
                        obtain ⟨rfl, rfl, rfl⟩ := H
                        have hnb49 := NB194_193.out
                        have hnc49 := NB193_194.out
                        have hcz50_0 : wr.cell? ⟨gb194, 0, none⟩ = some (.int .u64 x195000_4) := (blk_cell BK194.out 0).trans rfl
                        have hcz50_1 : wr.cell? ⟨gb194, 1, none⟩ = some (.int .u64 x195001_4) := (blk_cell BK194.out 1).trans rfl
                        have hfz50_0 := blk_frozen BK194.out 0
                        have hfz50_1 := blk_frozen BK194.out 1
                        go_wp2_with (first | (go_at_call 34; (with_reducible refine (wide_size_signed.calls k4 x195000_4 x195001_4 x4_1 t195 t196 t197 _ A48.out).mono ?_); rintro e w51 ⟨rfl, hb⟩; replace BK193 := Aside0.mk (bK BK193 hb); replace BK194 := Aside0.mk (bK BK194 hb); replace HB := Aside0.mk (bS hb); (try clear hb); (try clear hb2); (try clear hk); (try clear hi); have hcz52_0 : w51.cell? ⟨gb193, 0, none⟩ = some (.int .i64 x194000_4) := (blk_cell BK193.out 0).trans rfl; have hcz52_1 : w51.cell? ⟨gb193, 1, none⟩ = some (.int .u64 x194001_4) := (blk_cell BK193.out 1).trans rfl; have hfz52_0 := blk_frozen BK193.out 0; have hfz52_1 := blk_frozen BK193.out 1))
                        (try (go_step3; go_wp2_with (first | (go_at_call 34; (with_reducible refine (wide_size_signed.calls k4 x195000_4 x195001_4 x4_1 t195 t196 t197 _ A48.out).mono ?_); rintro e w51 ⟨rfl, hb⟩; replace BK193 := Aside0.mk (bK BK193 hb); replace BK194 := Aside0.mk (bK BK194 hb); replace HB := Aside0.mk (bS hb); (try clear hb); (try clear hb2); (try clear hk); (try clear hi); have hcz52_0 : w51.cell? ⟨gb193, 0, none⟩ = some (.int .i64 x194000_4) := (blk_cell BK193.out 0).trans rfl; have hcz52_1 : w51.cell? ⟨gb193, 1, none⟩ = some (.int .u64 x194001_4) := (blk_cell BK193.out 1).trans rfl; have hfz52_0 := blk_frozen BK193.out 0; have hfz52_1 := blk_frozen BK193.out 1))))
                        (try (go_step3; go_wp2_with (first | (go_at_call 34; (with_reducible refine (wide_size_signed.calls k4 x195000_4 x195001_4 x4_1 t195 t196 t197 _ A48.out).mono ?_); rintro e w51 ⟨rfl, hb⟩; replace BK193 := Aside0.mk (bK BK193 hb); replace BK194 := Aside0.mk (bK BK194 hb); replace HB := Aside0.mk (bS hb); (try clear hb); (try clear hb2); (try clear hk); (try clear hi); have hcz52_0 : w51.cell? ⟨gb193, 0, none⟩ = some (.int .i64 x194000_4) := (blk_cell BK193.out 0).trans rfl; have hcz52_1 : w51.cell? ⟨gb193, 1, none⟩ = some (.int .u64 x194001_4) := (blk_cell BK193.out 1).trans rfl; have hfz52_0 := blk_frozen BK193.out 0; have hfz52_1 := blk_frozen BK193.out 1))))
                        repeat (go_quiet (first | (go_at_call 34; (with_reducible refine (wide_size_signed.calls k4 x195000_4 x195001_4 x4_1 t195 t196 t197 _ A48.out).mono ?_); rintro e w51 ⟨rfl, hb⟩; replace BK193 := Aside0.mk (bK BK193 hb); replace BK194 := Aside0.mk (bK BK194 hb); replace HB := Aside0.mk (bS hb); (try clear hb); (try clear hb2); (try clear hk); (try clear hi); have hcz52_0 : w51.cell? ⟨gb193, 0, none⟩ = some (.int .i64 x194000_4) := (blk_cell BK193.out 0).trans rfl; have hcz52_1 : w51.cell? ⟨gb193, 1, none⟩ = some (.int .u64 x194001_4) := (blk_cell BK193.out 1).trans rfl; have hfz52_0 := blk_frozen BK193.out 0; have hfz52_1 := blk_frozen BK193.out 1)); try go_wp2_with (first | (go_at_call 34; (with_reducible refine (wide_size_signed.calls k4 x195000_4 x195001_4 x4_1 t195 t196 t197 _ A48.out).mono ?_); rintro e w51 ⟨rfl, hb⟩; replace BK193 := Aside0.mk (bK BK193 hb); replace BK194 := Aside0.mk (bK BK194 hb); replace HB := Aside0.mk (bS hb); (try clear hb); (try clear hb2); (try clear hk); (try clear hi); have hcz52_0 : w51.cell? ⟨gb193, 0, none⟩ = some (.int .i64 x194000_4) := (blk_cell BK193.out 0).trans rfl; have hcz52_1 : w51.cell? ⟨gb193, 1, none⟩ = some (.int .u64 x194001_4) := (blk_cell BK193.out 1).trans rfl; have hfz52_0 := blk_frozen BK193.out 0; have hfz52_1 := blk_frozen BK193.out 1)))
                        (try rw [Exit.noGoto_ret])
                        refine bodyPost_ret (results_ct rfl _ _ gb193 24 #[.int .i64 t195, .int .u64 t196] (0, 0) _ rfl (by (with_reducible repeat (first | refine blk_drewN ?_ _ | refine blk_drew ?_ | refine blk_alloc ?_ _)); refine blk_put (cs := #[.int .i64 t195, .int .u64 x194001_4]) ?_ 1 _ rfl; (with_reducible repeat (first | refine blk_drewN ?_ _ | refine blk_drew ?_ | refine blk_alloc ?_ _)); refine blk_put (cs := #[.int .i64 x194000_4, .int .u64 x194001_4]) ?_ 0 _ rfl; (with_reducible repeat (first | refine blk_drewN ?_ _ | refine blk_drew ?_ | refine blk_alloc ?_ _)); exact BK193.out) Try.underlying24 rfl (by kernel_rfl)) rfl ?_
                        exact ⟨by first | rfl | (simp [errW_none, errW_some] <;> rfl) | (simp [*, errW_none, errW_some] <;> rfl), bE⟩
                      · replace c47 := Bool.eq_false_iff.mpr c47
                        subst c47
                        have H1 : (some (0, 0, 6)) = some (r1, r2, r3) := by rw [if_neg (show ¬ (false = true) by decide)] at H; exact H
                        clear H
                        have H := H1
                        clear H1
                        simp only [Option.some.injEq, Prod.mk.injEq] at H
                        obtain ⟨rfl, rfl, rfl⟩ := H
                        have hnb53 := NB193_194.out
                        have hnc53 := NB194_193.out
                        have hcz54_0 : wr.cell? ⟨gb193, 0, none⟩ = some (.int .i64 x194000_4) := (blk_cell BK193.out 0).trans rfl
                        have hcz54_1 : wr.cell? ⟨gb193, 1, none⟩ = some (.int .u64 x194001_4) := (blk_cell BK193.out 1).trans rfl
                        have hfz54_0 := blk_frozen BK193.out 0
                        have hfz54_1 := blk_frozen BK193.out 1
                        go_wp2
                        repeat (go_quiet (fail); try go_wp2)
                        (try rw [Exit.noGoto_ret])
                        refine bodyPost_ret (results_ct rfl _ _ gb193 24 #[.int .i64 0, .int .u64 0] (0, 0) _ rfl (by (with_reducible repeat (first | refine blk_drewN ?_ _ | refine blk_drew ?_ | refine blk_alloc ?_ _)); refine blk_put (cs := #[.int .i64 0, .int .u64 x194001_4]) ?_ 1 _ rfl; (with_reducible repeat (first | refine blk_drewN ?_ _ | refine blk_drew ?_ | refine blk_alloc ?_ _)); refine blk_put (cs := #[.int .i64 x194000_4, .int .u64 x194001_4]) ?_ 0 _ rfl; (with_reducible repeat (first | refine blk_drewN ?_ _ | refine blk_drew ?_ | refine blk_alloc ?_ _)); exact BK193.out) Try.underlying24 rfl (by kernel_rfl)) rfl ?_
                        exact ⟨by first | rfl | (simp [errW_none, errW_some] <;> rfl) | (simp [*, errW_none, errW_some] <;> rfl), bE⟩

end Go.Proofs.Ytkhocaehhflpcaa.PA
