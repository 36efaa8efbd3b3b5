/- Contracts of the Go functions and their plain Lean functions, written by a program of this session out of the translation. -/
import Derived.Test.YtkhocaehhflpcaaPAx0
import Derived.Test.YtkhocaehhflpcaaPAx7
namespace Go.Proofs.Ytkhocaehhflpcaa.PA
open Go.RowKit Go.Proofs.YtkhocaehhflpcaaW.PrintWords Go.Proofs.YtkhocaehhflpcaaW.PrintLast Go.Proofs.YtkhocaehhflpcaaW.PrintMore
attribute [local go_sem] max2_int min2_int max_two min_two max_three min_three max_four min_four   -- for this text's walks alone
set_option linter.unusedVariables false
set_option linter.unusedSimpArgs false

/-! ### corebankref01_Text: function 16 -/
def corebankref01_Text.l0 : Nat → Bool → ByteArray → Int → Int → Option (ByteArray)
  | 0, _, _, _, _ => none
  | k + 1, x3, x5, x309000, x309001 => if x5.toList = ([] : List UInt8) then ((corebankref01_Quotient.f k x309000 x309001 10).bind fun bt309 => (if 0 ≤ bt309.2.2 then (if bt309.2.2 ≤ (IntKind.u64.wrap (bt309.2.2 + 1)) then (if (IntKind.u64.wrap (bt309.2.2 + 1)) ≤ 10 then (if ((⟨#[48, 49, 50, 51, 52, 53, 54, 55, 56, 57]⟩ : ByteArray).extract (bt309.2.2 : Int).toNat ((IntKind.u64.wrap (bt309.2.2 + 1)) : Int).toNat).size + x5.size ≤ 9223372036854775807 then (corebankref01_Text.l0 k x3 (((⟨#[48, 49, 50, 51, 52, 53, 54, 55, 56, 57]⟩ : ByteArray).extract (bt309.2.2 : Int).toNat ((IntKind.u64.wrap (bt309.2.2 + 1)) : Int).toNat) ++ x5) bt309.1 bt309.2.1) else (none)) else (none)) else (none)) else (none))) else (if x309000 > 0 then ((corebankref01_Quotient.f k x309000 x309001 10).bind fun bt313 => (if 0 ≤ bt313.2.2 then (if bt313.2.2 ≤ (IntKind.u64.wrap (bt313.2.2 + 1)) then (if (IntKind.u64.wrap (bt313.2.2 + 1)) ≤ 10 then (if ((⟨#[48, 49, 50, 51, 52, 53, 54, 55, 56, 57]⟩ : ByteArray).extract (bt313.2.2 : Int).toNat ((IntKind.u64.wrap (bt313.2.2 + 1)) : Int).toNat).size + x5.size ≤ 9223372036854775807 then (corebankref01_Text.l0 k x3 (((⟨#[48, 49, 50, 51, 52, 53, 54, 55, 56, 57]⟩ : ByteArray).extract (bt313.2.2 : Int).toNat ((IntKind.u64.wrap (bt313.2.2 + 1)) : Int).toNat) ++ x5) bt313.1 bt313.2.1) else (none)) else (none)) else (none)) else (none))) else (if x309001 > 0 then ((corebankref01_Quotient.f k x309000 x309001 10).bind fun bt317 => (if 0 ≤ bt317.2.2 then (if bt317.2.2 ≤ (IntKind.u64.wrap (bt317.2.2 + 1)) then (if (IntKind.u64.wrap (bt317.2.2 + 1)) ≤ 10 then (if ((⟨#[48, 49, 50, 51, 52, 53, 54, 55, 56, 57]⟩ : ByteArray).extract (bt317.2.2 : Int).toNat ((IntKind.u64.wrap (bt317.2.2 + 1)) : Int).toNat).size + x5.size ≤ 9223372036854775807 then (corebankref01_Text.l0 k x3 (((⟨#[48, 49, 50, 51, 52, 53, 54, 55, 56, 57]⟩ : ByteArray).extract (bt317.2.2 : Int).toNat ((IntKind.u64.wrap (bt317.2.2 + 1)) : Int).toNat) ++ x5) bt317.1 bt317.2.1) else (none)) else (none)) else (none)) else (none))) else (if x3 = true then (if 1 + x5.size ≤ 9223372036854775807 then (some ((⟨#[45]⟩ : ByteArray) ++ x5)) else (none)) else (some x5))))
def corebankref01_Text.f (k : Nat) (a0_0 : Int) (a0_1 : Int) : Option (ByteArray) := (corebankref01_Split.f a0_0 a0_1).bind fun bt305 => (corebankref01_Text.l0 k bt305.1 (⟨#[]⟩ : ByteArray) bt305.2.1 bt305.2.2)
theorem corebankref01_Text.mono_l : ∀ k, (∀ y0 y1 y2 y3, LeO (corebankref01_Text.l0 k y0 y1 y2 y3) (corebankref01_Text.l0 (k + 1) y0 y1 y2 y3))
  | 0 => fun _ _ _ _ r h => by simp [corebankref01_Text.l0] at h
  | k + 1 => by
    have ih0 := corebankref01_Text.mono_l k
    · intro y0 y1 y2 y3
      unfold corebankref01_Text.l0
      repeat' first
      | (with_reducible exact ih0 _ _ _ _)
      | (with_reducible exact corebankref01_Quotient.mono _ _ _ _)
      | (with_reducible exact LeO.refl _)
      | (with_reducible exact LeO.none _)
      | (with_reducible refine LeO.ite ?_ ?_)
      | (with_reducible refine LeO.bind ?_ (fun _ => ?_))
      | exact ih0 _ _ _ _
      | exact corebankref01_Quotient.mono _ _ _ _
      | exact LeO.none _
      | refine LeO.ite ?_ ?_
      | refine LeO.bind ?_ (fun _ => ?_)
theorem corebankref01_Text.mono : ∀ a0 a1 k, LeO (corebankref01_Text.f k a0 a1) (corebankref01_Text.f (k + 1) a0 a1) := by
  intro a0 a1 k
  have ih0 := corebankref01_Text.mono_l k
  unfold corebankref01_Text.f
  repeat' first
      | (with_reducible exact ih0 _ _ _ _)
      | (with_reducible exact corebankref01_Quotient.mono _ _ _ _)
      | (with_reducible exact LeO.refl _)
      | (with_reducible exact LeO.none _)
      | (with_reducible refine LeO.ite ?_ ?_)
      | (with_reducible refine LeO.bind ?_ (fun _ => ?_))
      | exact ih0 _ _ _ _
      | exact corebankref01_Quotient.mono _ _ _ _
      | exact LeO.none _
      | refine LeO.ite ?_ ?_
      | refine LeO.bind ?_ (fun _ => ?_)
set_option maxHeartbeats 8000000 in
set_option maxRecDepth 100000 in
theorem corebankref01_Text.calls (k : Nat) (a0_0 : Int) (a0_1 : Int) (r : ByteArray) (w : World) (h : corebankref01_Text.f k a0_0 a0_1 = some r) :
    Calls Try.prog 16 #[.agg #[.int .i64 a0_0, .int .u64 a0_1]] w fun e w' => e = .returned (.string r) ∧ Below w.heap.size w w' := by
  have hu24 := Try.underlying24
  have hu53 := Try.underlying53
  have HB := Aside0.mk (Below.refl w.heap.size w)
  have H : ((corebankref01_Split.f a0_0 a0_1).bind fun bt305 => (corebankref01_Text.l0 k bt305.1 (⟨#[]⟩ : ByteArray) bt305.2.1 bt305.2.2)) = some r := h
  clear h
  replace H := Option.bind_eq_some_iff.mp H
  obtain ⟨⟨t305, t306, t307⟩, A20, H⟩ := H
  replace H : (corebankref01_Text.l0 k t305 (⟨#[]⟩ : ByteArray) t306 t307) = some r := H
  have A2 := Aside0.mk A20
  clear A20
  have H' := Aside0.mk H
  clear H
  go_enter Try.func16, Try.ntmps16
  go_wp2_with (first | ((with_reducible refine gate_dst (N := 1) rfl ?_); refine box_event ?hg (N := 1) ?hd (cs := #[.int .i64 a0_0, .int .u64 a0_1]) (t := 24) ?hr ?_; (case hd => rfl); (case hg => rfl); (case hr => first | (go_simp; done) | (go_simp; rfl)); intro gb304 hg w3 hbox hb; have nn_ := bT hb hg; have BK304 := Aside0.mk (hbox); have GW304 := Aside0.mk nn_.2; have GE304 := GW304; replace HB := Aside0.mk nn_.1; clear nn_; clear hb hbox hg; have hcz4_0 : w3.cell? ⟨gb304, 0, none⟩ = some (.int .i64 a0_0) := (blk_cell BK304.out 0).trans rfl; have hcz4_1 : w3.cell? ⟨gb304, 1, none⟩ = some (.int .u64 a0_1) := (blk_cell BK304.out 1).trans rfl; have hfz4_0 := blk_frozen BK304.out 0; have hfz4_1 := blk_frozen BK304.out 1) | ((with_reducible refine gate_callee (f := 35) rfl ?_); refine goesL_ (some 10) rfl rfl Try.func35 (by kernel_rfl) rfl #[.agg #[.int .i64 a0_0, .int .u64 a0_1]] rfl aG ?_; (with_reducible refine (corebankref01_Split.calls a0_0 a0_1 t305 t306 t307 _ A2.out).mono ?_); rintro e w5 ⟨rfl, hb⟩; refine ⟨_, rfl, ?_⟩; replace BK304 := Aside0.mk (bK BK304 hb); replace HB := Aside0.mk (bS hb); (try clear hb); (try clear hb2); (try clear hk); (try clear hi)) | ((with_reducible refine gate_dst (N := 4) rfl ?_); refine box_event ?hg (N := 4) ?hd (cs := #[.int .u64 0, .int .u64 0]) (t := 53) ?hr ?_; (case hd => rfl); (case hg => rfl); (case hr => first | (go_simp; done) | (go_simp; rfl)); intro gb308 hg w6 hbox hb; have nn_ := bT hb hg; have bgb304_ := bN BK304 hb hg; have BK308 := Aside0.mk (hbox); have GW308 := Aside0.mk nn_.2; have GE308 := GW308; have NB304_308 := Aside0.mk bgb304_.2.1; have NB308_304 := Aside0.mk bgb304_.2.2; replace BK304 := Aside0.mk bgb304_.1; replace HB := Aside0.mk nn_.1; clear nn_ bgb304_; clear hb hbox hg; have hnb7 := NB308_304.out; have hnc7 := NB304_308.out; have hcz8_0 : w6.cell? ⟨gb308, 0, none⟩ = some (.int .u64 0) := (blk_cell BK308.out 0).trans rfl; have hcz8_1 : w6.cell? ⟨gb308, 1, none⟩ = some (.int .u64 0) := (blk_cell BK308.out 1).trans rfl; have hfz8_0 := blk_frozen BK308.out 0; have hfz8_1 := blk_frozen BK308.out 1))
  go_loopg [5] k (fun kq v5 w' => ∃ (x5_1 : ByteArray) (x309000_1 : Int) (x309001_1 : Int), v5 = .string x5_1 ∧ Aside0 (corebankref01_Text.l0 kq t305 x5_1 x309000_1 x309001_1 = some r) ∧ Aside0 (kq ≤ k) ∧ Aside0 (w'.heap[gb304]? = some (.cells #[.int .i64 a0_0, .int .u64 a0_1] 24 (0, 0))) ∧ Aside0 (w'.heap[gb308]? = some (.cells #[.int .u64 x309000_1, .int .u64 x309001_1] 53 (0, 0))) ∧ Aside0 (Below w.heap.size w w'))
  case atStart => exact ⟨((⟨#[]⟩ : ByteArray)), (t306), (t307), (by first | rfl | (simp; done) | (simp [*]; done)), H', ⟨Nat.le_refl _⟩, ⟨by (with_reducible repeat (first | refine blk_drewN ?_ _ | refine blk_drew ?_ | refine blk_alloc ?_ _)); refine blk_far ?_ NB304_308.out _; (with_reducible repeat (first | refine blk_drewN ?_ _ | refine blk_drew ?_ | refine blk_alloc ?_ _)); refine blk_far ?_ NB304_308.out _; (with_reducible repeat (first | refine blk_drewN ?_ _ | refine blk_drew ?_ | refine blk_alloc ?_ _)); exact BK304.out⟩, ⟨by (with_reducible repeat (first | refine blk_drewN ?_ _ | refine blk_drew ?_ | refine blk_alloc ?_ _)); refine blk_put (cs := #[.int .u64 t306, .int .u64 0]) ?_ 1 _ rfl; (with_reducible repeat (first | refine blk_drewN ?_ _ | refine blk_drew ?_ | refine blk_alloc ?_ _)); refine blk_put (cs := #[.int .u64 0, .int .u64 0]) ?_ 0 _ rfl; (with_reducible repeat (first | refine blk_drewN ?_ _ | refine blk_drew ?_ | refine blk_alloc ?_ _)); exact BK308.out⟩, ⟨bE⟩⟩
  case round =>
    clear H'
    try clear c1
    try clear p2
    try clear c3
    try clear c7
    try clear hcz4_0
    try clear hcz4_1
    try clear hcz8_0
    try clear hcz8_1
    try clear hfz4_0
    try clear hfz4_1
    try clear hfz8_0
    try clear hfz8_1
    obtain ⟨x5_1, x309000_1, x309001_1, rfl, HA, HK1, BK304, BK308, HB⟩ := hrel
    cases gk with
    | zero => exact absurd HA.out (by simp [corebankref01_Text.l0])
    | succ k1 =>
      have H := HA.out
      clear HA
      simp only [corebankref01_Text.l0] at H
      by_cases c9 : x5_1.toList = ([] : List UInt8)
      · rw [if_pos c9] at H
        have c9b0 : (x5_1.toList == ([] : List UInt8)) = true := beq_iff_eq.mpr c9
        have c9b1 : (x5_1.toList != ([] : List UInt8)) = false := bne_eq_false_iff_eq.mpr c9
        clear c9
        replace H := Option.bind_eq_some_iff.mp H
        obtain ⟨⟨t309, t310, t311⟩, A100, H⟩ := H
        replace H : (if 0 ≤ t311 then (if t311 ≤ (IntKind.u64.wrap (t311 + 1)) then (if (IntKind.u64.wrap (t311 + 1)) ≤ 10 then (if ((⟨#[48, 49, 50, 51, 52, 53, 54, 55, 56, 57]⟩ : ByteArray).extract (t311 : Int).toNat ((IntKind.u64.wrap (t311 + 1)) : Int).toNat).size + x5_1.size ≤ 9223372036854775807 then (corebankref01_Text.l0 k1 t305 (((⟨#[48, 49, 50, 51, 52, 53, 54, 55, 56, 57]⟩ : ByteArray).extract (t311 : Int).toNat ((IntKind.u64.wrap (t311 + 1)) : Int).toNat) ++ x5_1) t309 t310) else (none)) else (none)) else (none)) else (none)) = some r := H
        have A10 := Aside0.mk A100
        clear A100
        by_cases c11 : 0 ≤ t311
        · rw [if_pos c11] at H
          have c11b0 := eq_true c11
          have c11b1 : decide (0 ≤ t311) = true := decide_eq_true c11
          clear c11
          by_cases c12 : t311 ≤ (IntKind.u64.wrap (t311 + 1))
          · rw [if_pos c12] at H
            have c12b0 := eq_true c12
            have c12b1 : decide (t311 ≤ (IntKind.u64.wrap (t311 + 1))) = true := decide_eq_true c12
            by_cases c13 : (IntKind.u64.wrap (t311 + 1)) ≤ 10
            · rw [if_pos c13] at H
              have c13b0 := eq_true c13
              have c13b1 : decide ((IntKind.u64.wrap (t311 + 1)) ≤ 10) = true := decide_eq_true c13
              by_cases c14 : ((⟨#[48, 49, 50, 51, 52, 53, 54, 55, 56, 57]⟩ : ByteArray).extract (t311 : Int).toNat ((IntKind.u64.wrap (t311 + 1)) : Int).toNat).size + x5_1.size ≤ 9223372036854775807
              · rw [if_pos c14] at H
                have c14b0 := eq_true c14
                have c14b1 : decide (((⟨#[48, 49, 50, 51, 52, 53, 54, 55, 56, 57]⟩ : ByteArray).extract (t311 : Int).toNat ((IntKind.u64.wrap (t311 + 1)) : Int).toNat).size + x5_1.size ≤ 9223372036854775807) = true := decide_eq_true c14
                try have c14b2 : (9223372036854775807 < ((⟨#[48, 49, 50, 51, 52, 53, 54, 55, 56, 57]⟩ : ByteArray).extract (t311 : Int).toNat ((IntKind.u64.wrap (t311 + 1)) : Int).toNat).size + x5_1.size) = False := eq_false (Nat.not_lt.2 c14)
                have H' := Aside0.mk H
                clear H
                have hnb15 := NB308_304.out
                have hnc15 := NB304_308.out
                have hcz16_0 : wr.cell? ⟨gb308, 0, none⟩ = some (.int .u64 x309000_1) := (blk_cell BK308.out 0).trans rfl
                have hcz16_1 : wr.cell? ⟨gb308, 1, none⟩ = some (.int .u64 x309001_1) := (blk_cell BK308.out 1).trans rfl
                have hfz16_0 := blk_frozen BK308.out 0
                have hfz16_1 := blk_frozen BK308.out 1
                go_wp2_with (first | ((with_reducible refine gate_callee (f := 36) rfl ?_); refine goesL_ (some 27) rfl rfl Try.func36 (by kernel_rfl) rfl #[.agg #[.int .u64 x309000_1, .int .u64 x309001_1], .int .u64 10] rfl aG ?_; (with_reducible refine (corebankref01_Quotient.calls k1 x309000_1 x309001_1 10 t309 t310 t311 _ A10.out).mono ?_); rintro e w17 ⟨rfl, hb⟩; refine ⟨_, rfl, ?_⟩; replace BK304 := Aside0.mk (bK BK304 hb); replace BK308 := Aside0.mk (bK BK308 hb); replace HB := Aside0.mk (bS hb); (try clear hb); (try clear hb2); (try clear hk); (try clear hi)) | ((with_reducible refine gate_dst (N := 6) rfl ?_); refine box_event ?hg (N := 6) ?hd (cs := #[.int .u64 0, .int .u64 0]) (t := 53) ?hr ?_; (case hd => rfl); (case hg => rfl); (case hr => first | (go_simp; done) | (go_simp; rfl)); intro gb312 hg w18 hbox hb; have nn_ := bT hb hg; have bgb304_ := bN BK304 hb hg; have bgb308_ := bN BK308 hb hg; have BK312 := Aside0.mk (hbox); have GW312 := Aside0.mk nn_.2; have GE312 := GW312; have NB304_312 := Aside0.mk bgb304_.2.1; have NB312_304 := Aside0.mk bgb304_.2.2; have NB308_312 := Aside0.mk bgb308_.2.1; have NB312_308 := Aside0.mk bgb308_.2.2; replace BK304 := Aside0.mk bgb304_.1; replace BK308 := Aside0.mk bgb308_.1; replace HB := Aside0.mk nn_.1; clear nn_ bgb304_ bgb308_; clear hb hbox hg; have hnb19 := NB312_304.out; have hnc19 := NB304_312.out; have hnb20 := NB312_308.out; have hnc20 := NB308_312.out; have hcz21_0 : w18.cell? ⟨gb312, 0, none⟩ = some (.int .u64 0) := (blk_cell BK312.out 0).trans rfl; have hcz21_1 : w18.cell? ⟨gb312, 1, none⟩ = some (.int .u64 0) := (blk_cell BK312.out 1).trans rfl; have hfz21_0 := blk_frozen BK312.out 0; have hfz21_1 := blk_frozen BK312.out 1; have hcz22_0 : w18.cell? ⟨gb308, 0, none⟩ = some (.int .u64 x309000_1) := (blk_cell BK308.out 0).trans rfl; have hcz22_1 : w18.cell? ⟨gb308, 1, none⟩ = some (.int .u64 x309001_1) := (blk_cell BK308.out 1).trans rfl; have hfz22_0 := blk_frozen BK308.out 0; have hfz22_1 := blk_frozen BK308.out 1))
                go_roundg k1
                case measure => have := HK1.out; omega
                case rel => exact ⟨(((⟨#[48, 49, 50, 51, 52, 53, 54, 55, 56, 57]⟩ : ByteArray).extract (t311 : Int).toNat ((IntKind.u64.wrap (t311 + 1)) : Int).toNat) ++ x5_1), (t309), (t310), (by first | rfl | (simp; done) | (simp [*]; done)), H', ⟨by have := HK1.out; omega⟩, ⟨by (with_reducible repeat (first | refine blk_drewN ?_ _ | refine blk_drew ?_ | refine blk_alloc ?_ _)); refine blk_far ?_ NB304_308.out _; (with_reducible repeat (first | refine blk_drewN ?_ _ | refine blk_drew ?_ | refine blk_alloc ?_ _)); refine blk_far ?_ NB304_308.out _; (with_reducible repeat (first | refine blk_drewN ?_ _ | refine blk_drew ?_ | refine blk_alloc ?_ _)); refine blk_far ?_ NB304_312.out _; (with_reducible repeat (first | refine blk_drewN ?_ _ | refine blk_drew ?_ | refine blk_alloc ?_ _)); refine blk_far ?_ NB304_312.out _; (with_reducible repeat (first | refine blk_drewN ?_ _ | refine blk_drew ?_ | refine blk_alloc ?_ _)); exact BK304.out⟩, ⟨by (with_reducible repeat (first | refine blk_drewN ?_ _ | refine blk_drew ?_ | refine blk_alloc ?_ _)); refine blk_put (cs := #[.int .u64 t309, .int .u64 x309001_1]) ?_ 1 _ rfl; (with_reducible repeat (first | refine blk_drewN ?_ _ | refine blk_drew ?_ | refine blk_alloc ?_ _)); refine blk_put (cs := #[.int .u64 x309000_1, .int .u64 x309001_1]) ?_ 0 _ rfl; (with_reducible repeat (first | refine blk_drewN ?_ _ | refine blk_drew ?_ | refine blk_alloc ?_ _)); refine blk_far ?_ NB308_312.out _; (with_reducible repeat (first | refine blk_drewN ?_ _ | refine blk_drew ?_ | refine blk_alloc ?_ _)); refine blk_far ?_ NB308_312.out _; (with_reducible repeat (first | refine blk_drewN ?_ _ | refine blk_drew ?_ | refine blk_alloc ?_ _)); exact BK308.out⟩, ⟨bE⟩⟩
              · rw [if_neg c14] at H
                exact absurd H (by simp)
            · rw [if_neg c13] at H
              exact absurd H (by simp)
          · rw [if_neg c12] at H
            exact absurd H (by simp)
        · rw [if_neg c11] at H
          exact absurd H (by simp)
      · rw [if_neg c9] at H
        have c9b0 : (x5_1.toList == ([] : List UInt8)) = false := beq_eq_false_iff_ne.mpr c9
        have c9b1 : (x5_1.toList != ([] : List UInt8)) = true := bne_iff_ne.mpr c9
        by_cases c23 : x309000_1 > 0
        · rw [if_pos c23] at H
          have c23b0 : decide (0 < x309000_1) = true := decide_eq_true c23
          clear c23
          replace H := Option.bind_eq_some_iff.mp H
          obtain ⟨⟨t313, t314, t315⟩, A240, H⟩ := H
          replace H : (if 0 ≤ t315 then (if t315 ≤ (IntKind.u64.wrap (t315 + 1)) then (if (IntKind.u64.wrap (t315 + 1)) ≤ 10 then (if ((⟨#[48, 49, 50, 51, 52, 53, 54, 55, 56, 57]⟩ : ByteArray).extract (t315 : Int).toNat ((IntKind.u64.wrap (t315 + 1)) : Int).toNat).size + x5_1.size ≤ 9223372036854775807 then (corebankref01_Text.l0 k1 t305 (((⟨#[48, 49, 50, 51, 52, 53, 54, 55, 56, 57]⟩ : ByteArray).extract (t315 : Int).toNat ((IntKind.u64.wrap (t315 + 1)) : Int).toNat) ++ x5_1) t313 t314) else (none)) else (none)) else (none)) else (none)) = some r := H
          have A24 := Aside0.mk A240
          clear A240
          by_cases c25 : 0 ≤ t315
          · rw [if_pos c25] at H
            have c25b0 := eq_true c25
            have c25b1 : decide (0 ≤ t315) = true := decide_eq_true c25
            clear c25
            by_cases c26 : t315 ≤ (IntKind.u64.wrap (t315 + 1))
            · rw [if_pos c26] at H
              have c26b0 := eq_true c26
              have c26b1 : decide (t315 ≤ (IntKind.u64.wrap (t315 + 1))) = true := decide_eq_true c26
              by_cases c27 : (IntKind.u64.wrap (t315 + 1)) ≤ 10
              · rw [if_pos c27] at H
                have c27b0 := eq_true c27
                have c27b1 : decide ((IntKind.u64.wrap (t315 + 1)) ≤ 10) = true := decide_eq_true c27
                by_cases c28 : ((⟨#[48, 49, 50, 51, 52, 53, 54, 55, 56, 57]⟩ : ByteArray).extract (t315 : Int).toNat ((IntKind.u64.wrap (t315 + 1)) : Int).toNat).size + x5_1.size ≤ 9223372036854775807
                · rw [if_pos c28] at H
                  have c28b0 := eq_true c28
                  have c28b1 : decide (((⟨#[48, 49, 50, 51, 52, 53, 54, 55, 56, 57]⟩ : ByteArray).extract (t315 : Int).toNat ((IntKind.u64.wrap (t315 + 1)) : Int).toNat).size + x5_1.size ≤ 9223372036854775807) = true := decide_eq_true c28
                  try have c28b2 : (9223372036854775807 < ((⟨#[48, 49, 50, 51, 52, 53, 54, 55, 56, 57]⟩ : ByteArray).extract (t315 : Int).toNat ((IntKind.u64.wrap (t315 + 1)) : Int).toNat).size + x5_1.size) = False := eq_false (Nat.not_lt.2 c28)
                  have H' := Aside0.mk H
                  clear H
                  have hnb29 := NB308_304.out
                  have hnc29 := NB304_308.out
                  have hcz30_0 : wr.cell? ⟨gb308, 0, none⟩ = some (.int .u64 x309000_1) := (blk_cell BK308.out 0).trans rfl
                  have hcz30_1 : wr.cell? ⟨gb308, 1, none⟩ = some (.int .u64 x309001_1) := (blk_cell BK308.out 1).trans rfl
                  have hfz30_0 := blk_frozen BK308.out 0
                  have hfz30_1 := blk_frozen BK308.out 1
                  go_wp2_with (first | ((with_reducible refine gate_callee (f := 36) rfl ?_); refine goesL_ (some 27) rfl rfl Try.func36 (by kernel_rfl) rfl #[.agg #[.int .u64 x309000_1, .int .u64 x309001_1], .int .u64 10] rfl aG ?_; (with_reducible refine (corebankref01_Quotient.calls k1 x309000_1 x309001_1 10 t313 t314 t315 _ A24.out).mono ?_); rintro e w31 ⟨rfl, hb⟩; refine ⟨_, rfl, ?_⟩; replace BK304 := Aside0.mk (bK BK304 hb); replace BK308 := Aside0.mk (bK BK308 hb); replace HB := Aside0.mk (bS hb); (try clear hb); (try clear hb2); (try clear hk); (try clear hi)) | ((with_reducible refine gate_dst (N := 6) rfl ?_); refine box_event ?hg (N := 6) ?hd (cs := #[.int .u64 0, .int .u64 0]) (t := 53) ?hr ?_; (case hd => rfl); (case hg => rfl); (case hr => first | (go_simp; done) | (go_simp; rfl)); intro gb316 hg w32 hbox hb; have nn_ := bT hb hg; have bgb304_ := bN BK304 hb hg; have bgb308_ := bN BK308 hb hg; have BK316 := Aside0.mk (hbox); have GW316 := Aside0.mk nn_.2; have GE316 := GW316; have NB304_316 := Aside0.mk bgb304_.2.1; have NB316_304 := Aside0.mk bgb304_.2.2; have NB308_316 := Aside0.mk bgb308_.2.1; have NB316_308 := Aside0.mk bgb308_.2.2; replace BK304 := Aside0.mk bgb304_.1; replace BK308 := Aside0.mk bgb308_.1; replace HB := Aside0.mk nn_.1; clear nn_ bgb304_ bgb308_; clear hb hbox hg; have hnb33 := NB316_304.out; have hnc33 := NB304_316.out; have hnb34 := NB316_308.out; have hnc34 := NB308_316.out; have hcz35_0 : w32.cell? ⟨gb316, 0, none⟩ = some (.int .u64 0) := (blk_cell BK316.out 0).trans rfl; have hcz35_1 : w32.cell? ⟨gb316, 1, none⟩ = some (.int .u64 0) := (blk_cell BK316.out 1).trans rfl; have hfz35_0 := blk_frozen BK316.out 0; have hfz35_1 := blk_frozen BK316.out 1; have hcz36_0 : w32.cell? ⟨gb308, 0, none⟩ = some (.int .u64 x309000_1) := (blk_cell BK308.out 0).trans rfl; have hcz36_1 : w32.cell? ⟨gb308, 1, none⟩ = some (.int .u64 x309001_1) := (blk_cell BK308.out 1).trans rfl; have hfz36_0 := blk_frozen BK308.out 0; have hfz36_1 := blk_frozen BK308.out 1))
                  go_roundg k1
                  case measure => have := HK1.out; omega
                  case rel => exact ⟨(((⟨#[48, 49, 50, 51, 52, 53, 54, 55, 56, 57]⟩ : ByteArray).extract (t315 : Int).toNat ((IntKind.u64.wrap (t315 + 1)) : Int).toNat) ++ x5_1), (t313), (t314), (by first | rfl | (simp; done) | (simp [*]; done)), H', ⟨by have := HK1.out; omega⟩, ⟨by (with_reducible repeat (first | refine blk_drewN ?_ _ | refine blk_drew ?_ | refine blk_alloc ?_ _)); refine blk_far ?_ NB304_308.out _; (with_reducible repeat (first | refine blk_drewN ?_ _ | refine blk_drew ?_ | refine blk_alloc ?_ _)); refine blk_far ?_ NB304_308.out _; (with_reducible repeat (first | refine blk_drewN ?_ _ | refine blk_drew ?_ | refine blk_alloc ?_ _)); refine blk_far ?_ NB304_316.out _; (with_reducible repeat (first | refine blk_drewN ?_ _ | refine blk_drew ?_ | refine blk_alloc ?_ _)); refine blk_far ?_ NB304_316.out _; (with_reducible repeat (first | refine blk_drewN ?_ _ | refine blk_drew ?_ | refine blk_alloc ?_ _)); exact BK304.out⟩, ⟨by (with_reducible repeat (first | refine blk_drewN ?_ _ | refine blk_drew ?_ | refine blk_alloc ?_ _)); refine blk_put (cs := #[.int .u64 t313, .int .u64 x309001_1]) ?_ 1 _ rfl; (with_reducible repeat (first | refine blk_drewN ?_ _ | refine blk_drew ?_ | refine blk_alloc ?_ _)); refine blk_put (cs := #[.int .u64 x309000_1, .int .u64 x309001_1]) ?_ 0 _ rfl; (with_reducible repeat (first | refine blk_drewN ?_ _ | refine blk_drew ?_ | refine blk_alloc ?_ _)); refine blk_far ?_ NB308_316.out _; (with_reducible repeat (first | refine blk_drewN ?_ _ | refine blk_drew ?_ | refine blk_alloc ?_ _)); refine blk_far ?_ NB308_316.out _; (with_reducible repeat (first | refine blk_drewN ?_ _ | refine blk_drew ?_ | refine blk_alloc ?_ _)); exact BK308.out⟩, ⟨bE⟩⟩
                · rw [if_neg c28] at H
                  exact absurd H (by simp)
              · rw [if_neg c27] at H
                exact absurd H (by simp)
            · rw [if_neg c26] at H
              exact absurd H (by simp)
          · rw [if_neg c25] at H
            exact absurd H (by simp)
        · rw [if_neg c23] at H
          have c23b0 : decide (0 < x309000_1) = false := decide_eq_false c23
          clear c23
          by_cases c37 : x309001_1 > 0
          · rw [if_pos c37] at H
            have c37b0 : decide (0 < x309001_1) = true := decide_eq_true c37
            clear c37
            replace H := Option.bind_eq_some_iff.mp H
            obtain ⟨⟨t317, t318, t319⟩, A380, H⟩ := H
            replace H : (if 0 ≤ t319 then (if t319 ≤ (IntKind.u64.wrap (t319 + 1)) then (if (IntKind.u64.wrap (t319 + 1)) ≤ 10 then (if ((⟨#[48, 49, 50, 51, 52, 53, 54, 55, 56, 57]⟩ : ByteArray).extract (t319 : Int).toNat ((IntKind.u64.wrap (t319 + 1)) : Int).toNat).size + x5_1.size ≤ 9223372036854775807 then (corebankref01_Text.l0 k1 t305 (((⟨#[48, 49, 50, 51, 52, 53, 54, 55, 56, 57]⟩ : ByteArray).extract (t319 : Int).toNat ((IntKind.u64.wrap (t319 + 1)) : Int).toNat) ++ x5_1) t317 t318) else (none)) else (none)) else (none)) else (none)) = some r := H
            have A38 := Aside0.mk A380
            clear A380
            by_cases c39 : 0 ≤ t319
            · rw [if_pos c39] at H
              have c39b0 := eq_true c39
              have c39b1 : decide (0 ≤ t319) = true := decide_eq_true c39
              clear c39
              by_cases c40 : t319 ≤ (IntKind.u64.wrap (t319 + 1))
              · rw [if_pos c40] at H
                have c40b0 := eq_true c40
                have c40b1 : decide (t319 ≤ (IntKind.u64.wrap (t319 + 1))) = true := decide_eq_true c40
                by_cases c41 : (IntKind.u64.wrap (t319 + 1)) ≤ 10
                · rw [if_pos c41] at H
                  have c41b0 := eq_true c41
                  have c41b1 : decide ((IntKind.u64.wrap (t319 + 1)) ≤ 10) = true := decide_eq_true c41
                  by_cases c42 : ((⟨#[48, 49, 50, 51, 52, 53, 54, 55, 56, 57]⟩ : ByteArray).extract (t319 : Int).toNat ((IntKind.u64.wrap (t319 + 1)) : Int).toNat).size + x5_1.size ≤ 9223372036854775807
                  · rw [if_pos c42] at H
                    have c42b0 := eq_true c42
                    have c42b1 : decide (((⟨#[48, 49, 50, 51, 52, 53, 54, 55, 56, 57]⟩ : ByteArray).extract (t319 : Int).toNat ((IntKind.u64.wrap (t319 + 1)) : Int).toNat).size + x5_1.size ≤ 9223372036854775807) = true := decide_eq_true c42
                    try have c42b2 : (9223372036854775807 < ((⟨#[48, 49, 50, 51, 52, 53, 54, 55, 56, 57]⟩ : ByteArray).extract (t319 : Int).toNat ((IntKind.u64.wrap (t319 + 1)) : Int).toNat).size + x5_1.size) = False := eq_false (Nat.not_lt.2 c42)
                    have H' := Aside0.mk H
                    clear H
                    have hnb43 := NB308_304.out
                    have hnc43 := NB304_308.out
                    have hcz44_0 : wr.cell? ⟨gb308, 0, none⟩ = some (.int .u64 x309000_1) := (blk_cell BK308.out 0).trans rfl
                    have hcz44_1 : wr.cell? ⟨gb308, 1, none⟩ = some (.int .u64 x309001_1) := (blk_cell BK308.out 1).trans rfl
                    have hfz44_0 := blk_frozen BK308.out 0
                    have hfz44_1 := blk_frozen BK308.out 1
                    go_wp2_with (first | ((with_reducible refine gate_callee (f := 36) rfl ?_); refine goesL_ (some 27) rfl rfl Try.func36 (by kernel_rfl) rfl #[.agg #[.int .u64 x309000_1, .int .u64 x309001_1], .int .u64 10] rfl aG ?_; (with_reducible refine (corebankref01_Quotient.calls k1 x309000_1 x309001_1 10 t317 t318 t319 _ A38.out).mono ?_); rintro e w45 ⟨rfl, hb⟩; refine ⟨_, rfl, ?_⟩; replace BK304 := Aside0.mk (bK BK304 hb); replace BK308 := Aside0.mk (bK BK308 hb); replace HB := Aside0.mk (bS hb); (try clear hb); (try clear hb2); (try clear hk); (try clear hi)) | ((with_reducible refine gate_dst (N := 6) rfl ?_); refine box_event ?hg (N := 6) ?hd (cs := #[.int .u64 0, .int .u64 0]) (t := 53) ?hr ?_; (case hd => rfl); (case hg => rfl); (case hr => first | (go_simp; done) | (go_simp; rfl)); intro gb320 hg w46 hbox hb; have nn_ := bT hb hg; have bgb304_ := bN BK304 hb hg; have bgb308_ := bN BK308 hb hg; have BK320 := Aside0.mk (hbox); have GW320 := Aside0.mk nn_.2; have GE320 := GW320; have NB304_320 := Aside0.mk bgb304_.2.1; have NB320_304 := Aside0.mk bgb304_.2.2; have NB308_320 := Aside0.mk bgb308_.2.1; have NB320_308 := Aside0.mk bgb308_.2.2; replace BK304 := Aside0.mk bgb304_.1; replace BK308 := Aside0.mk bgb308_.1; replace HB := Aside0.mk nn_.1; clear nn_ bgb304_ bgb308_; clear hb hbox hg; have hnb47 := NB320_304.out; have hnc47 := NB304_320.out; have hnb48 := NB320_308.out; have hnc48 := NB308_320.out; have hcz49_0 : w46.cell? ⟨gb320, 0, none⟩ = some (.int .u64 0) := (blk_cell BK320.out 0).trans rfl; have hcz49_1 : w46.cell? ⟨gb320, 1, none⟩ = some (.int .u64 0) := (blk_cell BK320.out 1).trans rfl; have hfz49_0 := blk_frozen BK320.out 0; have hfz49_1 := blk_frozen BK320.out 1; have hcz50_0 : w46.cell? ⟨gb308, 0, none⟩ = some (.int .u64 x309000_1) := (blk_cell BK308.out 0).trans rfl; have hcz50_1 : w46.cell? ⟨gb308, 1, none⟩ = some (.int .u64 x309001_1) := (blk_cell BK308.out 1).trans rfl; have hfz50_0 := blk_frozen BK308.out 0; have hfz50_1 := blk_frozen BK308.out 1))
                    go_roundg k1
                    case measure => have := HK1.out; omega
                    case rel => exact ⟨(((⟨#[48, 49, 50, 51, 52, 53, 54, 55, 56, 57]⟩ : ByteArray).extract (t319 : Int).toNat ((IntKind.u64.wrap (t319 + 1)) : Int).toNat) ++ x5_1), (t317), (t318), (by first | rfl | (simp; done) | (simp [*]; done)), H', ⟨by have := HK1.out; omega⟩, ⟨by (with_reducible repeat (first | refine blk_drewN ?_ _ | refine blk_drew ?_ | refine blk_alloc ?_ _)); refine blk_far ?_ NB304_308.out _; (with_reducible repeat (first | refine blk_drewN ?_ _ | refine blk_drew ?_ | refine blk_alloc ?_ _)); refine blk_far ?_ NB304_308.out _; (with_reducible repeat (first | refine blk_drewN ?_ _ | refine blk_drew ?_ | refine blk_alloc ?_ _)); refine blk_far ?_ NB304_320.out _; (with_reducible repeat (first | refine blk_drewN ?_ _ | refine blk_drew ?_ | refine blk_alloc ?_ _)); refine blk_far ?_ NB304_320.out _; (with_reducible repeat (first | refine blk_drewN ?_ _ | refine blk_drew ?_ | refine blk_alloc ?_ _)); exact BK304.out⟩, ⟨by (with_reducible repeat (first | refine blk_drewN ?_ _ | refine blk_drew ?_ | refine blk_alloc ?_ _)); refine blk_put (cs := #[.int .u64 t317, .int .u64 x309001_1]) ?_ 1 _ rfl; (with_reducible repeat (first | refine blk_drewN ?_ _ | refine blk_drew ?_ | refine blk_alloc ?_ _)); refine blk_put (cs := #[.int .u64 x309000_1, .int .u64 x309001_1]) ?_ 0 _ rfl; (with_reducible repeat (first | refine blk_drewN ?_ _ | refine blk_drew ?_ | refine blk_alloc ?_ _)); refine blk_far ?_ NB308_320.out _; (with_reducible repeat (first | refine blk_drewN ?_ _ | refine blk_drew ?_ | refine blk_alloc ?_ _)); refine blk_far ?_ NB308_320.out _; (with_reducible repeat (first | refine blk_drewN ?_ _ | refine blk_drew ?_ | refine blk_alloc ?_ _)); exact BK308.out⟩, ⟨bE⟩⟩
                  · rw [if_neg c42] at H
                    exact absurd H (by simp)
                · rw [if_neg c41] at H
                  exact absurd H (by simp)
              · rw [if_neg c40] at H
                exact absurd H (by simp)
            · rw [if_neg c39] at H
              exact absurd H (by simp)
          · rw [if_neg c37] at H
            have c37b0 : decide (0 < x309001_1) = false := decide_eq_false c37
            clear c37
            by_cases c51 : t305 = true
            · subst c51
              have H1 : (if 1 + x5_1.size ≤ 9223372036854775807 then (some ((⟨#[45]⟩ : ByteArray) ++ x5_1)) else (none)) = some r := by rw [if_pos rfl] at H; exact H
              clear H
              have H := H1
              clear H1
              by_cases c52 : 1 + x5_1.size ≤ 9223372036854775807
              · rw [if_pos c52] at H
                have c52b0 := eq_true c52
                have c52b1 : decide (1 + x5_1.size ≤ 9223372036854775807) = true := decide_eq_true c52
                try have c52b2 : (9223372036854775807 < 1 + x5_1.size) = False := eq_false (Nat.not_lt.2 c52)
                obtain rfl := Option.some.inj H
                have hnb53 := NB308_304.out
                have hnc53 := NB304_308.out
                have hcz54_0 : wr.cell? ⟨gb308, 0, none⟩ = some (.int .u64 x309000_1) := (blk_cell BK308.out 0).trans rfl
                have hcz54_1 : wr.cell? ⟨gb308, 1, none⟩ = some (.int .u64 x309001_1) := (blk_cell BK308.out 1).trans rfl
                have hfz54_0 := blk_frozen BK308.out 0
                have hfz54_1 := blk_frozen BK308.out 1
                go_wp2
                go_ret
                exact ⟨by first | rfl | (simp [errW_none, errW_some] <;> rfl) | (simp [*, errW_none, errW_some] <;> rfl), bE⟩
              · rw [if_neg c52] at H
                exact absurd H (by simp)
            · replace c51 := Bool.eq_false_iff.mpr c51
              subst c51
              have H1 : (some x5_1) = some r := by rw [if_neg (show ¬ (false = true) by decide)] at H; exact H
              clear H
              have H := H1
              clear H1
              obtain rfl := Option.some.inj H
              have hnb55 := NB308_304.out
              have hnc55 := NB304_308.out
              have hcz56_0 : wr.cell? ⟨gb308, 0, none⟩ = some (.int .u64 x309000_1) := (blk_cell BK308.out 0).trans rfl
              have hcz56_1 : wr.cell? ⟨gb308, 1, none⟩ = some (.int .u64 x309001_1) := (blk_cell BK308.out 1).trans rfl
              have hfz56_0 := blk_frozen BK308.out 0
              have hfz56_1 := blk_frozen BK308.out 1
              go_wp2
              go_ret
              exact ⟨by first | rfl | (simp [errW_none, errW_some] <;> rfl) | (simp [*, errW_none, errW_some] <;> rfl), bE⟩

end Go.Proofs.Ytkhocaehhflpcaa.PA
