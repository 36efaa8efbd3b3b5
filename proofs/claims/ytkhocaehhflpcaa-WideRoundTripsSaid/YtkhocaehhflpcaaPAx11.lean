/- Contracts of the Go functions and their plain Lean functions, written by a program of this session out of the translation. -/
import Derived.Test.YtkhocaehhflpcaaPAx0
import Derived.Test.YtkhocaehhflpcaaPAx1
import Derived.Test.YtkhocaehhflpcaaPAx2
import Derived.Test.YtkhocaehhflpcaaPAx3
import Derived.Test.YtkhocaehhflpcaaPAx4
namespace Go.Proofs.Ytkhocaehhflpcaa.PA
open Go.RowKit Go.Proofs.YtkhocaehhflpcaaW.PrintWords Go.Proofs.YtkhocaehhflpcaaW.PrintLast Go.Proofs.YtkhocaehhflpcaaW.PrintMore
attribute [local go_sem] max2_int min2_int max_two min_two max_three min_three max_four min_four   -- for this text's walks alone
set_option linter.unusedVariables false
set_option linter.unusedSimpArgs false

attribute [local go_sem high] eqA24 eqA45
/-! ### wide_Text: function 15 -/
def wide_Text.l0 : Nat → ByteArray → Int → Int → Int → Int → Option (ByteArray)
  | 0, _, _, _, _, _ => none
  | k + 1, x5, x203000, x203001, x209000, x209001 => if (!(x209000 == 0) || (!(x209001 == 0))) = true then ((wide_size_divide.f k x209000 x209001 10).bind fun bt209 => (if 0 ≤ bt209.2.2 then (if bt209.2.2 ≤ (IntKind.u64.wrap (bt209.2.2 + 1)) then (if (IntKind.u64.wrap (bt209.2.2 + 1)) ≤ 10 then (if ((⟨#[48, 49, 50, 51, 52, 53, 54, 55, 56, 57]⟩ : ByteArray).extract (bt209.2.2 : Int).toNat ((IntKind.u64.wrap (bt209.2.2 + 1)) : Int).toNat).size + x5.size ≤ 9223372036854775807 then (wide_Text.l0 k (((⟨#[48, 49, 50, 51, 52, 53, 54, 55, 56, 57]⟩ : ByteArray).extract (bt209.2.2 : Int).toNat ((IntKind.u64.wrap (bt209.2.2 + 1)) : Int).toNat) ++ x5) x203000 x203001 bt209.1 bt209.2.1) else (none)) else (none)) else (none)) else (none))) else (if x203000 < 0 then (if 1 + x5.size ≤ 9223372036854775807 then (some ((⟨#[45]⟩ : ByteArray) ++ x5)) else (none)) else (some x5))
def wide_Text.f (k : Nat) (a0_0 : Int) (a0_1 : Int) : Option (ByteArray) := (wide_absolute.f a0_0 a0_1).bind fun bt203 => ((wide_size_divide.f k bt203.1 bt203.2 10).bind fun bt205 => (if 0 ≤ bt205.2.2 then (if bt205.2.2 ≤ (IntKind.u64.wrap (bt205.2.2 + 1)) then (if (IntKind.u64.wrap (bt205.2.2 + 1)) ≤ 10 then (wide_Text.l0 k ((⟨#[48, 49, 50, 51, 52, 53, 54, 55, 56, 57]⟩ : ByteArray).extract (bt205.2.2 : Int).toNat ((IntKind.u64.wrap (bt205.2.2 + 1)) : Int).toNat) a0_0 a0_1 bt205.1 bt205.2.1) else (none)) else (none)) else (none)))
theorem wide_Text.mono_l : ∀ k, (∀ y0 y1 y2 y3 y4, LeO (wide_Text.l0 k y0 y1 y2 y3 y4) (wide_Text.l0 (k + 1) y0 y1 y2 y3 y4))
  | 0 => fun _ _ _ _ _ r h => by simp [wide_Text.l0] at h
  | k + 1 => by
    have ih0 := wide_Text.mono_l k
    · intro y0 y1 y2 y3 y4
      unfold wide_Text.l0
      repeat' first
      | (with_reducible exact ih0 _ _ _ _ _)
      | (with_reducible exact wide_size_divide.mono _ _ _ _)
      | (with_reducible exact LeO.refl _)
      | (with_reducible exact LeO.none _)
      | (with_reducible refine LeO.ite ?_ ?_)
      | (with_reducible refine LeO.bind ?_ (fun _ => ?_))
      | exact ih0 _ _ _ _ _
      | exact wide_size_divide.mono _ _ _ _
      | exact LeO.none _
      | refine LeO.ite ?_ ?_
      | refine LeO.bind ?_ (fun _ => ?_)
theorem wide_Text.mono : ∀ a0 a1 k, LeO (wide_Text.f k a0 a1) (wide_Text.f (k + 1) a0 a1) := by
  intro a0 a1 k
  have ih0 := wide_Text.mono_l k
  unfold wide_Text.f
  repeat' first
      | (with_reducible exact ih0 _ _ _ _ _)
      | (with_reducible exact wide_size_divide.mono _ _ _ _)
      | (with_reducible exact LeO.refl _)
      | (with_reducible exact LeO.none _)
      | (with_reducible refine LeO.ite ?_ ?_)
      | (with_reducible refine LeO.bind ?_ (fun _ => ?_))
      | exact ih0 _ _ _ _ _
      | exact wide_size_divide.mono _ _ _ _
      | exact LeO.none _
      | refine LeO.ite ?_ ?_
      | refine LeO.bind ?_ (fun _ => ?_)
set_option maxHeartbeats 8000000 in
set_option maxRecDepth 100000 in
theorem wide_Text.calls (k : Nat) (a0_0 : Int) (a0_1 : Int) (r : ByteArray) (w : World) (h : wide_Text.f k a0_0 a0_1 = some r) :
    Calls Try.prog 15 #[.agg #[.int .i64 a0_0, .int .u64 a0_1]] w fun e w' => e = .returned (.string r) ∧ Below w.heap.size w w' := by
  have hu24 := Try.underlying24
  have hu45 := Try.underlying45
  have HB := Aside0.mk (Below.refl w.heap.size w)
  have H : ((wide_absolute.f a0_0 a0_1).bind fun bt203 => ((wide_size_divide.f k bt203.1 bt203.2 10).bind fun bt205 => (if 0 ≤ bt205.2.2 then (if bt205.2.2 ≤ (IntKind.u64.wrap (bt205.2.2 + 1)) then (if (IntKind.u64.wrap (bt205.2.2 + 1)) ≤ 10 then (wide_Text.l0 k ((⟨#[48, 49, 50, 51, 52, 53, 54, 55, 56, 57]⟩ : ByteArray).extract (bt205.2.2 : Int).toNat ((IntKind.u64.wrap (bt205.2.2 + 1)) : Int).toNat) a0_0 a0_1 bt205.1 bt205.2.1) else (none)) else (none)) else (none)))) = some r := h
  clear h
  replace H := Option.bind_eq_some_iff.mp H
  obtain ⟨⟨t203, t204⟩, A20, H⟩ := H
  replace H : ((wide_size_divide.f k t203 t204 10).bind fun bt205 => (if 0 ≤ bt205.2.2 then (if bt205.2.2 ≤ (IntKind.u64.wrap (bt205.2.2 + 1)) then (if (IntKind.u64.wrap (bt205.2.2 + 1)) ≤ 10 then (wide_Text.l0 k ((⟨#[48, 49, 50, 51, 52, 53, 54, 55, 56, 57]⟩ : ByteArray).extract (bt205.2.2 : Int).toNat ((IntKind.u64.wrap (bt205.2.2 + 1)) : Int).toNat) a0_0 a0_1 bt205.1 bt205.2.1) else (none)) else (none)) else (none))) = some r := H
  have A2 := Aside0.mk A20
  clear A20
  replace H := Option.bind_eq_some_iff.mp H
  obtain ⟨⟨t205, t206, t207⟩, A30, H⟩ := H
  replace H : (if 0 ≤ t207 then (if t207 ≤ (IntKind.u64.wrap (t207 + 1)) then (if (IntKind.u64.wrap (t207 + 1)) ≤ 10 then (wide_Text.l0 k ((⟨#[48, 49, 50, 51, 52, 53, 54, 55, 56, 57]⟩ : ByteArray).extract (t207 : Int).toNat ((IntKind.u64.wrap (t207 + 1)) : Int).toNat) a0_0 a0_1 t205 t206) else (none)) else (none)) else (none)) = some r := H
  have A3 := Aside0.mk A30
  clear A30
  by_cases c4 : 0 ≤ t207
  · rw [if_pos c4] at H
    have c4b0 := eq_true c4
    have c4b1 : decide (0 ≤ t207) = true := decide_eq_true c4
    clear c4
    by_cases c5 : t207 ≤ (IntKind.u64.wrap (t207 + 1))
    · rw [if_pos c5] at H
      have c5b0 := eq_true c5
      have c5b1 : decide (t207 ≤ (IntKind.u64.wrap (t207 + 1))) = true := decide_eq_true c5
      by_cases c6 : (IntKind.u64.wrap (t207 + 1)) ≤ 10
      · rw [if_pos c6] at H
        have c6b0 := eq_true c6
        have c6b1 : decide ((IntKind.u64.wrap (t207 + 1)) ≤ 10) = true := decide_eq_true c6
        have H' := Aside0.mk H
        clear H
        go_enter Try.func15, Try.ntmps15
        go_wp2_with (first | ((with_reducible refine gate_dst (N := 1) rfl ?_); refine box_event ?hg (N := 1) ?hd (cs := #[.int .i64 a0_0, .int .u64 a0_1]) (t := 24) ?hr ?_; (case hd => rfl); (case hg => rfl); (case hr => first | (go_simp; done) | (go_simp; rfl)); intro gb202 hg w7 hbox hb; have nn_ := bT hb hg; have BK202 := Aside0.mk (hbox); have GW202 := Aside0.mk nn_.2; have GE202 := GW202; replace HB := Aside0.mk nn_.1; clear nn_; clear hb hbox hg; have hcz8_0 : w7.cell? ⟨gb202, 0, none⟩ = some (.int .i64 a0_0) := (blk_cell BK202.out 0).trans rfl; have hcz8_1 : w7.cell? ⟨gb202, 1, none⟩ = some (.int .u64 a0_1) := (blk_cell BK202.out 1).trans rfl; have hfz8_0 := blk_frozen BK202.out 0; have hfz8_1 := blk_frozen BK202.out 1) | ((with_reducible refine gate_callee (f := 31) rfl ?_); refine goesL_ (some 8) rfl rfl Try.func31 (by kernel_rfl) rfl #[.agg #[.int .i64 a0_0, .int .u64 a0_1]] rfl aG ?_; (with_reducible refine (wide_absolute.calls a0_0 a0_1 t203 t204 _ A2.out).mono ?_); rintro e w9 ⟨rfl, hb⟩; refine ⟨_, rfl, ?_⟩; replace BK202 := Aside0.mk (bK BK202 hb); replace HB := Aside0.mk (bS hb); (try clear hb); (try clear hb2); (try clear hk); (try clear hi)) | ((with_reducible refine gate_callee (f := 32) rfl ?_); refine goesL_ (some 9) rfl rfl Try.func32 (by kernel_rfl) rfl #[.agg #[.int .u64 t203, .int .u64 t204], .int .u64 10] rfl aG ?_; (with_reducible refine (wide_size_divide.calls k t203 t204 10 t205 t206 t207 _ A3.out).mono ?_); rintro e w10 ⟨rfl, hb⟩; refine ⟨_, rfl, ?_⟩; replace BK202 := Aside0.mk (bK BK202 hb); replace HB := Aside0.mk (bS hb); (try clear hb); (try clear hb2); (try clear hk); (try clear hi)) | ((with_reducible refine gate_dst (N := 3) rfl ?_); refine box_event ?hg (N := 3) ?hd (cs := #[.int .u64 0, .int .u64 0]) (t := 45) ?hr ?_; (case hd => rfl); (case hg => rfl); (case hr => first | (go_simp; done) | (go_simp; rfl)); intro gb208 hg w11 hbox hb; have nn_ := bT hb hg; have bgb202_ := bN BK202 hb hg; have BK208 := Aside0.mk (hbox); have GW208 := Aside0.mk nn_.2; have GE208 := GW208; have NB202_208 := Aside0.mk bgb202_.2.1; have NB208_202 := Aside0.mk bgb202_.2.2; replace BK202 := Aside0.mk bgb202_.1; replace HB := Aside0.mk nn_.1; clear nn_ bgb202_; clear hb hbox hg; have hnb12 := NB208_202.out; have hnc12 := NB202_208.out; have hcz13_0 : w11.cell? ⟨gb208, 0, none⟩ = some (.int .u64 0) := (blk_cell BK208.out 0).trans rfl; have hcz13_1 : w11.cell? ⟨gb208, 1, none⟩ = some (.int .u64 0) := (blk_cell BK208.out 1).trans rfl; have hfz13_0 := blk_frozen BK208.out 0; have hfz13_1 := blk_frozen BK208.out 1))
        go_loopg [5] k (fun kq v5 w' => ∃ (x5_1 : ByteArray) (x209000_1 : Int) (x209001_1 : Int), v5 = .string x5_1 ∧ Aside0 (wide_Text.l0 kq x5_1 a0_0 a0_1 x209000_1 x209001_1 = some r) ∧ Aside0 (kq ≤ k) ∧ Aside0 (w'.heap[gb202]? = some (.cells #[.int .i64 a0_0, .int .u64 a0_1] 24 (0, 0))) ∧ Aside0 (w'.heap[gb208]? = some (.cells #[.int .u64 x209000_1, .int .u64 x209001_1] 45 (0, 0))) ∧ Aside0 (Below w.heap.size w w'))
        case atStart => exact ⟨((⟨#[48, 49, 50, 51, 52, 53, 54, 55, 56, 57]⟩ : ByteArray).extract (t207 : Int).toNat ((IntKind.u64.wrap (t207 + 1)) : Int).toNat), (t205), (t206), (by first | rfl | (simp; done) | (simp [*]; done)), H', ⟨Nat.le_refl _⟩, ⟨by (with_reducible repeat (first | refine blk_drewN ?_ _ | refine blk_drew ?_ | refine blk_alloc ?_ _)); refine blk_far ?_ NB202_208.out _; (with_reducible repeat (first | refine blk_drewN ?_ _ | refine blk_drew ?_ | refine blk_alloc ?_ _)); refine blk_far ?_ NB202_208.out _; (with_reducible repeat (first | refine blk_drewN ?_ _ | refine blk_drew ?_ | refine blk_alloc ?_ _)); exact BK202.out⟩, ⟨by (with_reducible repeat (first | refine blk_drewN ?_ _ | refine blk_drew ?_ | refine blk_alloc ?_ _)); refine blk_put (cs := #[.int .u64 t205, .int .u64 0]) ?_ 1 _ rfl; (with_reducible repeat (first | refine blk_drewN ?_ _ | refine blk_drew ?_ | refine blk_alloc ?_ _)); refine blk_put (cs := #[.int .u64 0, .int .u64 0]) ?_ 0 _ rfl; (with_reducible repeat (first | refine blk_drewN ?_ _ | refine blk_drew ?_ | refine blk_alloc ?_ _)); exact BK208.out⟩, ⟨bE⟩⟩
        case round =>
          clear H'
          try clear c1
          try clear p2
          try clear c3
          try clear c4
          try clear c4b0
          try clear c4b1
          try clear c5
          try clear c5b0
          try clear c5b1
          try clear c6
          try clear c6b0
          try clear c6b1
          try clear c12
          try clear hcz13_0
          try clear hcz13_1
          try clear hcz8_0
          try clear hcz8_1
          try clear hfz13_0
          try clear hfz13_1
          try clear hfz8_0
          try clear hfz8_1
          obtain ⟨x5_1, x209000_1, x209001_1, rfl, HA, HK1, BK202, BK208, HB⟩ := hrel
          cases gk with
          | zero => exact absurd HA.out (by simp [wide_Text.l0])
          | succ k1 =>
            have H := HA.out
            clear HA
            simp only [wide_Text.l0] at H
            by_cases c14 : (!(x209000_1 == 0) || (!(x209001_1 == 0))) = true
            · rw [if_pos c14] at H
              have c14b0 : (!(x209000_1 == 0) || (!(x209001_1 == 0))) = true := c14
              clear c14
              replace H := Option.bind_eq_some_iff.mp H
              obtain ⟨⟨t209, t210, t211⟩, A150, H⟩ := H
              replace H : (if 0 ≤ t211 then (if t211 ≤ (IntKind.u64.wrap (t211 + 1)) then (if (IntKind.u64.wrap (t211 + 1)) ≤ 10 then (if ((⟨#[48, 49, 50, 51, 52, 53, 54, 55, 56, 57]⟩ : ByteArray).extract (t211 : Int).toNat ((IntKind.u64.wrap (t211 + 1)) : Int).toNat).size + x5_1.size ≤ 9223372036854775807 then (wide_Text.l0 k1 (((⟨#[48, 49, 50, 51, 52, 53, 54, 55, 56, 57]⟩ : ByteArray).extract (t211 : Int).toNat ((IntKind.u64.wrap (t211 + 1)) : Int).toNat) ++ x5_1) a0_0 a0_1 t209 t210) else (none)) else (none)) else (none)) else (none)) = some r := H
              have A15 := Aside0.mk A150
              clear A150
              by_cases c16 : 0 ≤ t211
              · rw [if_pos c16] at H
                have c16b0 := eq_true c16
                have c16b1 : decide (0 ≤ t211) = true := decide_eq_true c16
                clear c16
                by_cases c17 : t211 ≤ (IntKind.u64.wrap (t211 + 1))
                · rw [if_pos c17] at H
                  have c17b0 := eq_true c17
                  have c17b1 : decide (t211 ≤ (IntKind.u64.wrap (t211 + 1))) = true := decide_eq_true c17
                  by_cases c18 : (IntKind.u64.wrap (t211 + 1)) ≤ 10
                  · rw [if_pos c18] at H
                    have c18b0 := eq_true c18
                    have c18b1 : decide ((IntKind.u64.wrap (t211 + 1)) ≤ 10) = true := decide_eq_true c18
                    by_cases c19 : ((⟨#[48, 49, 50, 51, 52, 53, 54, 55, 56, 57]⟩ : ByteArray).extract (t211 : Int).toNat ((IntKind.u64.wrap (t211 + 1)) : Int).toNat).size + x5_1.size ≤ 9223372036854775807
                    · rw [if_pos c19] at H
                      have c19b0 := eq_true c19
                      have c19b1 : decide (((⟨#[48, 49, 50, 51, 52, 53, 54, 55, 56, 57]⟩ : ByteArray).extract (t211 : Int).toNat ((IntKind.u64.wrap (t211 + 1)) : Int).toNat).size + x5_1.size ≤ 9223372036854775807) = true := decide_eq_true c19
                      try have c19b2 : (9223372036854775807 < ((⟨#[48, 49, 50, 51, 52, 53, 54, 55, 56, 57]⟩ : ByteArray).extract (t211 : Int).toNat ((IntKind.u64.wrap (t211 + 1)) : Int).toNat).size + x5_1.size) = False := eq_false (Nat.not_lt.2 c19)
                      have H' := Aside0.mk H
                      clear H
                      have hnb20 := NB208_202.out
                      have hnc20 := NB202_208.out
                      have hcz21_0 : wr.cell? ⟨gb208, 0, none⟩ = some (.int .u64 x209000_1) := (blk_cell BK208.out 0).trans rfl
                      have hcz21_1 : wr.cell? ⟨gb208, 1, none⟩ = some (.int .u64 x209001_1) := (blk_cell BK208.out 1).trans rfl
                      have hfz21_0 := blk_frozen BK208.out 0
                      have hfz21_1 := blk_frozen BK208.out 1
                      go_wp2_with (first | ((with_reducible refine gate_callee (f := 32) rfl ?_); refine goesL_ (some 21) rfl rfl Try.func32 (by kernel_rfl) rfl #[.agg #[.int .u64 x209000_1, .int .u64 x209001_1], .int .u64 10] rfl aG ?_; (with_reducible refine (wide_size_divide.calls k1 x209000_1 x209001_1 10 t209 t210 t211 _ A15.out).mono ?_); rintro e w22 ⟨rfl, hb⟩; refine ⟨_, rfl, ?_⟩; replace BK202 := Aside0.mk (bK BK202 hb); replace BK208 := Aside0.mk (bK BK208 hb); replace HB := Aside0.mk (bS hb); (try clear hb); (try clear hb2); (try clear hk); (try clear hi); have hcz23_0 : w22.cell? ⟨gb208, 0, none⟩ = some (.int .u64 x209000_1) := (blk_cell BK208.out 0).trans rfl; have hcz23_1 : w22.cell? ⟨gb208, 1, none⟩ = some (.int .u64 x209001_1) := (blk_cell BK208.out 1).trans rfl; have hfz23_0 := blk_frozen BK208.out 0; have hfz23_1 := blk_frozen BK208.out 1))
                      go_roundg k1
                      case measure => have := HK1.out; omega
                      case rel => exact ⟨(((⟨#[48, 49, 50, 51, 52, 53, 54, 55, 56, 57]⟩ : ByteArray).extract (t211 : Int).toNat ((IntKind.u64.wrap (t211 + 1)) : Int).toNat) ++ x5_1), (t209), (t210), (by first | rfl | (simp; done) | (simp [*]; done)), H', ⟨by have := HK1.out; omega⟩, ⟨by (with_reducible repeat (first | refine blk_drewN ?_ _ | refine blk_drew ?_ | refine blk_alloc ?_ _)); refine blk_far ?_ NB202_208.out _; (with_reducible repeat (first | refine blk_drewN ?_ _ | refine blk_drew ?_ | refine blk_alloc ?_ _)); refine blk_far ?_ NB202_208.out _; (with_reducible repeat (first | refine blk_drewN ?_ _ | refine blk_drew ?_ | refine blk_alloc ?_ _)); exact BK202.out⟩, ⟨by (with_reducible repeat (first | refine blk_drewN ?_ _ | refine blk_drew ?_ | refine blk_alloc ?_ _)); refine blk_put (cs := #[.int .u64 t209, .int .u64 x209001_1]) ?_ 1 _ rfl; (with_reducible repeat (first | refine blk_drewN ?_ _ | refine blk_drew ?_ | refine blk_alloc ?_ _)); refine blk_put (cs := #[.int .u64 x209000_1, .int .u64 x209001_1]) ?_ 0 _ rfl; (with_reducible repeat (first | refine blk_drewN ?_ _ | refine blk_drew ?_ | refine blk_alloc ?_ _)); exact BK208.out⟩, ⟨bE⟩⟩
                    · rw [if_neg c19] at H
                      exact absurd H (by simp)
                  · rw [if_neg c18] at H
                    exact absurd H (by simp)
                · rw [if_neg c17] at H
                  exact absurd H (by simp)
              · rw [if_neg c16] at H
                exact absurd H (by simp)
            · rw [if_neg c14] at H
              have c14b0 : (!(x209000_1 == 0) || (!(x209001_1 == 0))) = false := by simpa using c14
              clear c14
              by_cases c24 : a0_0 < 0
              · rw [if_pos c24] at H
                have c24b0 : decide (a0_0 < 0) = true := decide_eq_true c24
                clear c24
                by_cases c25 : 1 + x5_1.size ≤ 9223372036854775807
                · rw [if_pos c25] at H
                  have c25b0 := eq_true c25
                  have c25b1 : decide (1 + x5_1.size ≤ 9223372036854775807) = true := decide_eq_true c25
                  try have c25b2 : (9223372036854775807 < 1 + x5_1.size) = False := eq_false (Nat.not_lt.2 c25)
                  obtain rfl := Option.some.inj H
                  have hnb26 := NB208_202.out
                  have hnc26 := NB202_208.out
                  have hcz27_0 : wr.cell? ⟨gb208, 0, none⟩ = some (.int .u64 x209000_1) := (blk_cell BK208.out 0).trans rfl
                  have hcz27_1 : wr.cell? ⟨gb208, 1, none⟩ = some (.int .u64 x209001_1) := (blk_cell BK208.out 1).trans rfl
                  have hfz27_0 := blk_frozen BK208.out 0
                  have hfz27_1 := blk_frozen BK208.out 1
                  have hcz28_0 : wr.cell? ⟨gb202, 0, none⟩ = some (.int .i64 a0_0) := (blk_cell BK202.out 0).trans rfl
                  have hcz28_1 : wr.cell? ⟨gb202, 1, none⟩ = some (.int .u64 a0_1) := (blk_cell BK202.out 1).trans rfl
                  have hfz28_0 := blk_frozen BK202.out 0
                  have hfz28_1 := blk_frozen BK202.out 1
                  go_wp2
                  go_ret
                  exact ⟨by first | rfl | (simp [errW_none, errW_some] <;> rfl) | (simp [*, errW_none, errW_some] <;> rfl), bE⟩
                · rw [if_neg c25] at H
                  exact absurd H (by simp)
              · rw [if_neg c24] at H
                have c24b0 : decide (a0_0 < 0) = false := decide_eq_false c24
                clear c24
                obtain rfl := Option.some.inj H
                have hnb29 := NB208_202.out
                have hnc29 := NB202_208.out
                have hcz30_0 : wr.cell? ⟨gb208, 0, none⟩ = some (.int .u64 x209000_1) := (blk_cell BK208.out 0).trans rfl
                have hcz30_1 : wr.cell? ⟨gb208, 1, none⟩ = some (.int .u64 x209001_1) := (blk_cell BK208.out 1).trans rfl
                have hfz30_0 := blk_frozen BK208.out 0
                have hfz30_1 := blk_frozen BK208.out 1
                have hcz31_0 : wr.cell? ⟨gb202, 0, none⟩ = some (.int .i64 a0_0) := (blk_cell BK202.out 0).trans rfl
                have hcz31_1 : wr.cell? ⟨gb202, 1, none⟩ = some (.int .u64 a0_1) := (blk_cell BK202.out 1).trans rfl
                have hfz31_0 := blk_frozen BK202.out 0
                have hfz31_1 := blk_frozen BK202.out 1
                go_wp2
                go_ret
                exact ⟨by first | rfl | (simp [errW_none, errW_some] <;> rfl) | (simp [*, errW_none, errW_some] <;> rfl), bE⟩
      · rw [if_neg c6] at H
        exact absurd H (by simp)
    · rw [if_neg c5] at H
      exact absurd H (by simp)
  · rw [if_neg c4] at H
    exact absurd H (by simp)

/-! ### wide_Of: function 23 -/
def wide_Of.f (a0 : Int) : Option (Int × Int) := some (a0 / 9223372036854775808, IntKind.u64.wrap (a0))
set_option maxHeartbeats 8000000 in
set_option maxRecDepth 100000 in
theorem wide_Of.calls (a0 : Int) (r1 : Int) (r2 : Int) (w : World) (h : wide_Of.f a0 = some (r1, r2)) :
    Calls Try.prog 23 #[.int .i64 a0] w fun e w' => e = .returned (.agg #[.int .i64 r1, .int .u64 r2]) ∧ Below w.heap.size w w' := by
  have hu24 := Try.underlying24
  have HB := Aside0.mk (Below.refl w.heap.size w)
  have H : (some (a0 / 9223372036854775808, IntKind.u64.wrap (a0))) = some (r1, r2) := h
  clear h
  simp only [Option.some.injEq, Prod.mk.injEq] at H
  obtain ⟨rfl, rfl⟩ := H
  go_enter Try.func23, Try.ntmps23
  go_wp2_with (first | ((with_reducible refine gate_dst (N := 2) rfl ?_); refine box_event ?hg (N := 2) ?hd (cs := #[.int .i64 0, .int .u64 0]) (t := 24) ?hr ?_; (case hd => rfl); (case hg => rfl); (case hr => first | (go_simp; done) | (go_simp; rfl)); intro gb212 hg w2 hbox hb; have nn_ := bT hb hg; have BK212 := Aside0.mk (hbox); have GW212 := Aside0.mk nn_.2; have GE212 := GW212; replace HB := Aside0.mk nn_.1; clear nn_; clear hb hbox hg; have hcz3_0 : w2.cell? ⟨gb212, 0, none⟩ = some (.int .i64 0) := (blk_cell BK212.out 0).trans rfl; have hcz3_1 : w2.cell? ⟨gb212, 1, none⟩ = some (.int .u64 0) := (blk_cell BK212.out 1).trans rfl; have hfz3_0 := blk_frozen BK212.out 0; have hfz3_1 := blk_frozen BK212.out 1))
  refine bodyPost_ret (results_cell_row rfl _ _ gb212 24 #[.int .i64 (a0 / 9223372036854775808), .int .u64 (IntKind.u64.wrap (a0))] (0, 0) _ rfl (by (with_reducible repeat (first | refine blk_drewN ?_ _ | refine blk_drew ?_ | refine blk_alloc ?_ _)); refine blk_put (cs := #[.int .i64 (a0 / 9223372036854775808), .int .u64 0]) ?_ 1 _ rfl; (with_reducible repeat (first | refine blk_drewN ?_ _ | refine blk_drew ?_ | refine blk_alloc ?_ _)); refine blk_put (cs := #[.int .i64 0, .int .u64 0]) ?_ 0 _ rfl; (with_reducible repeat (first | refine blk_drewN ?_ _ | refine blk_drew ?_ | refine blk_alloc ?_ _)); exact BK212.out) Try.underlying24 rfl (by kernel_rfl)) rfl ?_
  exact ⟨by first | rfl | (simp [errW_none, errW_some] <;> rfl) | (simp [*, errW_none, errW_some] <;> rfl), bE⟩

/-! ### wide_Int: function 19 -/
def wide_Int.f (a0_0 : Int) (a0_1 : Int) : Option (Int × Bool) := (wide_Of.f (wrap64 (a0_1))).bind fun bt214 => (if (!(bt214.1 == a0_0) || (!(bt214.2 == a0_1))) = true then (some (0, false)) else (some (wrap64 (a0_1), true)))
set_option maxHeartbeats 8000000 in
set_option maxRecDepth 100000 in
theorem wide_Int.calls (a0_0 : Int) (a0_1 : Int) (r1 : Int) (r2 : Bool) (w : World) (h : wide_Int.f a0_0 a0_1 = some (r1, r2)) :
    Calls Try.prog 19 #[.agg #[.int .i64 a0_0, .int .u64 a0_1]] w fun e w' => e = .returned (.tuple #[.int .i64 r1, .bool r2]) ∧ Below w.heap.size w w' := by
  have hu24 := Try.underlying24
  have HB := Aside0.mk (Below.refl w.heap.size w)
  have H : ((wide_Of.f (wrap64 (a0_1))).bind fun bt214 => (if (!(bt214.1 == a0_0) || (!(bt214.2 == a0_1))) = true then (some (0, false)) else (some (wrap64 (a0_1), true)))) = some (r1, r2) := h
  clear h
  replace H := Option.bind_eq_some_iff.mp H
  obtain ⟨⟨t214, t215⟩, A20, H⟩ := H
  replace H : (if (!(t214 == a0_0) || (!(t215 == a0_1))) = true then (some (0, false)) else (some (wrap64 (a0_1), true))) = some (r1, r2) := H
  have A2 := Aside0.mk A20
  clear A20
  by_cases c3 : (!(t214 == a0_0) || (!(t215 == a0_1))) = true
  · rw [if_pos c3] at H
    have c3b0 : (!(t214 == a0_0) || (!(t215 == a0_1))) = true := c3
    clear c3
    simp only [Option.some.injEq, Prod.mk.injEq] at H
    obtain ⟨rfl, rfl⟩ := H
    go_enter Try.func19, Try.ntmps19
    try go_wp2_with (first | ((with_reducible refine gate_dst (N := 1) rfl ?_); refine box_event ?hg (N := 1) ?hd (cs := #[.int .i64 a0_0, .int .u64 a0_1]) (t := 24) ?hr ?_; (case hd => rfl); (case hg => rfl); (case hr => first | (go_simp; done) | (go_simp; rfl)); intro gb213 hg w4 hbox hb; have nn_ := bT hb hg; have BK213 := Aside0.mk (hbox); have GW213 := Aside0.mk nn_.2; have GE213 := GW213; replace HB := Aside0.mk nn_.1; clear nn_; clear hb hbox hg; have hcz5_0 : w4.cell? ⟨gb213, 0, none⟩ = some (.int .i64 a0_0) := (blk_cell BK213.out 0).trans rfl; have hcz5_1 : w4.cell? ⟨gb213, 1, none⟩ = some (.int .u64 a0_1) := (blk_cell BK213.out 1).trans rfl; have hfz5_0 := blk_frozen BK213.out 0; have hfz5_1 := blk_frozen BK213.out 1))
    have n0_ := Aside0.mk (blk_drew BK213.out)
    have n1_ := Aside0.mk (below_drew1 HB.out)
    clear BK213
    clear HB
    have BK213 := n0_
    have HB := n1_
    clear n0_ n1_
    refine start_ (n := 4) (S := fun w' => w'.cell? ⟨gb213, 0, none⟩ = some (.int .i64 a0_0) ∧ w'.cell? ⟨gb213, 1, none⟩ = some (.int .u64 a0_1)) (ds := []) #[false, false, false, false] (by kernel_rfl) rfl rfl ⟨(blk_cell BK213.out 0).trans rfl, (blk_cell BK213.out 1).trans rfl⟩ (fun hHeld => ?_)
    generalize w4.drew = w6 at BK213 HB hHeld ⊢
    refine pure_ (i := 0) (N := some 8) (v := ?_) (a' := ?_) #[true, false, false, false] rfl rfl (by kernel_rfl) (fun _ _ _ h => h) (Or.inl ⟨by rfl, ?_⟩) ?_ ?_
    rotate_left
    · intro w'
      go_simp
      with_reducible rfl
    rotate_left
    · simp only [Act.put, List.setIfInBounds_toArray, List.set_cons_zero, List.set_cons_succ, i64_w, i32_w]
      rfl
    refine take_ (i := 2) (N := some 10) (v := ?_) (a' := ?_) #[true, false, true, false] rfl rfl (by kernel_rfl) (fun _ _ _ h => h) (Or.inl ⟨by rfl, ?_⟩) hHeld ?_ ?_
    rotate_left
    · rintro w' ⟨s0, s1⟩
      go_simp
      with_reducible rfl
    rotate_left
    · simp only [Act.put, List.setIfInBounds_toArray, List.set_cons_zero, List.set_cons_succ, i64_w, i32_w]
      rfl
    refine one_ (i := 1) (N := some 9) #[true, true, true, false] rfl rfl (by kernel_rfl) (by decide) (fun K hK => ?_)
    refine goes_ Try.func23 (by kernel_rfl) rfl #[.int .i64 (wrap64 (a0_1))] (by rfl) rfl rfl aG ?_
    with_reducible refine (wide_Of.calls (wrap64 (a0_1)) t214 t215 _ A2.out).mono ?_
    rintro e w7 ⟨rfl, hb⟩
    refine ⟨_, rfl, ?_⟩
    have n0_ := Aside0.mk (bK BK213 hb)
    have n1_ := Aside0.mk (bS hb)
    clear BK213
    clear HB
    have BK213 := n0_
    have HB := n1_
    clear n0_ n1_
    (try clear hb)
    (try clear hb2)
    (try clear hk)
    (try clear hi)
    refine hK.out _ _ ⟨(blk_cell BK213.out 0).trans rfl, (blk_cell BK213.out 1).trans rfl⟩ (fun hHeld => ?_)
    clear hK K
    refine norm_ (a' := ?_) ?_ ?_
    rotate_left
    · show Act.put _ (some 9) _ = _
      simp only [Act.put, List.setIfInBounds_toArray, List.set_cons_zero, List.set_cons_succ, i64_w, i32_w]
      rfl
    refine pure_ (i := 3) (N := some 11) (v := ?_) (a' := ?_) #[true, true, true, true] rfl rfl (by kernel_rfl) (fun _ _ _ h => h) (Or.inl ⟨by rfl, ?_⟩) ?_ ?_
    rotate_left
    · intro w'
      go_simp
      with_reducible rfl
    rotate_left
    · simp only [Act.put, List.setIfInBounds_toArray, List.set_cons_zero, List.set_cons_succ, i64_w, i32_w]
      rfl
    refine done_ (by kernel_rfl) ?_
    try go_wp2
    go_ret2
    exact ⟨by first | rfl | (simp [errW_none, errW_some] <;> rfl) | (simp [*, errW_none, errW_some] <;> rfl), bE⟩
  · rw [if_neg c3] at H
    have c3b0 : (!(t214 == a0_0) || (!(t215 == a0_1))) = false := by simpa using c3
    clear c3
    simp only [Option.some.injEq, Prod.mk.injEq] at H
    obtain ⟨rfl, rfl⟩ := H
    go_enter Try.func19, Try.ntmps19
    try go_wp2_with (first | ((with_reducible refine gate_dst (N := 1) rfl ?_); refine box_event ?hg (N := 1) ?hd (cs := #[.int .i64 a0_0, .int .u64 a0_1]) (t := 24) ?hr ?_; (case hd => rfl); (case hg => rfl); (case hr => first | (go_simp; done) | (go_simp; rfl)); intro gb213 hg w8 hbox hb; have nn_ := bT hb hg; have BK213 := Aside0.mk (hbox); have GW213 := Aside0.mk nn_.2; have GE213 := GW213; replace HB := Aside0.mk nn_.1; clear nn_; clear hb hbox hg; have hcz9_0 : w8.cell? ⟨gb213, 0, none⟩ = some (.int .i64 a0_0) := (blk_cell BK213.out 0).trans rfl; have hcz9_1 : w8.cell? ⟨gb213, 1, none⟩ = some (.int .u64 a0_1) := (blk_cell BK213.out 1).trans rfl; have hfz9_0 := blk_frozen BK213.out 0; have hfz9_1 := blk_frozen BK213.out 1))
    have n0_ := Aside0.mk (blk_drew BK213.out)
    have n1_ := Aside0.mk (below_drew1 HB.out)
    clear BK213
    clear HB
    have BK213 := n0_
    have HB := n1_
    clear n0_ n1_
    refine start_ (n := 4) (S := fun w' => w'.cell? ⟨gb213, 0, none⟩ = some (.int .i64 a0_0) ∧ w'.cell? ⟨gb213, 1, none⟩ = some (.int .u64 a0_1)) (ds := []) #[false, false, false, false] (by kernel_rfl) rfl rfl ⟨(blk_cell BK213.out 0).trans rfl, (blk_cell BK213.out 1).trans rfl⟩ (fun hHeld => ?_)
    generalize w8.drew = w10 at BK213 HB hHeld ⊢
    refine pure_ (i := 0) (N := some 8) (v := ?_) (a' := ?_) #[true, false, false, false] rfl rfl (by kernel_rfl) (fun _ _ _ h => h) (Or.inl ⟨by rfl, ?_⟩) ?_ ?_
    rotate_left
    · intro w'
      go_simp
      with_reducible rfl
    rotate_left
    · simp only [Act.put, List.setIfInBounds_toArray, List.set_cons_zero, List.set_cons_succ, i64_w, i32_w]
      rfl
    refine take_ (i := 2) (N := some 10) (v := ?_) (a' := ?_) #[true, false, true, false] rfl rfl (by kernel_rfl) (fun _ _ _ h => h) (Or.inl ⟨by rfl, ?_⟩) hHeld ?_ ?_
    rotate_left
    · rintro w' ⟨s0, s1⟩
      go_simp
      with_reducible rfl
    rotate_left
    · simp only [Act.put, List.setIfInBounds_toArray, List.set_cons_zero, List.set_cons_succ, i64_w, i32_w]
      rfl
    refine one_ (i := 1) (N := some 9) #[true, true, true, false] rfl rfl (by kernel_rfl) (by decide) (fun K hK => ?_)
    refine goes_ Try.func23 (by kernel_rfl) rfl #[.int .i64 (wrap64 (a0_1))] (by rfl) rfl rfl aG ?_
    with_reducible refine (wide_Of.calls (wrap64 (a0_1)) t214 t215 _ A2.out).mono ?_
    rintro e w11 ⟨rfl, hb⟩
    refine ⟨_, rfl, ?_⟩
    have n0_ := Aside0.mk (bK BK213 hb)
    have n1_ := Aside0.mk (bS hb)
    clear BK213
    clear HB
    have BK213 := n0_
    have HB := n1_
    clear n0_ n1_
    (try clear hb)
    (try clear hb2)
    (try clear hk)
    (try clear hi)
    refine hK.out _ _ ⟨(blk_cell BK213.out 0).trans rfl, (blk_cell BK213.out 1).trans rfl⟩ (fun hHeld => ?_)
    clear hK K
    refine norm_ (a' := ?_) ?_ ?_
    rotate_left
    · show Act.put _ (some 9) _ = _
      simp only [Act.put, List.setIfInBounds_toArray, List.set_cons_zero, List.set_cons_succ, i64_w, i32_w]
      rfl
    refine pure_ (i := 3) (N := some 11) (v := ?_) (a' := ?_) #[true, true, true, true] rfl rfl (by kernel_rfl) (fun _ _ _ h => h) (Or.inl ⟨by rfl, ?_⟩) ?_ ?_
    rotate_left
    · intro w'
      go_simp
      with_reducible rfl
    rotate_left
    · simp only [Act.put, List.setIfInBounds_toArray, List.set_cons_zero, List.set_cons_succ, i64_w, i32_w]
      rfl
    refine done_ (by kernel_rfl) ?_
    try go_wp2
    go_ret2
    exact ⟨by first | rfl | (simp [errW_none, errW_some] <;> rfl) | (simp [*, errW_none, errW_some] <;> rfl), bE⟩

/-! ### wide_abs: function 41 -/
def wide_abs.f (a0 : Int) : Option (Int) := if a0 < 0 then (some (IntKind.u64.wrap (-(IntKind.u64.wrap (a0))))) else (some (IntKind.u64.wrap (a0)))
set_option maxHeartbeats 8000000 in
set_option maxRecDepth 100000 in
theorem wide_abs.calls (a0 : Int) (r : Int) (w : World) (h : wide_abs.f a0 = some r) :
    Calls Try.prog 41 #[.int .i64 a0] w fun e w' => e = .returned (.int .u64 r) ∧ Drawn0 w w' := by
  have H : (if a0 < 0 then (some (IntKind.u64.wrap (-(IntKind.u64.wrap (a0))))) else (some (IntKind.u64.wrap (a0)))) = some r := h
  clear h
  by_cases c2 : a0 < 0
  · rw [if_pos c2] at H
    have c2b0 : decide (a0 < 0) = true := decide_eq_true c2
    clear c2
    obtain rfl := Option.some.inj H
    go_enter Try.func41, Try.ntmps41
    go_wp2
    go_ret
    exact ⟨by first | rfl | (simp; done) | (simp [*]; done), by repeat (first | exact Drawn0.refl _ | apply Drawn0.step)⟩
  · rw [if_neg c2] at H
    have c2b0 : decide (a0 < 0) = false := decide_eq_false c2
    clear c2
    obtain rfl := Option.some.inj H
    go_enter Try.func41, Try.ntmps41
    go_wp2
    go_ret
    exact ⟨by first | rfl | (simp; done) | (simp [*]; done), by repeat (first | exact Drawn0.refl _ | apply Drawn0.step)⟩

/-! ### wide_Mul: function 21 -/
def wide_Mul.f (a0 : Int) (a1 : Int) : Option (Int × Int) := (wide_abs.f a0).bind fun t217 => ((wide_abs.f a1).bind fun t218 => ((bits_Mul64.f t217 t218).bind fun bt219 => (if ((decide (a0 < 0)) != (decide (a1 < 0))) = true then ((wide_negate.f (wrap64 (bt219.1)) bt219.2).bind fun bt222 => (some (bt222.1, bt222.2))) else (some (wrap64 (bt219.1), bt219.2)))))
set_option maxHeartbeats 8000000 in
set_option maxRecDepth 100000 in
theorem wide_Mul.calls (a0 : Int) (a1 : Int) (r1 : Int) (r2 : Int) (w : World) (h : wide_Mul.f a0 a1 = some (r1, r2)) :
    Calls Try.prog 21 #[.int .i64 a0, .int .i64 a1] w fun e w' => e = .returned (.agg #[.int .i64 r1, .int .u64 r2]) ∧ Below w.heap.size w w' := by
  have hu24 := Try.underlying24
  have HB := Aside0.mk (Below.refl w.heap.size w)
  have H : ((wide_abs.f a0).bind fun t217 => ((wide_abs.f a1).bind fun t218 => ((bits_Mul64.f t217 t218).bind fun bt219 => (if ((decide (a0 < 0)) != (decide (a1 < 0))) = true then ((wide_negate.f (wrap64 (bt219.1)) bt219.2).bind fun bt222 => (some (bt222.1, bt222.2))) else (some (wrap64 (bt219.1), bt219.2)))))) = some (r1, r2) := h
  clear h
  replace H := Option.bind_eq_some_iff.mp H
  obtain ⟨t217, A30, H⟩ := H
  replace H : ((wide_abs.f a1).bind fun t218 => ((bits_Mul64.f t217 t218).bind fun bt219 => (if ((decide (a0 < 0)) != (decide (a1 < 0))) = true then ((wide_negate.f (wrap64 (bt219.1)) bt219.2).bind fun bt222 => (some (bt222.1, bt222.2))) else (some (wrap64 (bt219.1), bt219.2))))) = some (r1, r2) := H
  have A3 := Aside0.mk A30
  clear A30
  replace H := Option.bind_eq_some_iff.mp H
  obtain ⟨t218, A40, H⟩ := H
  replace H : ((bits_Mul64.f t217 t218).bind fun bt219 => (if ((decide (a0 < 0)) != (decide (a1 < 0))) = true then ((wide_negate.f (wrap64 (bt219.1)) bt219.2).bind fun bt222 => (some (bt222.1, bt222.2))) else (some (wrap64 (bt219.1), bt219.2)))) = some (r1, r2) := H
  have A4 := Aside0.mk A40
  clear A40
  replace H := Option.bind_eq_some_iff.mp H
  obtain ⟨⟨t219, t220⟩, A50, H⟩ := H
  replace H : (if ((decide (a0 < 0)) != (decide (a1 < 0))) = true then ((wide_negate.f (wrap64 (t219)) t220).bind fun bt222 => (some (bt222.1, bt222.2))) else (some (wrap64 (t219), t220))) = some (r1, r2) := H
  have A5 := Aside0.mk A50
  clear A50
  by_cases c6 : ((decide (a0 < 0)) != (decide (a1 < 0))) = true
  · rw [if_pos c6] at H
    have c6b0 : ((decide (a0 < 0)) != (decide (a1 < 0))) = true := c6
    (try (have c6b1 : decide ((decide (a0 < 0)) = (decide (a1 < 0))) = false := by simpa using c6))
    (try (have c6b2 : ((decide (a0 < 0)) == (decide (a1 < 0))) = false := by simpa using c6))
    (try (have c6b3 : ¬ ((decide (a0 < 0)) = (decide (a1 < 0))) := by simpa using c6))
    clear c6
    replace H := Option.bind_eq_some_iff.mp H
    obtain ⟨⟨t222, t223⟩, A70, H⟩ := H
    replace H : (some (t222, t223)) = some (r1, r2) := H
    have A7 := Aside0.mk A70
    clear A70
    simp only [Option.some.injEq, Prod.mk.injEq] at H
    obtain ⟨rfl, rfl⟩ := H
    go_enter Try.func21, Try.ntmps21
    go_wp2_with (first | ((with_reducible refine gate_dst (N := 4) rfl ?_); refine box_event ?hg (N := 4) ?hd (cs := #[.int .i64 0, .int .u64 0]) (t := 24) ?hr ?_; (case hd => rfl); (case hg => rfl); (case hr => first | (go_simp; done) | (go_simp; rfl)); intro gb216 hg w8 hbox hb; have nn_ := bT hb hg; have BK216 := Aside0.mk (hbox); have GW216 := Aside0.mk nn_.2; have GE216 := GW216; replace HB := Aside0.mk nn_.1; clear nn_; clear hb hbox hg) | ((with_reducible refine gate_callee (f := 41) rfl ?_); refine goesL_ (some 10) rfl rfl Try.func41 (by kernel_rfl) rfl #[.int .i64 a0] rfl aG ?_; (with_reducible refine (wide_abs.calls a0 t217 _ A3.out).mono ?_); rintro e w' ⟨rfl, ⟨nd, rfl⟩⟩; refine ⟨_, rfl, ?_⟩) | ((with_reducible refine gate_callee (f := 41) rfl ?_); refine goesL_ (some 12) rfl rfl Try.func41 (by kernel_rfl) rfl #[.int .i64 a1] rfl aG ?_; (with_reducible refine (wide_abs.calls a1 t218 _ A4.out).mono ?_); rintro e w' ⟨rfl, ⟨nd, rfl⟩⟩; refine ⟨_, rfl, ?_⟩) | ((with_reducible refine gate_callee (f := 43) rfl ?_); refine goesL_ (some 13) rfl rfl Try.func43 (by kernel_rfl) rfl #[.int .u64 t217, .int .u64 t218] rfl aG ?_; (with_reducible refine (bits_Mul64.calls t217 t218 t219 t220 _ A5.out).mono ?_); rintro e w' ⟨rfl, ⟨nd, rfl⟩⟩; refine ⟨_, rfl, ?_⟩) | ((with_reducible refine gate_dst (N := 7) rfl ?_); refine box_event ?hg (N := 7) ?hd (cs := #[.int .i64 0, .int .u64 0]) (t := 24) ?hr ?_; (case hd => rfl); (case hg => rfl); (case hr => first | (go_simp; done) | (go_simp; rfl)); intro gb221 hg w9 hbox hb; have nn_ := bT hb hg; have bgb216_ := bN BK216 hb hg; have BK221 := Aside0.mk (hbox); have GW221 := Aside0.mk nn_.2; have GE221 := GW221; have NB216_221 := Aside0.mk bgb216_.2.1; have NB221_216 := Aside0.mk bgb216_.2.2; replace BK216 := Aside0.mk bgb216_.1; replace HB := Aside0.mk nn_.1; clear nn_ bgb216_; clear hb hbox hg; have hnb10 := NB221_216.out; have hnc10 := NB216_221.out; have hcz11_0 : w9.cell? ⟨gb221, 0, none⟩ = some (.int .i64 0) := (blk_cell BK221.out 0).trans rfl; have hcz11_1 : w9.cell? ⟨gb221, 1, none⟩ = some (.int .u64 0) := (blk_cell BK221.out 1).trans rfl; have hfz11_0 := blk_frozen BK221.out 0; have hfz11_1 := blk_frozen BK221.out 1) | ((with_reducible refine gate_callee (f := 44) rfl ?_); refine goesL_ (some 26) rfl rfl Try.func44 (by kernel_rfl) rfl #[.agg #[.int .i64 (wrap64 (t219)), .int .u64 t220]] rfl aG ?_; (with_reducible refine (wide_negate.calls (wrap64 (t219)) t220 t222 t223 _ A7.out).mono ?_); rintro e w12 ⟨rfl, hb⟩; refine ⟨_, rfl, ?_⟩; replace BK216 := Aside0.mk (blk_below (g := gb216) (o := .cells #[.int .i64 0, .int .u64 0] 24 (0, 0)) (by (with_reducible repeat (first | refine blk_drewN ?_ _ | refine blk_drew ?_ | refine blk_alloc ?_ _)); refine blk_far ?_ NB216_221.out _; (with_reducible repeat (first | refine blk_drewN ?_ _ | refine blk_drew ?_ | refine blk_alloc ?_ _)); refine blk_far ?_ NB216_221.out _; (with_reducible repeat (first | refine blk_drewN ?_ _ | refine blk_drew ?_ | refine blk_alloc ?_ _)); exact BK216.out) hb); replace BK221 := Aside0.mk (blk_below (g := gb221) (o := .cells #[.int .i64 (wrap64 (t219)), .int .u64 t220] 24 (0, 0)) (by (with_reducible repeat (first | refine blk_drewN ?_ _ | refine blk_drew ?_ | refine blk_alloc ?_ _)); refine blk_put (cs := #[.int .i64 (wrap64 (t219)), .int .u64 0]) ?_ 1 _ rfl; (with_reducible repeat (first | refine blk_drewN ?_ _ | refine blk_drew ?_ | refine blk_alloc ?_ _)); refine blk_put (cs := #[.int .i64 0, .int .u64 0]) ?_ 0 _ rfl; (with_reducible repeat (first | refine blk_drewN ?_ _ | refine blk_drew ?_ | refine blk_alloc ?_ _)); exact BK221.out) hb); replace HB := Aside0.mk (bS hb); (try clear hb); (try clear hb2); (try clear hk); (try clear hi); have hcz13_0 : w12.cell? ⟨gb221, 0, none⟩ = some (.int .i64 (wrap64 (t219))) := (blk_cell BK221.out 0).trans rfl; have hcz13_1 : w12.cell? ⟨gb221, 1, none⟩ = some (.int .u64 t220) := (blk_cell BK221.out 1).trans rfl; have hfz13_0 := blk_frozen BK221.out 0; have hfz13_1 := blk_frozen BK221.out 1; have hcz14_0 : w12.cell? ⟨gb216, 0, none⟩ = some (.int .i64 0) := (blk_cell BK216.out 0).trans rfl; have hcz14_1 : w12.cell? ⟨gb216, 1, none⟩ = some (.int .u64 0) := (blk_cell BK216.out 1).trans rfl; have hfz14_0 := blk_frozen BK216.out 0; have hfz14_1 := blk_frozen BK216.out 1))
    refine bodyPost_ret (results_cell_row rfl _ _ gb216 24 #[.int .i64 t222, .int .u64 t223] (0, 0) _ rfl (by (with_reducible repeat (first | refine blk_drewN ?_ _ | refine blk_drew ?_ | refine blk_alloc ?_ _)); refine blk_put (cs := #[.int .i64 t222, .int .u64 0]) ?_ 1 _ rfl; (with_reducible repeat (first | refine blk_drewN ?_ _ | refine blk_drew ?_ | refine blk_alloc ?_ _)); refine blk_put (cs := #[.int .i64 0, .int .u64 0]) ?_ 0 _ rfl; (with_reducible repeat (first | refine blk_drewN ?_ _ | refine blk_drew ?_ | refine blk_alloc ?_ _)); refine blk_far ?_ NB216_221.out _; (with_reducible repeat (first | refine blk_drewN ?_ _ | refine blk_drew ?_ | refine blk_alloc ?_ _)); refine blk_far ?_ NB216_221.out _; (with_reducible repeat (first | refine blk_drewN ?_ _ | refine blk_drew ?_ | refine blk_alloc ?_ _)); exact BK216.out) Try.underlying24 rfl (by kernel_rfl)) rfl ?_
    exact ⟨by first | rfl | (simp [errW_none, errW_some] <;> rfl) | (simp [*, errW_none, errW_some] <;> rfl), bE⟩
  · rw [if_neg c6] at H
    have c6b0 : ((decide (a0 < 0)) != (decide (a1 < 0))) = false := by simpa using c6
    (try (have c6b1 : decide ((decide (a0 < 0)) = (decide (a1 < 0))) = true := by simpa using c6))
    (try (have c6b2 : ((decide (a0 < 0)) == (decide (a1 < 0))) = true := by simpa using c6))
    clear c6
    simp only [Option.some.injEq, Prod.mk.injEq] at H
    obtain ⟨rfl, rfl⟩ := H
    go_enter Try.func21, Try.ntmps21
    go_wp2_with (first | ((with_reducible refine gate_dst (N := 4) rfl ?_); refine box_event ?hg (N := 4) ?hd (cs := #[.int .i64 0, .int .u64 0]) (t := 24) ?hr ?_; (case hd => rfl); (case hg => rfl); (case hr => first | (go_simp; done) | (go_simp; rfl)); intro gb216 hg w15 hbox hb; have nn_ := bT hb hg; have BK216 := Aside0.mk (hbox); have GW216 := Aside0.mk nn_.2; have GE216 := GW216; replace HB := Aside0.mk nn_.1; clear nn_; clear hb hbox hg) | ((with_reducible refine gate_callee (f := 41) rfl ?_); refine goesL_ (some 10) rfl rfl Try.func41 (by kernel_rfl) rfl #[.int .i64 a0] rfl aG ?_; (with_reducible refine (wide_abs.calls a0 t217 _ A3.out).mono ?_); rintro e w' ⟨rfl, ⟨nd, rfl⟩⟩; refine ⟨_, rfl, ?_⟩) | ((with_reducible refine gate_callee (f := 41) rfl ?_); refine goesL_ (some 12) rfl rfl Try.func41 (by kernel_rfl) rfl #[.int .i64 a1] rfl aG ?_; (with_reducible refine (wide_abs.calls a1 t218 _ A4.out).mono ?_); rintro e w' ⟨rfl, ⟨nd, rfl⟩⟩; refine ⟨_, rfl, ?_⟩) | ((with_reducible refine gate_callee (f := 43) rfl ?_); refine goesL_ (some 13) rfl rfl Try.func43 (by kernel_rfl) rfl #[.int .u64 t217, .int .u64 t218] rfl aG ?_; (with_reducible refine (bits_Mul64.calls t217 t218 t219 t220 _ A5.out).mono ?_); rintro e w' ⟨rfl, ⟨nd, rfl⟩⟩; refine ⟨_, rfl, ?_⟩) | ((with_reducible refine gate_dst (N := 7) rfl ?_); refine box_event ?hg (N := 7) ?hd (cs := #[.int .i64 0, .int .u64 0]) (t := 24) ?hr ?_; (case hd => rfl); (case hg => rfl); (case hr => first | (go_simp; done) | (go_simp; rfl)); intro gb221 hg w16 hbox hb; have nn_ := bT hb hg; have bgb216_ := bN BK216 hb hg; have BK221 := Aside0.mk (hbox); have GW221 := Aside0.mk nn_.2; have GE221 := GW221; have NB216_221 := Aside0.mk bgb216_.2.1; have NB221_216 := Aside0.mk bgb216_.2.2; replace BK216 := Aside0.mk bgb216_.1; replace HB := Aside0.mk nn_.1; clear nn_ bgb216_; clear hb hbox hg; have hnb17 := NB221_216.out; have hnc17 := NB216_221.out; have hcz18_0 : w16.cell? ⟨gb221, 0, none⟩ = some (.int .i64 0) := (blk_cell BK221.out 0).trans rfl; have hcz18_1 : w16.cell? ⟨gb221, 1, none⟩ = some (.int .u64 0) := (blk_cell BK221.out 1).trans rfl; have hfz18_0 := blk_frozen BK221.out 0; have hfz18_1 := blk_frozen BK221.out 1; have hcz19_0 : w16.cell? ⟨gb216, 0, none⟩ = some (.int .i64 0) := (blk_cell BK216.out 0).trans rfl; have hcz19_1 : w16.cell? ⟨gb216, 1, none⟩ = some (.int .u64 0) := (blk_cell BK216.out 1).trans rfl; have hfz19_0 := blk_frozen BK216.out 0; have hfz19_1 := blk_frozen BK216.out 1))
    refine bodyPost_ret (results_cell_row rfl _ _ gb216 24 #[.int .i64 (wrap64 (t219)), .int .u64 t220] (0, 0) _ rfl (by (with_reducible repeat (first | refine blk_drewN ?_ _ | refine blk_drew ?_ | refine blk_alloc ?_ _)); refine blk_put (cs := #[.int .i64 (wrap64 (t219)), .int .u64 0]) ?_ 1 _ rfl; (with_reducible repeat (first | refine blk_drewN ?_ _ | refine blk_drew ?_ | refine blk_alloc ?_ _)); refine blk_put (cs := #[.int .i64 0, .int .u64 0]) ?_ 0 _ rfl; (with_reducible repeat (first | refine blk_drewN ?_ _ | refine blk_drew ?_ | refine blk_alloc ?_ _)); refine blk_far ?_ NB216_221.out _; (with_reducible repeat (first | refine blk_drewN ?_ _ | refine blk_drew ?_ | refine blk_alloc ?_ _)); refine blk_far ?_ NB216_221.out _; (with_reducible repeat (first | refine blk_drewN ?_ _ | refine blk_drew ?_ | refine blk_alloc ?_ _)); exact BK216.out) Try.underlying24 rfl (by kernel_rfl)) rfl ?_
    exact ⟨by first | rfl | (simp [errW_none, errW_some] <;> rfl) | (simp [*, errW_none, errW_some] <;> rfl), bE⟩

/-! ### wide_Add: function 25 -/
def wide_Add.f (a0_0 : Int) (a0_1 : Int) (a1_0 : Int) (a1_1 : Int) : Option (Int × Int × Int) := if ((decide (a0_0 < 0)) == (decide (a1_0 < 0))) = true then (if ((decide ((wrap64 ((wrap64 (a0_0 + a1_0)) + (wrap64 (add64c a0_1 a1_1)))) < 0)) != (decide (a0_0 < 0))) = true then (some (0, 0, 6)) else (some (wrap64 ((wrap64 (a0_0 + a1_0)) + (wrap64 (add64c a0_1 a1_1))), add64s a0_1 a1_1, 0))) else (some (wrap64 ((wrap64 (a0_0 + a1_0)) + (wrap64 (add64c a0_1 a1_1))), add64s a0_1 a1_1, 0))
set_option maxHeartbeats 8000000 in
set_option maxRecDepth 100000 in
theorem wide_Add.calls (a0_0 : Int) (a0_1 : Int) (a1_0 : Int) (a1_1 : Int) (r1 : Int) (r2 : Int) (r3 : Int) (w : World) (h : wide_Add.f a0_0 a0_1 a1_0 a1_1 = some (r1, r2, r3)) :
    Calls Try.prog 25 #[.agg #[.int .i64 a0_0, .int .u64 a0_1], .agg #[.int .i64 a1_0, .int .u64 a1_1]] w fun e w' => e = .returned (.tuple #[.agg #[.int .i64 r1, .int .u64 r2], .int .i64 r3]) ∧ Below w.heap.size w w' := by
  have hu24 := Try.underlying24
  have hx45 := add64_run
  have HB := Aside0.mk (Below.refl w.heap.size w)
  have H : (if ((decide (a0_0 < 0)) == (decide (a1_0 < 0))) = true then (if ((decide ((wrap64 ((wrap64 (a0_0 + a1_0)) + (wrap64 (add64c a0_1 a1_1)))) < 0)) != (decide (a0_0 < 0))) = true then (some (0, 0, 6)) else (some (wrap64 ((wrap64 (a0_0 + a1_0)) + (wrap64 (add64c a0_1 a1_1))), add64s a0_1 a1_1, 0))) else (some (wrap64 ((wrap64 (a0_0 + a1_0)) + (wrap64 (add64c a0_1 a1_1))), add64s a0_1 a1_1, 0))) = some (r1, r2, r3) := h
  clear h
  by_cases c3 : ((decide (a0_0 < 0)) == (decide (a1_0 < 0))) = true
  · rw [if_pos c3] at H
    have c3b0 : ((decide (a0_0 < 0)) == (decide (a1_0 < 0))) = true := c3
    (try (have c3b1 : decide ((decide (a0_0 < 0)) = (decide (a1_0 < 0))) = true := by simpa using c3))
    (try (have c3b2 : ((decide (a0_0 < 0)) == (decide (a1_0 < 0))) = true := by simpa using c3))
    clear c3
    by_cases c4 : ((decide ((wrap64 ((wrap64 (a0_0 + a1_0)) + (wrap64 (add64c a0_1 a1_1)))) < 0)) != (decide (a0_0 < 0))) = true
    · rw [if_pos c4] at H
      have c4b0 : ((decide ((wrap64 ((wrap64 (a0_0 + a1_0)) + (wrap64 (add64c a0_1 a1_1)))) < 0)) != (decide (a0_0 < 0))) = true := c4
      (try (have c4b1 : decide ((decide ((wrap64 ((wrap64 (a0_0 + a1_0)) + (wrap64 (add64c a0_1 a1_1)))) < 0)) = (decide (a0_0 < 0))) = false := by simpa using c4))
      (try (have c4b2 : ((decide ((wrap64 ((wrap64 (a0_0 + a1_0)) + (wrap64 (add64c a0_1 a1_1)))) < 0)) == (decide (a0_0 < 0))) = false := by simpa using c4))
      (try (have c4b3 : ¬ ((decide ((wrap64 ((wrap64 (a0_0 + a1_0)) + (wrap64 (add64c a0_1 a1_1)))) < 0)) = (decide (a0_0 < 0))) := by simpa using c4))
      clear c4
      simp only [Option.some.injEq, Prod.mk.injEq] at H
      obtain ⟨rfl, rfl, rfl⟩ := H
      go_enter Try.func25, Try.ntmps25
      go_wp2_with (first | ((with_reducible refine gate_dst (N := 2) rfl ?_); refine box_event ?hg (N := 2) ?hd (cs := #[.int .i64 a0_0, .int .u64 a0_1]) (t := 24) ?hr ?_; (case hd => rfl); (case hg => rfl); (case hr => first | (go_simp; done) | (go_simp; rfl)); intro gb224 hg w5 hbox hb; have nn_ := bT hb hg; have BK224 := Aside0.mk (hbox); have GW224 := Aside0.mk nn_.2; have GE224 := GW224; replace HB := Aside0.mk nn_.1; clear nn_; clear hb hbox hg) | ((with_reducible refine gate_dst (N := 3) rfl ?_); refine box_event ?hg (N := 3) ?hd (cs := #[.int .i64 a1_0, .int .u64 a1_1]) (t := 24) ?hr ?_; (case hd => rfl); (case hg => rfl); (case hr => first | (go_simp; done) | (go_simp; rfl)); intro gb225 hg w6 hbox hb; have nn_ := bT hb hg; have bgb224_ := bN BK224 hb hg; have BK225 := Aside0.mk (hbox); have GW225 := Aside0.mk nn_.2; have GE225 := GW225; have NB224_225 := Aside0.mk bgb224_.2.1; have NB225_224 := Aside0.mk bgb224_.2.2; replace BK224 := Aside0.mk bgb224_.1; replace HB := Aside0.mk nn_.1; clear nn_ bgb224_; clear hb hbox hg) | ((with_reducible refine gate_dst (N := 4) rfl ?_); refine box_event ?hg (N := 4) ?hd (cs := #[.int .i64 0, .int .u64 0]) (t := 24) ?hr ?_; (case hd => rfl); (case hg => rfl); (case hr => first | (go_simp; done) | (go_simp; rfl)); intro gb226 hg w7 hbox hb; have nn_ := bT hb hg; have bgb224_ := bN BK224 hb hg; have bgb225_ := bN BK225 hb hg; have BK226 := Aside0.mk (hbox); have GW226 := Aside0.mk nn_.2; have GE226 := GW226; have NB224_226 := Aside0.mk bgb224_.2.1; have NB226_224 := Aside0.mk bgb224_.2.2; have NB225_226 := Aside0.mk bgb225_.2.1; have NB226_225 := Aside0.mk bgb225_.2.2; replace BK224 := Aside0.mk bgb224_.1; replace BK225 := Aside0.mk bgb225_.1; replace HB := Aside0.mk nn_.1; clear nn_ bgb224_ bgb225_; clear hb hbox hg; have hnb8 := NB224_225.out; have hnc8 := NB225_224.out; have hnb9 := NB224_226.out; have hnc9 := NB226_224.out; have hcz10_0 : w7.cell? ⟨gb224, 0, none⟩ = some (.int .i64 a0_0) := (blk_cell BK224.out 0).trans rfl; have hcz10_1 : w7.cell? ⟨gb224, 1, none⟩ = some (.int .u64 a0_1) := (blk_cell BK224.out 1).trans rfl; have hfz10_0 := blk_frozen BK224.out 0; have hfz10_1 := blk_frozen BK224.out 1; have hnb11 := NB225_226.out; have hnc11 := NB226_225.out; have hcz12_0 : w7.cell? ⟨gb225, 0, none⟩ = some (.int .i64 a1_0) := (blk_cell BK225.out 0).trans rfl; have hcz12_1 : w7.cell? ⟨gb225, 1, none⟩ = some (.int .u64 a1_1) := (blk_cell BK225.out 1).trans rfl; have hfz12_0 := blk_frozen BK225.out 0; have hfz12_1 := blk_frozen BK225.out 1; have hcz13_0 : w7.cell? ⟨gb226, 0, none⟩ = some (.int .i64 0) := (blk_cell BK226.out 0).trans rfl; have hcz13_1 : w7.cell? ⟨gb226, 1, none⟩ = some (.int .u64 0) := (blk_cell BK226.out 1).trans rfl; have hfz13_0 := blk_frozen BK226.out 0; have hfz13_1 := blk_frozen BK226.out 1))
      refine bodyPost_ret (results_ct rfl _ _ gb226 24 #[.int .i64 0, .int .u64 0] (0, 0) _ rfl (by (with_reducible repeat (first | refine blk_drewN ?_ _ | refine blk_drew ?_ | refine blk_alloc ?_ _)); refine blk_put (cs := #[.int .i64 0, .int .u64 0]) ?_ 1 _ rfl; (with_reducible repeat (first | refine blk_drewN ?_ _ | refine blk_drew ?_ | refine blk_alloc ?_ _)); refine blk_put (cs := #[.int .i64 0, .int .u64 0]) ?_ 0 _ rfl; (with_reducible repeat (first | refine blk_drewN ?_ _ | refine blk_drew ?_ | refine blk_alloc ?_ _)); exact BK226.out) Try.underlying24 rfl (by kernel_rfl)) rfl ?_
      exact ⟨by first | rfl | (simp [errW_none, errW_some] <;> rfl) | (simp [*, errW_none, errW_some] <;> rfl), bE⟩
    · rw [if_neg c4] at H
      have c4b0 : ((decide ((wrap64 ((wrap64 (a0_0 + a1_0)) + (wrap64 (add64c a0_1 a1_1)))) < 0)) != (decide (a0_0 < 0))) = false := by simpa using c4
      (try (have c4b1 : decide ((decide ((wrap64 ((wrap64 (a0_0 + a1_0)) + (wrap64 (add64c a0_1 a1_1)))) < 0)) = (decide (a0_0 < 0))) = true := by simpa using c4))
      (try (have c4b2 : ((decide ((wrap64 ((wrap64 (a0_0 + a1_0)) + (wrap64 (add64c a0_1 a1_1)))) < 0)) == (decide (a0_0 < 0))) = true := by simpa using c4))
      clear c4
      simp only [Option.some.injEq, Prod.mk.injEq] at H
      obtain ⟨rfl, rfl, rfl⟩ := H
      go_enter Try.func25, Try.ntmps25
      go_wp2_with (first | ((with_reducible refine gate_dst (N := 2) rfl ?_); refine box_event ?hg (N := 2) ?hd (cs := #[.int .i64 a0_0, .int .u64 a0_1]) (t := 24) ?hr ?_; (case hd => rfl); (case hg => rfl); (case hr => first | (go_simp; done) | (go_simp; rfl)); intro gb224 hg w14 hbox hb; have nn_ := bT hb hg; have BK224 := Aside0.mk (hbox); have GW224 := Aside0.mk nn_.2; have GE224 := GW224; replace HB := Aside0.mk nn_.1; clear nn_; clear hb hbox hg) | ((with_reducible refine gate_dst (N := 3) rfl ?_); refine box_event ?hg (N := 3) ?hd (cs := #[.int .i64 a1_0, .int .u64 a1_1]) (t := 24) ?hr ?_; (case hd => rfl); (case hg => rfl); (case hr => first | (go_simp; done) | (go_simp; rfl)); intro gb225 hg w15 hbox hb; have nn_ := bT hb hg; have bgb224_ := bN BK224 hb hg; have BK225 := Aside0.mk (hbox); have GW225 := Aside0.mk nn_.2; have GE225 := GW225; have NB224_225 := Aside0.mk bgb224_.2.1; have NB225_224 := Aside0.mk bgb224_.2.2; replace BK224 := Aside0.mk bgb224_.1; replace HB := Aside0.mk nn_.1; clear nn_ bgb224_; clear hb hbox hg) | ((with_reducible refine gate_dst (N := 4) rfl ?_); refine box_event ?hg (N := 4) ?hd (cs := #[.int .i64 0, .int .u64 0]) (t := 24) ?hr ?_; (case hd => rfl); (case hg => rfl); (case hr => first | (go_simp; done) | (go_simp; rfl)); intro gb226 hg w16 hbox hb; have nn_ := bT hb hg; have bgb224_ := bN BK224 hb hg; have bgb225_ := bN BK225 hb hg; have BK226 := Aside0.mk (hbox); have GW226 := Aside0.mk nn_.2; have GE226 := GW226; have NB224_226 := Aside0.mk bgb224_.2.1; have NB226_224 := Aside0.mk bgb224_.2.2; have NB225_226 := Aside0.mk bgb225_.2.1; have NB226_225 := Aside0.mk bgb225_.2.2; replace BK224 := Aside0.mk bgb224_.1; replace BK225 := Aside0.mk bgb225_.1; replace HB := Aside0.mk nn_.1; clear nn_ bgb224_ bgb225_; clear hb hbox hg; have hnb17 := NB224_225.out; have hnc17 := NB225_224.out; have hnb18 := NB224_226.out; have hnc18 := NB226_224.out; have hcz19_0 : w16.cell? ⟨gb224, 0, none⟩ = some (.int .i64 a0_0) := (blk_cell BK224.out 0).trans rfl; have hcz19_1 : w16.cell? ⟨gb224, 1, none⟩ = some (.int .u64 a0_1) := (blk_cell BK224.out 1).trans rfl; have hfz19_0 := blk_frozen BK224.out 0; have hfz19_1 := blk_frozen BK224.out 1; have hnb20 := NB225_226.out; have hnc20 := NB226_225.out; have hcz21_0 : w16.cell? ⟨gb225, 0, none⟩ = some (.int .i64 a1_0) := (blk_cell BK225.out 0).trans rfl; have hcz21_1 : w16.cell? ⟨gb225, 1, none⟩ = some (.int .u64 a1_1) := (blk_cell BK225.out 1).trans rfl; have hfz21_0 := blk_frozen BK225.out 0; have hfz21_1 := blk_frozen BK225.out 1; have hcz22_0 : w16.cell? ⟨gb226, 0, none⟩ = some (.int .i64 0) := (blk_cell BK226.out 0).trans rfl; have hcz22_1 : w16.cell? ⟨gb226, 1, none⟩ = some (.int .u64 0) := (blk_cell BK226.out 1).trans rfl; have hfz22_0 := blk_frozen BK226.out 0; have hfz22_1 := blk_frozen BK226.out 1))
      refine bodyPost_ret (results_ct rfl _ _ gb226 24 #[.int .i64 (wrap64 ((wrap64 (a0_0 + a1_0)) + (wrap64 (add64c a0_1 a1_1)))), .int .u64 (add64s a0_1 a1_1)] (0, 0) _ rfl (by (with_reducible repeat (first | refine blk_drewN ?_ _ | refine blk_drew ?_ | refine blk_alloc ?_ _)); refine blk_put (cs := #[.int .i64 (wrap64 ((wrap64 (a0_0 + a1_0)) + (wrap64 (add64c a0_1 a1_1)))), .int .u64 0]) ?_ 1 _ rfl; (with_reducible repeat (first | refine blk_drewN ?_ _ | refine blk_drew ?_ | refine blk_alloc ?_ _)); refine blk_put (cs := #[.int .i64 0, .int .u64 0]) ?_ 0 _ rfl; (with_reducible repeat (first | refine blk_drewN ?_ _ | refine blk_drew ?_ | refine blk_alloc ?_ _)); exact BK226.out) Try.underlying24 rfl (by kernel_rfl)) rfl ?_
      exact ⟨by first | rfl | (simp [errW_none, errW_some] <;> rfl) | (simp [*, errW_none, errW_some] <;> rfl), bE⟩
  · rw [if_neg c3] at H
    have c3b0 : ((decide (a0_0 < 0)) == (decide (a1_0 < 0))) = false := by simpa using c3
    (try (have c3b1 : decide ((decide (a0_0 < 0)) = (decide (a1_0 < 0))) = false := by simpa using c3))
    (try (have c3b2 : ((decide (a0_0 < 0)) == (decide (a1_0 < 0))) = false := by simpa using c3))
    (try (have c3b3 : ¬ ((decide (a0_0 < 0)) = (decide (a1_0 < 0))) := by simpa using c3))
    clear c3
    simp only [Option.some.injEq, Prod.mk.injEq] at H
    obtain ⟨rfl, rfl, rfl⟩ := H
    go_enter Try.func25, Try.ntmps25
    go_wp2_with (first | ((with_reducible refine gate_dst (N := 2) rfl ?_); refine box_event ?hg (N := 2) ?hd (cs := #[.int .i64 a0_0, .int .u64 a0_1]) (t := 24) ?hr ?_; (case hd => rfl); (case hg => rfl); (case hr => first | (go_simp; done) | (go_simp; rfl)); intro gb224 hg w23 hbox hb; have nn_ := bT hb hg; have BK224 := Aside0.mk (hbox); have GW224 := Aside0.mk nn_.2; have GE224 := GW224; replace HB := Aside0.mk nn_.1; clear nn_; clear hb hbox hg) | ((with_reducible refine gate_dst (N := 3) rfl ?_); refine box_event ?hg (N := 3) ?hd (cs := #[.int .i64 a1_0, .int .u64 a1_1]) (t := 24) ?hr ?_; (case hd => rfl); (case hg => rfl); (case hr => first | (go_simp; done) | (go_simp; rfl)); intro gb225 hg w24 hbox hb; have nn_ := bT hb hg; have bgb224_ := bN BK224 hb hg; have BK225 := Aside0.mk (hbox); have GW225 := Aside0.mk nn_.2; have GE225 := GW225; have NB224_225 := Aside0.mk bgb224_.2.1; have NB225_224 := Aside0.mk bgb224_.2.2; replace BK224 := Aside0.mk bgb224_.1; replace HB := Aside0.mk nn_.1; clear nn_ bgb224_; clear hb hbox hg) | ((with_reducible refine gate_dst (N := 4) rfl ?_); refine box_event ?hg (N := 4) ?hd (cs := #[.int .i64 0, .int .u64 0]) (t := 24) ?hr ?_; (case hd => rfl); (case hg => rfl); (case hr => first | (go_simp; done) | (go_simp; rfl)); intro gb226 hg w25 hbox hb; have nn_ := bT hb hg; have bgb224_ := bN BK224 hb hg; have bgb225_ := bN BK225 hb hg; have BK226 := Aside0.mk (hbox); have GW226 := Aside0.mk nn_.2; have GE226 := GW226; have NB224_226 := Aside0.mk bgb224_.2.1; have NB226_224 := Aside0.mk bgb224_.2.2; have NB225_226 := Aside0.mk bgb225_.2.1; have NB226_225 := Aside0.mk bgb225_.2.2; replace BK224 := Aside0.mk bgb224_.1; replace BK225 := Aside0.mk bgb225_.1; replace HB := Aside0.mk nn_.1; clear nn_ bgb224_ bgb225_; clear hb hbox hg; have hnb26 := NB224_225.out; have hnc26 := NB225_224.out; have hnb27 := NB224_226.out; have hnc27 := NB226_224.out; have hcz28_0 : w25.cell? ⟨gb224, 0, none⟩ = some (.int .i64 a0_0) := (blk_cell BK224.out 0).trans rfl; have hcz28_1 : w25.cell? ⟨gb224, 1, none⟩ = some (.int .u64 a0_1) := (blk_cell BK224.out 1).trans rfl; have hfz28_0 := blk_frozen BK224.out 0; have hfz28_1 := blk_frozen BK224.out 1; have hnb29 := NB225_226.out; have hnc29 := NB226_225.out; have hcz30_0 : w25.cell? ⟨gb225, 0, none⟩ = some (.int .i64 a1_0) := (blk_cell BK225.out 0).trans rfl; have hcz30_1 : w25.cell? ⟨gb225, 1, none⟩ = some (.int .u64 a1_1) := (blk_cell BK225.out 1).trans rfl; have hfz30_0 := blk_frozen BK225.out 0; have hfz30_1 := blk_frozen BK225.out 1; have hcz31_0 : w25.cell? ⟨gb226, 0, none⟩ = some (.int .i64 0) := (blk_cell BK226.out 0).trans rfl; have hcz31_1 : w25.cell? ⟨gb226, 1, none⟩ = some (.int .u64 0) := (blk_cell BK226.out 1).trans rfl; have hfz31_0 := blk_frozen BK226.out 0; have hfz31_1 := blk_frozen BK226.out 1))
    refine bodyPost_ret (results_ct rfl _ _ gb226 24 #[.int .i64 (wrap64 ((wrap64 (a0_0 + a1_0)) + (wrap64 (add64c a0_1 a1_1)))), .int .u64 (add64s a0_1 a1_1)] (0, 0) _ rfl (by (with_reducible repeat (first | refine blk_drewN ?_ _ | refine blk_drew ?_ | refine blk_alloc ?_ _)); refine blk_put (cs := #[.int .i64 (wrap64 ((wrap64 (a0_0 + a1_0)) + (wrap64 (add64c a0_1 a1_1)))), .int .u64 0]) ?_ 1 _ rfl; (with_reducible repeat (first | refine blk_drewN ?_ _ | refine blk_drew ?_ | refine blk_alloc ?_ _)); refine blk_put (cs := #[.int .i64 0, .int .u64 0]) ?_ 0 _ rfl; (with_reducible repeat (first | refine blk_drewN ?_ _ | refine blk_drew ?_ | refine blk_alloc ?_ _)); exact BK226.out) Try.underlying24 rfl (by kernel_rfl)) rfl ?_
    exact ⟨by first | rfl | (simp [errW_none, errW_some] <;> rfl) | (simp [*, errW_none, errW_some] <;> rfl), bE⟩

/-! ### wide_Cmp: function 29 -/
def wide_Cmp.f (a0_0 : Int) (a0_1 : Int) (a1_0 : Int) (a1_1 : Int) : Option (Int) := if (a0_0 == a1_0 && (a0_1 == a1_1)) = true then (some 0) else (if a0_0 < a1_0 then (some (-1)) else (if a0_0 = a1_0 then (if a0_1 < a1_1 then (some (-1)) else (some 1)) else (some 1)))
set_option maxHeartbeats 8000000 in
set_option maxRecDepth 100000 in
theorem wide_Cmp.calls (a0_0 : Int) (a0_1 : Int) (a1_0 : Int) (a1_1 : Int) (r : Int) (w : World) (h : wide_Cmp.f a0_0 a0_1 a1_0 a1_1 = some r) :
    Calls Try.prog 29 #[.agg #[.int .i64 a0_0, .int .u64 a0_1], .agg #[.int .i64 a1_0, .int .u64 a1_1]] w fun e w' => e = .returned (.int .i64 r) ∧ Below w.heap.size w w' := by
  have hu24 := Try.underlying24
  have HB := Aside0.mk (Below.refl w.heap.size w)
  have H : (if (a0_0 == a1_0 && (a0_1 == a1_1)) = true then (some 0) else (if a0_0 < a1_0 then (some (-1)) else (if a0_0 = a1_0 then (if a0_1 < a1_1 then (some (-1)) else (some 1)) else (some 1)))) = some r := h
  clear h
  by_cases c3 : (a0_0 == a1_0 && (a0_1 == a1_1)) = true
  · rw [if_pos c3] at H
    have c3b0 : (a0_0 == a1_0 && (a0_1 == a1_1)) = true := c3
    (try (have c3b1 : decide (a0_0 = a1_0 && (a0_1 == a1_1)) = true := by simpa using c3))
    (try (have c3b2 : (a0_0 == a1_0 && (a0_1 == a1_1)) = true := by simpa using c3))
    clear c3
    obtain rfl := Option.some.inj H
    go_enter Try.func29, Try.ntmps29
    go_wp2_with (first | ((with_reducible refine gate_dst (N := 2) rfl ?_); refine box_event ?hg (N := 2) ?hd (cs := #[.int .i64 a0_0, .int .u64 a0_1]) (t := 24) ?hr ?_; (case hd => rfl); (case hg => rfl); (case hr => first | (go_simp; done) | (go_simp; rfl)); intro gb227 hg w4 hbox hb; have nn_ := bT hb hg; have BK227 := Aside0.mk (hbox); have GW227 := Aside0.mk nn_.2; have GE227 := GW227; replace HB := Aside0.mk nn_.1; clear nn_; clear hb hbox hg) | ((with_reducible refine gate_dst (N := 3) rfl ?_); refine box_event ?hg (N := 3) ?hd (cs := #[.int .i64 a1_0, .int .u64 a1_1]) (t := 24) ?hr ?_; (case hd => rfl); (case hg => rfl); (case hr => first | (go_simp; done) | (go_simp; rfl)); intro gb228 hg w5 hbox hb; have nn_ := bT hb hg; have bgb227_ := bN BK227 hb hg; have BK228 := Aside0.mk (hbox); have GW228 := Aside0.mk nn_.2; have GE228 := GW228; have NB227_228 := Aside0.mk bgb227_.2.1; have NB228_227 := Aside0.mk bgb227_.2.2; replace BK227 := Aside0.mk bgb227_.1; replace HB := Aside0.mk nn_.1; clear nn_ bgb227_; clear hb hbox hg; have hnb6 := NB227_228.out; have hnc6 := NB228_227.out; have hcz7_0 : w5.cell? ⟨gb227, 0, none⟩ = some (.int .i64 a0_0) := (blk_cell BK227.out 0).trans rfl; have hcz7_1 : w5.cell? ⟨gb227, 1, none⟩ = some (.int .u64 a0_1) := (blk_cell BK227.out 1).trans rfl; have hfz7_0 := blk_frozen BK227.out 0; have hfz7_1 := blk_frozen BK227.out 1; have hcz8_0 : w5.cell? ⟨gb228, 0, none⟩ = some (.int .i64 a1_0) := (blk_cell BK228.out 0).trans rfl; have hcz8_1 : w5.cell? ⟨gb228, 1, none⟩ = some (.int .u64 a1_1) := (blk_cell BK228.out 1).trans rfl; have hfz8_0 := blk_frozen BK228.out 0; have hfz8_1 := blk_frozen BK228.out 1))
    go_ret
    exact ⟨by first | rfl | (simp [errW_none, errW_some] <;> rfl) | (simp [*, errW_none, errW_some] <;> rfl), bE⟩
  · rw [if_neg c3] at H
    have c3b0 : (a0_0 == a1_0 && (a0_1 == a1_1)) = false := by simpa using c3
    (try (have c3b1 : decide (a0_0 = a1_0 && (a0_1 == a1_1)) = false := by simpa using c3))
    (try (have c3b2 : (a0_0 == a1_0 && (a0_1 == a1_1)) = false := by simpa using c3))
    (try (have c3b3 : ¬ (a0_0 = a1_0 && (a0_1 == a1_1)) := by simpa using c3))
    clear c3
    by_cases c9 : a0_0 < a1_0
    · rw [if_pos c9] at H
      have c9b0 : decide (a0_0 < a1_0) = true := decide_eq_true c9
      clear c9
      obtain rfl := Option.some.inj H
      go_enter Try.func29, Try.ntmps29
      go_wp2_with (first | ((with_reducible refine gate_dst (N := 2) rfl ?_); refine box_event ?hg (N := 2) ?hd (cs := #[.int .i64 a0_0, .int .u64 a0_1]) (t := 24) ?hr ?_; (case hd => rfl); (case hg => rfl); (case hr => first | (go_simp; done) | (go_simp; rfl)); intro gb227 hg w10 hbox hb; have nn_ := bT hb hg; have BK227 := Aside0.mk (hbox); have GW227 := Aside0.mk nn_.2; have GE227 := GW227; replace HB := Aside0.mk nn_.1; clear nn_; clear hb hbox hg) | ((with_reducible refine gate_dst (N := 3) rfl ?_); refine box_event ?hg (N := 3) ?hd (cs := #[.int .i64 a1_0, .int .u64 a1_1]) (t := 24) ?hr ?_; (case hd => rfl); (case hg => rfl); (case hr => first | (go_simp; done) | (go_simp; rfl)); intro gb228 hg w11 hbox hb; have nn_ := bT hb hg; have bgb227_ := bN BK227 hb hg; have BK228 := Aside0.mk (hbox); have GW228 := Aside0.mk nn_.2; have GE228 := GW228; have NB227_228 := Aside0.mk bgb227_.2.1; have NB228_227 := Aside0.mk bgb227_.2.2; replace BK227 := Aside0.mk bgb227_.1; replace HB := Aside0.mk nn_.1; clear nn_ bgb227_; clear hb hbox hg; have hnb12 := NB227_228.out; have hnc12 := NB228_227.out; have hcz13_0 : w11.cell? ⟨gb227, 0, none⟩ = some (.int .i64 a0_0) := (blk_cell BK227.out 0).trans rfl; have hcz13_1 : w11.cell? ⟨gb227, 1, none⟩ = some (.int .u64 a0_1) := (blk_cell BK227.out 1).trans rfl; have hfz13_0 := blk_frozen BK227.out 0; have hfz13_1 := blk_frozen BK227.out 1; have hcz14_0 : w11.cell? ⟨gb228, 0, none⟩ = some (.int .i64 a1_0) := (blk_cell BK228.out 0).trans rfl; have hcz14_1 : w11.cell? ⟨gb228, 1, none⟩ = some (.int .u64 a1_1) := (blk_cell BK228.out 1).trans rfl; have hfz14_0 := blk_frozen BK228.out 0; have hfz14_1 := blk_frozen BK228.out 1))
      go_ret
      exact ⟨by first | rfl | (simp [errW_none, errW_some] <;> rfl) | (simp [*, errW_none, errW_some] <;> rfl), bE⟩
    · rw [if_neg c9] at H
      have c9b0 : decide (a0_0 < a1_0) = false := decide_eq_false c9
      clear c9
      by_cases c15 : a0_0 = a1_0
      · rw [if_pos c15] at H
        have c15b0 : (a0_0 == a1_0) = true := beq_iff_eq.mpr c15
        have c15b1 : (a0_0 != a1_0) = false := bne_eq_false_iff_eq.mpr c15
        have cx15 : (a0_1 == a1_1) = false := by simpa [c15b0] using c3b0
        clear c15
        by_cases c16 : a0_1 < a1_1
        · rw [if_pos c16] at H
          have c16b0 : decide (a0_1 < a1_1) = true := decide_eq_true c16
          clear c16
          obtain rfl := Option.some.inj H
          go_enter Try.func29, Try.ntmps29
          go_wp2_with (first | ((with_reducible refine gate_dst (N := 2) rfl ?_); refine box_event ?hg (N := 2) ?hd (cs := #[.int .i64 a0_0, .int .u64 a0_1]) (t := 24) ?hr ?_; (case hd => rfl); (case hg => rfl); (case hr => first | (go_simp; done) | (go_simp; rfl)); intro gb227 hg w17 hbox hb; have nn_ := bT hb hg; have BK227 := Aside0.mk (hbox); have GW227 := Aside0.mk nn_.2; have GE227 := GW227; replace HB := Aside0.mk nn_.1; clear nn_; clear hb hbox hg) | ((with_reducible refine gate_dst (N := 3) rfl ?_); refine box_event ?hg (N := 3) ?hd (cs := #[.int .i64 a1_0, .int .u64 a1_1]) (t := 24) ?hr ?_; (case hd => rfl); (case hg => rfl); (case hr => first | (go_simp; done) | (go_simp; rfl)); intro gb228 hg w18 hbox hb; have nn_ := bT hb hg; have bgb227_ := bN BK227 hb hg; have BK228 := Aside0.mk (hbox); have GW228 := Aside0.mk nn_.2; have GE228 := GW228; have NB227_228 := Aside0.mk bgb227_.2.1; have NB228_227 := Aside0.mk bgb227_.2.2; replace BK227 := Aside0.mk bgb227_.1; replace HB := Aside0.mk nn_.1; clear nn_ bgb227_; clear hb hbox hg; have hnb19 := NB227_228.out; have hnc19 := NB228_227.out; have hcz20_0 : w18.cell? ⟨gb227, 0, none⟩ = some (.int .i64 a0_0) := (blk_cell BK227.out 0).trans rfl; have hcz20_1 : w18.cell? ⟨gb227, 1, none⟩ = some (.int .u64 a0_1) := (blk_cell BK227.out 1).trans rfl; have hfz20_0 := blk_frozen BK227.out 0; have hfz20_1 := blk_frozen BK227.out 1; have hcz21_0 : w18.cell? ⟨gb228, 0, none⟩ = some (.int .i64 a1_0) := (blk_cell BK228.out 0).trans rfl; have hcz21_1 : w18.cell? ⟨gb228, 1, none⟩ = some (.int .u64 a1_1) := (blk_cell BK228.out 1).trans rfl; have hfz21_0 := blk_frozen BK228.out 0; have hfz21_1 := blk_frozen BK228.out 1))
          go_ret
          exact ⟨by first | rfl | (simp [errW_none, errW_some] <;> rfl) | (simp [*, errW_none, errW_some] <;> rfl), bE⟩
        · rw [if_neg c16] at H
          have c16b0 : decide (a0_1 < a1_1) = false := decide_eq_false c16
          clear c16
          obtain rfl := Option.some.inj H
          go_enter Try.func29, Try.ntmps29
          go_wp2_with (first | ((with_reducible refine gate_dst (N := 2) rfl ?_); refine box_event ?hg (N := 2) ?hd (cs := #[.int .i64 a0_0, .int .u64 a0_1]) (t := 24) ?hr ?_; (case hd => rfl); (case hg => rfl); (case hr => first | (go_simp; done) | (go_simp; rfl)); intro gb227 hg w22 hbox hb; have nn_ := bT hb hg; have BK227 := Aside0.mk (hbox); have GW227 := Aside0.mk nn_.2; have GE227 := GW227; replace HB := Aside0.mk nn_.1; clear nn_; clear hb hbox hg) | ((with_reducible refine gate_dst (N := 3) rfl ?_); refine box_event ?hg (N := 3) ?hd (cs := #[.int .i64 a1_0, .int .u64 a1_1]) (t := 24) ?hr ?_; (case hd => rfl); (case hg => rfl); (case hr => first | (go_simp; done) | (go_simp; rfl)); intro gb228 hg w23 hbox hb; have nn_ := bT hb hg; have bgb227_ := bN BK227 hb hg; have BK228 := Aside0.mk (hbox); have GW228 := Aside0.mk nn_.2; have GE228 := GW228; have NB227_228 := Aside0.mk bgb227_.2.1; have NB228_227 := Aside0.mk bgb227_.2.2; replace BK227 := Aside0.mk bgb227_.1; replace HB := Aside0.mk nn_.1; clear nn_ bgb227_; clear hb hbox hg; have hnb24 := NB227_228.out; have hnc24 := NB228_227.out; have hcz25_0 : w23.cell? ⟨gb227, 0, none⟩ = some (.int .i64 a0_0) := (blk_cell BK227.out 0).trans rfl; have hcz25_1 : w23.cell? ⟨gb227, 1, none⟩ = some (.int .u64 a0_1) := (blk_cell BK227.out 1).trans rfl; have hfz25_0 := blk_frozen BK227.out 0; have hfz25_1 := blk_frozen BK227.out 1; have hcz26_0 : w23.cell? ⟨gb228, 0, none⟩ = some (.int .i64 a1_0) := (blk_cell BK228.out 0).trans rfl; have hcz26_1 : w23.cell? ⟨gb228, 1, none⟩ = some (.int .u64 a1_1) := (blk_cell BK228.out 1).trans rfl; have hfz26_0 := blk_frozen BK228.out 0; have hfz26_1 := blk_frozen BK228.out 1))
          go_ret
          exact ⟨by first | rfl | (simp [errW_none, errW_some] <;> rfl) | (simp [*, errW_none, errW_some] <;> rfl), bE⟩
      · rw [if_neg c15] at H
        have c15b0 : (a0_0 == a1_0) = false := beq_eq_false_iff_ne.mpr c15
        have c15b1 : (a0_0 != a1_0) = true := bne_iff_ne.mpr c15
        obtain rfl := Option.some.inj H
        go_enter Try.func29, Try.ntmps29
        go_wp2_with (first | ((with_reducible refine gate_dst (N := 2) rfl ?_); refine box_event ?hg (N := 2) ?hd (cs := #[.int .i64 a0_0, .int .u64 a0_1]) (t := 24) ?hr ?_; (case hd => rfl); (case hg => rfl); (case hr => first | (go_simp; done) | (go_simp; rfl)); intro gb227 hg w27 hbox hb; have nn_ := bT hb hg; have BK227 := Aside0.mk (hbox); have GW227 := Aside0.mk nn_.2; have GE227 := GW227; replace HB := Aside0.mk nn_.1; clear nn_; clear hb hbox hg) | ((with_reducible refine gate_dst (N := 3) rfl ?_); refine box_event ?hg (N := 3) ?hd (cs := #[.int .i64 a1_0, .int .u64 a1_1]) (t := 24) ?hr ?_; (case hd => rfl); (case hg => rfl); (case hr => first | (go_simp; done) | (go_simp; rfl)); intro gb228 hg w28 hbox hb; have nn_ := bT hb hg; have bgb227_ := bN BK227 hb hg; have BK228 := Aside0.mk (hbox); have GW228 := Aside0.mk nn_.2; have GE228 := GW228; have NB227_228 := Aside0.mk bgb227_.2.1; have NB228_227 := Aside0.mk bgb227_.2.2; replace BK227 := Aside0.mk bgb227_.1; replace HB := Aside0.mk nn_.1; clear nn_ bgb227_; clear hb hbox hg; have hnb29 := NB227_228.out; have hnc29 := NB228_227.out; have hcz30_0 : w28.cell? ⟨gb227, 0, none⟩ = some (.int .i64 a0_0) := (blk_cell BK227.out 0).trans rfl; have hcz30_1 : w28.cell? ⟨gb227, 1, none⟩ = some (.int .u64 a0_1) := (blk_cell BK227.out 1).trans rfl; have hfz30_0 := blk_frozen BK227.out 0; have hfz30_1 := blk_frozen BK227.out 1; have hcz31_0 : w28.cell? ⟨gb228, 0, none⟩ = some (.int .i64 a1_0) := (blk_cell BK228.out 0).trans rfl; have hcz31_1 : w28.cell? ⟨gb228, 1, none⟩ = some (.int .u64 a1_1) := (blk_cell BK228.out 1).trans rfl; have hfz31_0 := blk_frozen BK228.out 0; have hfz31_1 := blk_frozen BK228.out 1))
        go_ret
        exact ⟨by first | rfl | (simp [errW_none, errW_some] <;> rfl) | (simp [*, errW_none, errW_some] <;> rfl), bE⟩


end Go.Proofs.Ytkhocaehhflpcaa.PA
