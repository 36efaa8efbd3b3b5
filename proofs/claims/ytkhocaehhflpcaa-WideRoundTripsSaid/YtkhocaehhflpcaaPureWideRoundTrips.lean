/- The plain law of WideRoundTrips. -/
import Derived.Test.YtkhocaehhflpcaaPAx18
import Derived.Test.YtkhocaehhflpcaaParse
import Derived.Test.YtkhocaehhflpcaaLive
namespace Go.Proofs.Ytkhocaehhflpcaa.Pure
open Go.RowKit Go.Proofs.Ytkhocaehhflpcaa.PA Go.Proofs.Ytkhocaehhflpcaa.Uw Go.Proofs.Ytkhocaehhflpcaa.Wide Go.Proofs.Ytkhocaehhflpcaa.Dec Go.Proofs.YtkhocaehhflpcaaW.PrintWords Go.Proofs.YtkhocaehhflpcaaW.PrintLast

theorem okd_D (m : Int) (h0 : 0 ≤ m) (h1 : m < 10 ^ 40) : okd (D 40 m) := by
  refine ⟨D_ne 40 m (by decide), D_digits 40 m h0, ?_⟩
  by_cases g : m = 0
  · subst g; rw [D_zero 40 (by decide)]; intro _; rfl
  · obtain ⟨c, t, e, hc⟩ := D_head 40 m (by omega) h1
    rw [e]
    intro z
    have : c = 48 := by simpa using z
    subst this
    exact absurd rfl hc
theorem ten40 : (10 : Int) ^ 40 = 10000000000000000000000000000000000000000 := by decide
/-- A text of a number is read as the number. -/
theorem reads_text (v : Int) (h0 : -170141183460469231731687303715884105728 ≤ v) (h1 : v < 170141183460469231731687303715884105728) : reads (pre (v < 0) ++ D 40 (ab v)) = some (v / 18446744073709551616, v % 18446744073709551616, 0) := by
  have a0 := ab_nonneg v
  have a1 := ab_le v 170141183460469231731687303715884105728 h0 (by omega)
  have hk := okd_D (ab v) a0 (by rw [ten40]; omega)
  have hv := vl_D 40 (ab v) a0 (by rw [ten40]; omega)
  unfold pre
  by_cases g : v < 0
  · have e : ab v = -v := by unfold ab; rw [if_pos g]
    have hne : D 40 (ab v) ≠ [48] := by
      intro z
      rw [z] at hv
      have : vl [48] = 0 := by decide
      omega
    rw [if_pos g, List.singleton_append, reads_neg, if_pos ⟨hk, fun _ => hne⟩, hv]
    unfold out sg
    rw [if_pos rfl, e, Int.neg_neg, if_pos ⟨h1, h0⟩]
  · have e : ab v = v := by unfold ab; rw [if_neg g]
    have hh : (D 40 (ab v)).head? ≠ some 45 := by
      rcases hD : D 40 (ab v) with _ | ⟨c, r⟩
      · simp
      · intro z
        have : c = 45 := by simpa using z
        have := hk.2.1 c (by rw [hD]; simp)
        subst c
        unfold isD at this
        have e : (45 : UInt8).toNat = 45 := rfl
        omega
    rw [if_neg g, List.nil_append, reads_pos _ hh, if_pos ⟨hk, fun z => absurd z (by decide)⟩, hv]
    unfold out sg
    simp only [Bool.false_eq_true, if_false]
    rw [e, if_pos ⟨h1, h0⟩]
theorem out_ok (v a b c : Int) (h : out v = some (a, b, c)) (hc : c = 0) : a = v / 18446744073709551616 ∧ b = v % 18446744073709551616 ∧ v < 170141183460469231731687303715884105728 ∧ -170141183460469231731687303715884105728 ≤ v := by
  unfold out at h
  by_cases g : v < 170141183460469231731687303715884105728 ∧ -170141183460469231731687303715884105728 ≤ v
  · rw [if_pos g] at h
    simp only [Option.some.injEq, Prod.mk.injEq] at h
    exact ⟨h.1.symm, h.2.1.symm, g.1, g.2⟩
  · rw [if_neg g] at h
    simp only [Option.some.injEq, Prod.mk.injEq] at h
    omega
theorem vl48 : vl [48] = 0 := by decide
theorem D_more (j : Nat) : ∀ m : Int, 0 ≤ m → 1 ≤ j → m < 10 ^ j → D (j + 1) m = D j m := by
  induction j with
  | zero => intro m _ h1 _; omega
  | succ j ih =>
    intro m h0 _ h2
    by_cases g : m < 10
    · unfold D; rw [if_pos g, if_pos g]
    · have hj : 1 ≤ j := by
        rcases Nat.eq_zero_or_pos j with rfl | h
        · simp at h2; omega
        · exact h
      rw [Int.pow_succ] at h2
      conv => lhs; unfold D
      conv => rhs; unfold D
      rw [if_neg g, if_neg g, ih (m / 10) (by omega) hj (by omega)]
theorem pow_up (i : Nat) : (10 : Int) ^ 40 ≤ 10 ^ (40 + i) := by
  induction i with
  | zero => exact Int.le_refl _
  | succ i ih => rw [← Nat.add_assoc, Int.pow_succ]; omega
theorem D_40 (i : Nat) (m : Int) (h0 : 0 ≤ m) (h1 : m < 10 ^ 40) : D (40 + i) m = D 40 m := by
  induction i with
  | zero => rfl
  | succ i ih => rw [← Nat.add_assoc, D_more (40 + i) m h0 (by omega) (Int.lt_of_lt_of_le h1 (pow_up i)), ih]
/-- A well formed text without its sign is the decimal form of its value. -/
theorem D_back (T : List UInt8) (h : okd T) (hlt : vl T < 10 ^ 40) : D 40 (vl T) = T ∧ 0 ≤ vl T ∧ (T ≠ [48] → 0 < vl T) := by
  rcases T with _ | ⟨c, t⟩
  · exact absurd rfl h.1
  · have h0 := vl_nonneg (c :: t) h.2.1
    by_cases hc : c = 48
    · subst hc
      have := h.2.2 rfl
      have ht : t = [] := List.length_eq_zero_iff.mp (by rw [List.length_cons] at this; omega)
      subst ht
      exact ⟨by rw [vl48]; exact D_zero 40 (by decide), h0, fun z => absurd rfl z⟩
    · have hc' : c.toNat ≠ 48 := fun z => hc (UInt8.toNat_inj.mp z)
      have hp := vl_pos c t h.2.1 hc'
      refine ⟨?_, h0, fun _ => hp⟩
      have hl := D_vl t.length c t rfl h.2.1 hc' (40 + t.length) (by omega)
      rw [D_40 t.length _ h0 hlt] at hl
      exact hl
theorem D_len (j : Nat) : ∀ m : Int, (D j m).length ≤ j := by
  induction j with
  | zero => intro m; simp [D]
  | succ j ih =>
    intro m
    unfold D
    split
    · simp
    · have := ih (m / 10)
      rw [List.length_append, List.length_singleton]; omega
theorem Text_size (y : ByteArray) (v m : Int) (_ : 0 ≤ m) (_ : m < 10 ^ 40) (h : y.data.toList = pre (v < 0) ++ D 40 m) : y.size ≤ 1000 := by
  have := D_len 40 m
  rw [size_list, h, List.length_append]
  unfold pre
  split <;> simp <;> omega
theorem reads_some (L : List UInt8) : ∃ a b c, reads L = some (a, b, c) := by
  unfold reads out
  split
  · split
    · exact ⟨_, _, _, rfl⟩
    · exact ⟨_, _, _, rfl⟩
  · exact ⟨_, _, _, rfl⟩
theorem WideRoundTrips : corebanklaw01_WideRoundTrips.Pure := by
  intro h l s hh hl hs
  have hh := wf_I hh
  have hl := wf_U hl
  refine ⟨20000, ?_⟩
  unfold corebanklaw01_WideRoundTrips.f
  rw [live_f 20000 (by decide)]
  by_cases g : (s.size : Int) > 200
  · rw [if_pos g]; rfl
  · rw [if_neg g, Parse_f s (by omega) 20000 (by decide)]
    obtain ⟨y, hy, hyl⟩ := Text_f h l hh hl
    have hb := val_bd h l hh hl
    have a0 := ab_nonneg (val h l)
    have a1 := ab_le (val h l) (170141183460469231731687303715884105728) hb.1 (by omega)
    have hrt := reads_text (val h l) hb.1 hb.2
    rw [hy 20000 (by decide)]
    simp only [Option.bind_some]
    rw [Parse_f y (Text_size y _ _ a0 (by rw [ten40]; omega) hyl) 20000 (by decide), hyl, hrt]
    obtain ⟨a, b, c, hr⟩ := reads_some s.data.toList
    rw [hr]
    simp only [Option.bind_some]
    have e1 : val h l / 18446744073709551616 = h := by unfold val I U at *; omega
    have e2 : val h l % 18446744073709551616 = l := by unfold val I U at *; omega
    rw [e1, e2, if_pos (by simp), if_pos trivial]
    by_cases hc : c = 0
    · rw [if_pos hc]
      have hg : good s.data.toList := by
        refine Decidable.byContradiction fun hn => ?_
        unfold reads at hr
        rw [if_neg hn] at hr
        simp only [Option.some.injEq, Prod.mk.injEq] at hr
        omega
      obtain ⟨hk, hne⟩ := hg
      unfold reads at hr
      rw [if_pos ⟨hk, hne⟩] at hr
      obtain ⟨ea, eb, hb1, hb0⟩ := out_ok _ a b c hr hc
      have hT0 := vl_nonneg _ hk.2.1
      have hI : I a := by rw [ea]; unfold I; omega
      have hU : U b := by rw [eb]; unfold U; omega
      have hval : val a b = sg (decide (s.data.toList.head? = some 45)) (vl (body s.data.toList)) := by rw [ea, eb]; unfold val; omega
      obtain ⟨z, hz, hzl⟩ := Text_f a b hI hU
      rw [hz 20000 (by decide)]
      simp only [Option.bind_some]
      have hD : vl (body s.data.toList) < 10 ^ 40 := by
        rw [ten40]
        unfold sg at hb1 hb0
        split at hb1
        · rename_i q; rw [if_pos q] at hb0; omega
        · omega
      obtain ⟨d1, d2, d3⟩ := D_back _ hk hD
      have hzs : z.toList = s.toList := by
        rw [ByteArray.toList_eq, ByteArray.toList_eq, hzl, hval]
        unfold sg pre
        by_cases hn : s.data.toList.head? = some 45
        · have hp := d3 (hne hn)
          rw [if_pos (decide_eq_true hn), if_pos (by omega)]
          have : ab (-vl (body s.data.toList)) = vl (body s.data.toList) := by unfold ab; rw [if_pos (by omega)]; omega
          rw [this, d1]
          unfold body
          rw [if_pos hn]
          rcases hT : s.data.toList with _ | ⟨q, r⟩
          · rw [hT] at hn; simp at hn
          · rw [hT] at hn
            have : q = 45 := by simpa using hn
            rw [this]; rfl
        · rw [if_neg (by simp only [decide_eq_true_eq]; exact hn : ¬ decide (s.data.toList.head? = some 45) = true), if_neg (by omega)]
          have : ab (vl (body s.data.toList)) = vl (body s.data.toList) := by unfold ab; rw [if_neg (by omega)]
          rw [this, d1]
          unfold body
          rw [if_neg hn]; rfl
      rw [if_pos hzs]
    · rw [if_neg hc]
end Go.Proofs.Ytkhocaehhflpcaa.Pure
