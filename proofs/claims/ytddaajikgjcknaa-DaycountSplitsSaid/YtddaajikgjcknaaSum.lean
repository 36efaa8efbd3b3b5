/- Day counts: what the program and the reference come to, as differences of one potential. -/
import Derived.Test.YtddaajikgjcknaaPAx10
import Derived.Test.YtddaajikgjcknaaPAx3
import Derived.Test.YtddaajikgjcknaaPAx4
import Derived.Test.YtddaajikgjcknaaPAx5
import Derived.Test.YtddaajikgjcknaaDate
namespace Go.Proofs.Ytddaajikgjcknaa.Date
open Go.RowKit Go.Proofs.Ytddaajikgjcknaa.PA Go.Proofs.Ytddaajikgjcknaa.Cal Go.Proofs.YtddaajikgjcknaaW.PrintWords Go.Proofs.YtddaajikgjcknaaW.PrintLast

/-- A number is a day. -/
def Vd (d : Int) : Prop := 0 ≤ d ∧ d ≤ 73048
instance (d : Int) : Decidable (Vd d) := by unfold Vd; infer_instance
def T (d : Int) : Int := 360 * (civ d).1 + 30 * (civ d).2.1 + mn (civ d).2.2 30
theorem mn_bd (n : Int) (h : 1 ≤ n) : 1 ≤ mn n 30 ∧ mn n 30 ≤ 30 := by unfold mn; split <;> omega
theorem civ_bd {d : Int} (h : Vd d) : 2000 ≤ (civ d).1 ∧ (civ d).1 ≤ 2199 ∧ 1 ≤ (civ d).2.1 ∧ (civ d).2.1 ≤ 12 ∧ 1 ≤ mn (civ d).2.2 30 ∧ mn (civ d).2.2 30 ≤ 30 := by
  obtain ⟨a, b, c, e, f, _⟩ := (civ_all d h.1 h.2).1
  exact ⟨a, b, c, e, (mn_bd _ f).1, (mn_bd _ f).2⟩
theorem T_bd {d : Int} (h : Vd d) : 720031 ≤ T d ∧ T d ≤ 792030 := by
  have := civ_bd h; unfold T; omega
theorem valid_p' (d : Int) : date_Valid.f d = some (decide (Vd d)) := valid_p d
theorem valid_r' (d : Int) : corebankref04_Valid.f d = some (decide (Vd d)) := valid_r d
theorem thirty_sum {a b : Int} (ha : Vd a) (hb : Vd b) : wrap64 ((wrap64 ((wrap64 ((wrap64 (360 * (wrap64 ((civ b).1 - (civ a).1)))) + (wrap64 (30 * (wrap64 ((civ b).2.1 - (civ a).2.1)))))) + (mn (civ b).2.2 30))) - (mn (civ a).2.2 30)) = T b - T a := by
  have h1 := civ_bd ha
  have h2 := civ_bd hb
  unfold T
  generalize (civ a).1 = p at *
  generalize (civ b).1 = q at *
  generalize (civ a).2.1 = r at *
  generalize (civ b).2.1 = s at *
  generalize mn (civ a).2.2 30 = u at *
  generalize mn (civ b).2.2 30 = v at *
  rw [w64 (n := q - p) (by omega) (by omega), w64 (n := s - r) (by omega) (by omega), w64 (n := 360 * (q - p)) (by omega) (by omega), w64 (n := 30 * (s - r)) (by omega) (by omega), w64 (n := 360 * (q - p) + 30 * (s - r)) (by omega) (by omega), w64 (n := 360 * (q - p) + 30 * (s - r) + v) (by omega) (by omega), w64 (by omega) (by omega)]
  omega
def Th (a b : Int) : Int := if Vd a ∧ Vd b then T b - T a else 0
theorem thirty_p (k : Nat) (hk : 230 ≤ k) (a b : Int) : daycount_Thirty.f k a b = some (Th a b) := by
  obtain ⟨k, rfl⟩ : ∃ j, k = j + 1 := ⟨k - 1, by omega⟩
  unfold daycount_Thirty.f Th
  rw [valid_p', valid_p']
  simp only [Option.bind_some, daycount_Thirty.j0]
  by_cases ha : Vd a
  · by_cases hb : Vd b
    · simp only [ha, hb, decide_true, Bool.not_true, if_true, and_self]
      rw [(civ_all a ha.1 ha.2).2.1 k (by omega), (civ_all b hb.1 hb.2).2.1 k (by omega)]
      simp only [Option.bind_some]
      rw [thirty_sum ha hb]; rfl
    · simp [ha, hb]
  · simp [ha]
theorem thirty_r (k : Nat) (hk : 230 ≤ k) (a b : Int) : corebankref06_Thirty.f k a b = some (Th a b) := by
  obtain ⟨k, rfl⟩ : ∃ j, k = j + 1 := ⟨k - 1, by omega⟩
  unfold corebankref06_Thirty.f Th
  rw [valid_r', valid_r']
  simp only [Option.bind_some, corebankref06_Thirty.j0]
  by_cases ha : Vd a
  · by_cases hb : Vd b
    · simp only [ha, hb, decide_true, Bool.not_true, if_true, and_self]
      rw [(civ_all a ha.1 ha.2).2.2 k (by omega), (civ_all b hb.1 hb.2).2.2 k (by omega)]
      simp only [Option.bind_some]
      rw [thirty_sum ha hb]; rfl
    · simp [ha, hb]
  · simp [ha]
theorem Th_bd (a b : Int) : -80000 ≤ Th a b ∧ Th a b ≤ 80000 := by
  unfold Th; split
  · rename_i h; have := T_bd h.1; have := T_bd h.2; omega
  · omega
/-- The weight of a day of a year on the basis of actual days. -/
def wy (y : Int) : Int := if lp y = 1 then 4380 else 4392
theorem wy_year (y : Int) : (365 + lp y) * wy y = 1603080 := by
  unfold wy; have := lp_01 y; by_cases h : lp y = 1
  · rw [if_pos h, h]; rfl
  · rw [if_neg h, (by omega : lp y = 0)]; rfl
theorem wy_bd (y : Int) : 4380 ≤ wy y ∧ wy y ≤ 4392 := by unfold wy; split <;> omega
def Wt (b d : Int) : Int := if Vd d then (if b = 1 then 4453 else if b = 2 then 4392 else if b = 3 then wy (civ d).1 else if b = 4 then 4453 * Th d (d + 1) else 0) else 0
theorem leap_w {y : Int} (f : Int → Option Bool) (hf : f y = some (decide (lp y = 1))) :
    ((f y).bind fun t => (if t = true then (some (4380 : Int)) else (some 4392))) = some (wy y) := by
  rw [hf]; unfold wy; simp only [Option.bind_some]
  by_cases hl : lp y = 1
  · simp [hl]
  · simp [hl]
theorem weight_p (k : Nat) (hk : 230 ≤ k) (b d : Int) : daycount_Weight.f k b d = some (Wt b d) := by
  unfold daycount_Weight.f Wt
  rw [valid_p']
  simp only [Option.bind_some]
  by_cases hd : Vd d
  · have hc := civ_bd hd
    simp only [hd, decide_true, if_true]
    rw [(civ_all d hd.1 hd.2).2.1 k (by omega)]
    simp only [Option.bind_some]
    rw [leap_w date_Leap.f (leap_p _ hc.1 hc.2.1)]
    rw [w64 (n := d + 1) (by have := hd.1; omega) (by have := hd.2; omega), thirty_p k hk]
    have := Th_bd d (d + 1)
    simp only [Option.bind_some]
    rw [w64 (by omega) (by omega)]
    by_cases h3 : b = 3
    · subst h3; simp
    · rw [if_neg h3]
      by_cases h2 : b = 2
      · subst h2; simp
      · rw [if_neg h2]
        by_cases h4 : b = 4
        · subst h4; simp; omega
        · rw [if_neg h4]
          by_cases h1 : b = 1
          · subst h1; simp
          · simp [h1, h2, h3, h4]
  · simp [hd]
theorem weight_r (k : Nat) (hk : 230 ≤ k) (b d : Int) : corebankref06_Weight.f k b d = some (Wt b d) := by
  unfold corebankref06_Weight.f Wt
  rw [valid_r']
  simp only [Option.bind_some]
  by_cases hd : Vd d
  · have hc := civ_bd hd
    simp only [hd, decide_true, if_true]
    rw [(civ_all d hd.1 hd.2).2.2 k (by omega)]
    simp only [Option.bind_some]
    rw [leap_w corebankref04_Leap.f (leap_r _ hc.1 hc.2.1)]
    rw [w64 (n := d + 1) (by have := hd.1; omega) (by have := hd.2; omega), thirty_r k hk]
    have := Th_bd d (d + 1)
    simp only [Option.bind_some]
    rw [w64 (by omega) (by omega)]
    by_cases h3 : b = 3
    · subst h3; simp
    · by_cases h2 : b = 2
      · subst h2; simp
      · by_cases h4 : b = 4
        · subst h4; simp
        · by_cases h1 : b = 1
          · subst h1; simp
          · simp [h1, h2, h3, h4]
  · simp [hd]
/-- The potential: the part of a year from 2000 on up to a day. -/
def Ph (b d : Int) : Int := if b = 1 then 4453 * d else if b = 2 then 4392 * d else if b = 3 then (civ d).1 * 1603080 + (d - bg (civ d).1) * wy (civ d).1 else if b = 4 then T d * 4453 else 0
theorem civ_year {d y : Int} (h : Vd d) (hy : 2000 ≤ y) (hy' : y ≤ 2199) (h1 : bg y ≤ d) (h2 : d < bg (y + 1)) : (civ d).1 = y := by
  have hc := (civ_all d h.1 h.2).1
  exact year_one hc.1 hc.2.1 hy hy' hc.year.1 hc.year.2 h1 h2
theorem Vd_civ {d : Int} (h : Vd d) : IsCiv d (civ d).1 (civ d).2.1 (civ d).2.2 := (civ_all d h.1 h.2).1
/-- From a day on to another day of its year, or to the next year's first day. -/
theorem Ph3_in {d e y : Int} (hd : Vd d) (he : Vd e) (hy : (civ d).1 = y) (h1 : d ≤ e) (h2 : e ≤ bg (y + 1)) : Ph 3 e - Ph 3 d = (e - d) * wy y := by
  have hc := Vd_civ hd
  have hb := civ_bd hd
  have hyr := hc.year
  rw [hy] at hb hyr
  have hs := bg_succ y hb.1 hb.2.1
  by_cases h3 : e < bg (y + 1)
  · have e1 : (civ e).1 = y := civ_year he hb.1 hb.2.1 (by omega) h3
    simp only [Ph, hy, e1]
    simp only [show ((3 : Int) = 1) = False from by simp, show ((3 : Int) = 2) = False from by simp, if_true, if_false]
    have : (e - d) * wy y = (e - bg y) * wy y - (d - bg y) * wy y := by rw [← Int.sub_mul]; congr 1; omega
    omega
  · have e2 : e = bg (y + 1) := by omega
    have hy2 : y + 1 ≤ 2199 := by
      by_cases h : y = 2199
      · subst h; have : bg (2199 + 1) = 73049 := bg_200; have := he.2; omega
      · omega
    have hs2 := bg_succ (y + 1) (by omega) hy2
    have := lp_01 (y + 1)
    have e1 : (civ e).1 = y + 1 := civ_year he (by omega) hy2 (by omega) (by omega)
    simp only [Ph, hy, e1]
    simp only [show ((3 : Int) = 1) = False from by simp, show ((3 : Int) = 2) = False from by simp, if_true, if_false]
    have hw := wy_year y
    have h4 : (e - bg (y + 1)) * wy (y + 1) = 0 := by rw [e2]; simp
    have h5 : (e - d) * wy y + (d - bg y) * wy y = (365 + lp y) * wy y := by rw [← Int.add_mul]; congr 1; omega
    omega
theorem Ph_bd {b d : Int} (h : Vd d) : -1 ≤ Ph b d ∧ Ph b d ≤ 4000000000 := by
  have hc := Vd_civ h
  have hb := civ_bd h
  have ht := T_bd h
  obtain ⟨h0, h1⟩ := h
  have hyr := hc.year
  have hs := bg_succ _ hb.1 hb.2.1
  have hl := lp_01 (civ d).1
  have hw := wy_bd (civ d).1
  unfold Ph
  split
  · omega
  · split
    · omega
    · split
      · have a : 0 ≤ (d - bg (civ d).1) * wy (civ d).1 := Int.mul_nonneg (by omega) (by omega)
        have b : (d - bg (civ d).1) * wy (civ d).1 ≤ 366 * wy (civ d).1 := Int.mul_le_mul_of_nonneg_right (by omega) (by omega)
        omega
      · split <;> omega
theorem Wt_step {b d : Int} (hd : Vd d) (hd' : Vd (d + 1)) : Wt b d = Ph b (d + 1) - Ph b d := by
  unfold Wt
  rw [if_pos hd]
  by_cases h1 : b = 1
  · subst h1; simp [Ph]; omega
  · by_cases h2 : b = 2
    · subst h2; simp [Ph]; omega
    · by_cases h3 : b = 3
      · subst h3
        have hc := Vd_civ hd
        have := hc.year
        rw [Ph3_in hd hd' rfl (by omega) (by omega)]
        simp; omega
      · by_cases h4 : b = 4
        · subst h4
          simp [Ph, Th, hd, hd']
          omega
        · simp [Ph, h1, h2, h3, h4]
theorem jan1 (k : Nat) (hk : 2 ≤ k) (y : Int) (h : 2000 ≤ y) (h' : y ≤ 2199) : date_Day.f k y 1 1 = some (bg y, 0) := by
  obtain ⟨k, rfl⟩ : ∃ j, k = j + 2 := ⟨k - 2, by omega⟩
  unfold date_Day.f
  rw [if_neg (by omega), if_neg (by omega), if_neg (by omega), if_neg (by omega), if_neg (by omega), length_p y 1 h h' (by omega) (by omega)]
  simp only [Option.bind_some, date_Day.j0, date_Day.l0]
  have hl := len_bd y 1 (by omega) (by omega)
  rw [decide_eq_false (by omega), begin_p y h (by omega)]
  have := bg_lo y h (by omega)
  simp only [Option.bind_some]
  rw [if_neg (by decide), if_neg (by omega), w64 (n := bg y + 1) (by omega) (by omega), w64 (by omega) (by omega)]
  congr 2; omega
theorem jan1_out (k : Nat) (hk : 1 ≤ k) : date_Day.f k 2200 1 1 = some (0, 1) := by
  obtain ⟨k, rfl⟩ : ∃ j, k = j + 1 := ⟨k - 1, by omega⟩
  unfold date_Day.f
  rw [if_neg (by omega), if_pos (by omega)]
  simp [date_Day.j0]
theorem Ph3_mono {a b : Int} (ha : Vd a) (hb : Vd b) (h : a ≤ b) : Ph 3 a ≤ Ph 3 b := by
  obtain ⟨n, hn⟩ : ∃ n : Nat, b = a + n := ⟨(b - a).toNat, by omega⟩
  subst hn
  induction n with
  | zero => simp
  | succ n ih =>
    have hv : Vd (a + n) := ⟨by have := ha.1; omega, by have := hb.2; omega⟩
    have := ih hv (by omega)
    have e : a + ((n + 1 : Nat) : Int) = a + (n : Int) + 1 := by omega
    rw [e] at hb ⊢
    have hs := Wt_step (b := 3) hv hb
    have hw := wy_bd (civ (a + n)).1
    simp [Wt, hv] at hs
    omega
/-- The program's sum for the basis of actual days, from year to year. -/
theorem actual_l (j : Nat) : ∀ (a b s : Int), Vd a → Vd b → a ≤ b → (a < b → 2200 - (civ a).1 ≤ j) → -1000000000000 ≤ s → s ≤ 1000000000000 - (Ph 3 b - Ph 3 a) →
    ∀ k, j + 240 ≤ k → daycount_actual.l0 k a b s = some (s + (Ph 3 b - Ph 3 a)) := by
  induction j with
  | zero =>
    intro a b s ha hb hab hy hs hs' k hk
    obtain ⟨k, rfl⟩ : ∃ j, k = j + 1 := ⟨k - 1, by omega⟩
    simp only [daycount_actual.l0]
    have hc := civ_bd ha
    have e : a = b := by
      by_cases h : a < b
      · have := hy h; omega
      · omega
    rw [if_neg (by omega), e]; congr 1; omega
  | succ j ih =>
    intro a b s ha hb hab hy hs hs' k hk
    obtain ⟨k, rfl⟩ : ∃ j, k = j + 1 := ⟨k - 1, by omega⟩
    simp only [daycount_actual.l0]
    by_cases h : a < b
    · rw [if_pos h]
      have hc := civ_bd ha
      have hci := Vd_civ ha
      have hyr := hci.year
      rw [(civ_all a ha.1 ha.2).2.1 k (by omega), weight_p k (by omega)]
      simp only [Option.bind_some]
      rw [w64 (n := (civ a).1 + 1) (by omega) (by omega)]
      have hW : Wt 3 a = wy (civ a).1 := by simp [Wt, ha]
      rw [hW]
      have hwb := wy_bd (civ a).1
      have hpa := Ph_bd (b := 3) ha
      have hpb := Ph_bd (b := 3) hb
      have hab2 := ha.1
      have hbb := hb.2
      by_cases hy2 : (civ a).1 = 2199
      · have hdy : date_Day.f k ((civ a).1 + 1) 1 1 = some (0, 1) := by rw [hy2]; exact jan1_out k (by omega)
        rw [hdy]
        simp only [Option.bind_some]
        rw [if_neg (by omega)]
        have he : b ≤ bg ((civ a).1 + 1) := by rw [hy2, show (2199 : Int) + 1 = 2200 from rfl, bg_200]; omega
        have hp := Ph3_in ha hb rfl (by omega) he
        have hp0 : 0 ≤ (b - a) * wy (civ a).1 := Int.mul_nonneg (by omega) (by omega)
        rw [w64 (n := b - a) (by omega) (by omega), w64 (n := (b - a) * wy (civ a).1) (by omega) (by omega), w64 (by omega) (by omega)]
        rw [ih b b _ hb hb (by omega) (fun h => by omega) (by omega) (by omega) k (by omega)]
        congr 1; omega
      · have hy3 : (civ a).1 + 1 ≤ 2199 := by omega
        rw [jan1 k (by omega) _ (by omega) hy3]
        simp only [Option.bind_some]
        rw [if_pos trivial]
        have hg := bg_lo ((civ a).1 + 1) (by omega) (by omega)
        obtain ⟨e, he⟩ : ∃ e, mn (bg ((civ a).1 + 1)) b = e := ⟨_, rfl⟩
        have he2 : a < e ∧ e ≤ b ∧ e ≤ bg ((civ a).1 + 1) ∧ (e = b ∨ e = bg ((civ a).1 + 1)) := by
          unfold mn at he
          split at he <;> omega
        rw [he]
        have hve : Vd e := ⟨by omega, by omega⟩
        have hp := Ph3_in ha hve rfl (by omega) he2.2.2.1
        have hp0 : 0 ≤ (e - a) * wy (civ a).1 := Int.mul_nonneg (by omega) (by omega)
        have hpe := Ph_bd (b := 3) hve
        have hm := Ph3_mono hve hb he2.2.1
        rw [w64 (n := e - a) (by omega) (by omega), w64 (n := (e - a) * wy (civ a).1) (by omega) (by omega), w64 (n := s + (e - a) * wy (civ a).1) (by omega) (by omega)]
        rw [ih e b _ hve hb he2.2.1 ?_ (by omega) (by omega) k (by omega)]
        · congr 1; omega
        · intro hlt
          have e3 : e = bg ((civ a).1 + 1) := by omega
          have hs := bg_succ ((civ a).1 + 1) (by omega) hy3
          have := lp_01 ((civ a).1 + 1)
          rw [civ_year hve (by omega) hy3 (by omega) (by omega)]
          have := hy h
          omega
    · rw [if_neg h, (by omega : a = b)]; congr 1; omega
/-- A number is a basis. -/
def Vb (b : Int) : Prop := 1 ≤ b ∧ b ≤ 4
instance (b : Int) : Decidable (Vb b) := by unfold Vb; infer_instance
theorem basis_p (b : Int) : daycount_Valid.f b = some (decide (Vb b)) := by
  unfold daycount_Valid.f
  by_cases h : b ≥ 1
  · rw [if_pos h]; congr 1; exact decide_eq_decide.mpr (by unfold Vb; omega)
  · rw [if_neg h, decide_eq_false (by unfold Vb; omega)]
theorem basis_r (b : Int) : corebankref06_Valid.f b = some (decide (Vb b)) := by
  unfold corebankref06_Valid.f
  by_cases h : b ≥ 1
  · rw [if_pos h]; congr 1; exact decide_eq_decide.mpr (by unfold Vb; omega)
  · rw [if_neg h, decide_eq_false (by unfold Vb; omega)]
def Sm (b x y : Int) : Int := if Vb b ∧ Vd x ∧ Vd y ∧ x ≤ y then Ph b y - Ph b x else 0
theorem actual_p (k : Nat) (hk : 500 ≤ k) (a b : Int) (ha : Vd a) (hb : Vd b) (h : a ≤ b) : daycount_actual.f k a b = some (Ph 3 b - Ph 3 a) := by
  unfold daycount_actual.f
  have h1 := Ph_bd (b := 3) ha
  have h2 := Ph_bd (b := 3) hb
  rw [actual_l 200 a b 0 ha hb h (fun _ => by have := (civ_bd ha).1; omega) (by omega) (by omega) k (by omega)]
  congr 1; omega
theorem sum_p (k : Nat) (hk : 510 ≤ k) (b x y : Int) : daycount_Sum.f k b x y = some (Sm b x y) := by
  obtain ⟨k, rfl⟩ : ∃ j, k = j + 1 := ⟨k - 1, by omega⟩
  unfold daycount_Sum.f Sm
  rw [basis_p, valid_p', valid_p']
  simp only [Option.bind_some, daycount_Sum.j0]
  by_cases hb : Vb b
  · by_cases hx : Vd x
    · by_cases hy : Vd y
      · by_cases h : x ≤ y
        · have hd : decide (x > y) = false := decide_eq_false (by omega)
          simp only [hb, hx, hy, h, hd, decide_true, if_true, and_self]
          have h1 := hx.1; have h2 := hy.2
          have hth : Th x y = T y - T x := by simp [Th, hx, hy]
          have hthb := Th_bd x y
          rw [thirty_p k (by omega), actual_p k (by omega) x y hx hy h, weight_p k (by omega)]
          simp only [Option.bind_some]
          rw [if_neg (by decide), w64 (n := Th x y * 4453) (by omega) (by omega), hth, w64 (n := y - x) (by omega) (by omega)]
          obtain ⟨hb1, hb2⟩ := hb
          have hc : b = 1 ∨ b = 2 ∨ b = 3 ∨ b = 4 := by omega
          rcases hc with rfl | rfl | rfl | rfl
          · rw [if_neg (by decide), if_neg (by decide), (by simp [Wt, hx] : Wt 1 x = 4453), w64 (by omega) (by omega)]
            simp [Ph]; omega
          · rw [if_neg (by decide), if_neg (by decide), (by simp [Wt, hx] : Wt 2 x = 4392), w64 (by omega) (by omega)]
            simp [Ph]; omega
          · rw [if_neg (by decide), if_pos rfl]
          · rw [if_pos rfl]
            simp [Ph]; omega
        · have hd : decide (x > y) = true := decide_eq_true (by omega)
          simp [hb, hx, hy, h, hd]
      · simp [hb, hx, hy]
    · simp [hb, hx]
  · simp [hb]
theorem Wt_bd (b d : Int) : -500000000 ≤ Wt b d ∧ Wt b d ≤ 500000000 := by
  unfold Wt
  have := wy_bd (civ d).1
  have := Th_bd d (d + 1)
  split
  · split
    · omega
    · split
      · omega
      · split
        · omega
        · split <;> omega
  · omega
theorem sum_l (b : Int) (j : Nat) : ∀ (x y s : Int), Vd x → Vd y → x ≤ y → y - x = j → -1000000000000 ≤ s - Ph b x → s - Ph b x ≤ 1000000000000 →
    ∀ k, j + 240 ≤ k → corebankref06_Sum.l0 k b y s x = some (s + (Ph b y - Ph b x)) := by
  induction j with
  | zero =>
    intro x y s hx hy hxy hj hs hs' k hk
    obtain ⟨k, rfl⟩ : ∃ j, k = j + 1 := ⟨k - 1, by omega⟩
    simp only [corebankref06_Sum.l0]
    rw [if_neg (by omega), (by omega : x = y)]; congr 1; omega
  | succ j ih =>
    intro x y s hx hy hxy hj hs hs' k hk
    obtain ⟨k, rfl⟩ : ∃ j, k = j + 1 := ⟨k - 1, by omega⟩
    have h1 := hx.1; have h2 := hy.2
    have hv : Vd (x + 1) := ⟨by omega, by omega⟩
    have hst := Wt_step (b := b) hx hv
    have hb := Wt_bd b x
    have hp := Ph_bd (b := b) hx
    simp only [corebankref06_Sum.l0]
    rw [if_pos (by omega), weight_r k (by omega)]
    simp only [Option.bind_some]
    rw [w64 (n := s + Wt b x) (by omega) (by omega), w64 (n := x + 1) (by omega) (by omega), ih (x + 1) y _ hv hy (by omega) (by omega) (by omega) (by omega) k (by omega)]
    congr 1; omega
theorem sum_l_out (b x y s : Int) (h : y ≤ x) (k : Nat) (hk : 1 ≤ k) : corebankref06_Sum.l0 k b y s x = some s := by
  obtain ⟨k, rfl⟩ : ∃ j, k = j + 1 := ⟨k - 1, by omega⟩
  simp only [corebankref06_Sum.l0]
  rw [if_neg (by omega)]
theorem sum_r (k : Nat) (hk : 74000 ≤ k) (b x y : Int) : corebankref06_Sum.f k b x y = some (Sm b x y) := by
  obtain ⟨k, rfl⟩ : ∃ j, k = j + 1 := ⟨k - 1, by omega⟩
  unfold corebankref06_Sum.f Sm
  rw [valid_r', valid_r']
  simp only [Option.bind_some, corebankref06_Sum.j0]
  by_cases hx : Vd x
  · by_cases hy : Vd y
    · simp only [hx, hy, decide_true, if_true, true_and, Bool.not_true]
      rw [if_neg (by decide)]
      have h1 := hx.1; have h2 := hy.2; have h3 := hx.2; have h4 := hy.1
      by_cases h : x ≤ y
      · have hp := Ph_bd (b := b) hx
        rw [sum_l b (y - x).toNat x y 0 hx hy h (by omega) (by omega) (by omega) k (by omega)]
        by_cases hb : Vb b
        · rw [if_pos ⟨hb, h⟩]; congr 1; omega
        · rw [if_neg (fun h => hb h.1)]
          unfold Vb at hb
          unfold Ph
          simp only [show (b = 1) = False from by simp; omega, show (b = 2) = False from by simp; omega, show (b = 3) = False from by simp; omega, show (b = 4) = False from by simp; omega, if_false]
          rfl
      · rw [sum_l_out b x y 0 (by omega) k (by omega), if_neg (fun hh => h hh.2)]
    · simp [hx, hy]
  · simp [hx]
end Go.Proofs.Ytddaajikgjcknaa.Date
