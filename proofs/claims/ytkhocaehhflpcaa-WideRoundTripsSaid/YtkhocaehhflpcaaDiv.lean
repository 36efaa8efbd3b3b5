/- The quotient of two words by one, digit by digit, and the quotients of wide numbers. -/
import Derived.Test.YtkhocaehhflpcaaWord
import Derived.Test.YtkhocaehhflpcaaWide
import Derived.Test.YtkhocaehhflpcaaPAx3
import Derived.Test.YtkhocaehhflpcaaPAx4
namespace Go.Proofs.Ytkhocaehhflpcaa.Wide
open Go.RowKit Go.Proofs.Ytkhocaehhflpcaa.PA Go.Proofs.Ytkhocaehhflpcaa.Uw Go.Proofs.YtkhocaehhflpcaaW.PrintWords Go.Proofs.YtkhocaehhflpcaaW.PrintLast Go.Proofs.YtkhocaehhflpcaaW.PrintMore

/-- What is known of a digit's guess: y = c * 2^32 + d divides U * 2^32 + u; Q is the digit. -/
structure Gs (y c d U u Q q r : Int) : Prop where
  hu : U = q * c + r
  r0 : 0 ≤ r
  r1 : r < 4294967296
  q0 : Q ≤ q
structure Dg (y c d U u Q R : Int) : Prop where
  hy : y = c * 4294967296 + d
  c0 : 2147483648 ≤ c
  c1 : c < 4294967296
  d0 : 0 ≤ d
  d1 : d < 4294967296
  U0 : 0 ≤ U
  U1 : U < y
  u0 : 0 ≤ u
  u1 : u < 4294967296
  hQ : U * 4294967296 + u = Q * y + R
  R0 : 0 ≤ R
  R1 : R < y
theorem Dg.Q_nonneg {y c d U u Q R : Int} (g : Dg y c d U u Q R) : 0 ≤ Q := by
  obtain ⟨hy, c0, c1, d0, d1, U0, U1, u0, u1, hQ, R0, R1⟩ := g
  by_cases h : 0 ≤ Q
  · exact h
  · have : Q * y ≤ -1 * y := Int.mul_le_mul_of_nonneg_right (by omega) (by omega)
    omega
theorem Dg.Q_lt {y c d U u Q R : Int} (g : Dg y c d U u Q R) : Q < 4294967296 := by
  obtain ⟨hy, c0, c1, d0, d1, U0, U1, u0, u1, hQ, R0, R1⟩ := g
  by_cases h : Q < 4294967296
  · exact h
  · have : 4294967296 * y ≤ Q * y := Int.mul_le_mul_of_nonneg_right (by omega) (by omega)
    omega
/-- A guess whose product is too great is too great. -/
theorem Dg.less {y c d U u Q R q : Int} (g : Dg y c d U u Q R) (h : U * 4294967296 + u < q * y) : Q + 1 ≤ q := by
  obtain ⟨hy, c0, c1, d0, d1, U0, U1, u0, u1, hQ, R0, R1⟩ := g
  by_cases hq : Q + 1 ≤ q
  · exact hq
  · have : q * y ≤ Q * y := Int.mul_le_mul_of_nonneg_right (by omega) (by omega)
    omega
theorem Dg.more {y c d U u Q R q : Int} (g : Dg y c d U u Q R) (h : q * y ≤ U * 4294967296 + u) : q ≤ Q := by
  obtain ⟨hy, c0, c1, d0, d1, U0, U1, u0, u1, hQ, R0, R1⟩ := g
  by_cases hq : q ≤ Q
  · exact hq
  · have : (Q + 1) * y ≤ q * y := Int.mul_le_mul_of_nonneg_right (by omega) (by omega)
    rw [Int.add_mul, Int.one_mul] at this
    omega
theorem mul_y (q y c d : Int) (hy : y = c * 4294967296 + d) : q * y = q * c * 4294967296 + q * d := by
  rw [hy, Int.mul_add, Int.mul_assoc]
theorem qd_bd (q d : Int) (h0 : 0 ≤ q) (h1 : q ≤ 4294967296) (d0 : 0 ≤ d) (d1 : d < 4294967296) : 0 ≤ q * d ∧ q * d ≤ 4294967296 * 4294967295 := by
  refine ⟨Int.mul_nonneg h0 d0, ?_⟩
  calc q * d ≤ 4294967296 * d := Int.mul_le_mul_of_nonneg_right h1 d0
    _ ≤ 4294967296 * 4294967295 := Int.mul_le_mul_of_nonneg_left (by omega) (by omega)
/-- The test says yes: the guess is too great. -/
theorem Gs.step {y c d U u Q R q r : Int} (g : Dg y c d U u Q R) (s : Gs y c d U u Q q r) (h : 4294967296 ≤ q ∨ 4294967296 * r + u < q * d) : Q + 1 ≤ q := by
  apply g.less
  have hm := mul_y q y c d g.hy
  obtain ⟨hy, c0, c1, d0, d1, U0, U1, u0, u1, hQ, R0, R1⟩ := g
  obtain ⟨hu, r0, r1, q0⟩ := s
  rcases h with h | h
  · have : 4294967296 * y ≤ q * y := Int.mul_le_mul_of_nonneg_right h (by omega)
    omega
  · generalize q * c = p at *
    generalize q * d = e at *
    omega
/-- The test says no: it is the digit. -/
theorem Gs.done {y c d U u Q R q r : Int} (g : Dg y c d U u Q R) (s : Gs y c d U u Q q r) (h : q * d ≤ 4294967296 * r + u) : q = Q := by
  have h1 : q ≤ Q := by
    apply g.more
    have hm := mul_y q y c d g.hy
    obtain ⟨hu, r0, r1, q0⟩ := s
    generalize q * c = p at *
    generalize q * d = e at *
    omega
  have := s.q0
  omega
/-- The rest has grown beyond a digit: the guess less one is the digit. -/
theorem Gs.last {y c d U u Q R q r : Int} (g : Dg y c d U u Q R) (s : Gs y c d U u Q q r) (h : Q + 1 ≤ q) (hr : 4294967296 ≤ r + c) : q - 1 = Q := by
  have hQ0 := g.Q_nonneg
  have h1 : q - 1 ≤ Q := by
    apply g.more
    have hm := mul_y (q - 1) y c d g.hy
    obtain ⟨hy, c0, c1, d0, d1, U0, U1, u0, u1, hQ, R0, R1⟩ := g
    obtain ⟨hu, r0, r1, q0⟩ := s
    have e1 : (q - 1) * c = q * c - c := by rw [Int.sub_mul, Int.one_mul]
    have hq2 : q ≤ 4294967297 := by
      by_cases hq : q ≤ 4294967297
      · exact hq
      · have : 4294967298 * c ≤ q * c := Int.mul_le_mul_of_nonneg_right (by omega) (by omega)
        omega
    have hb := qd_bd (q - 1) d (by omega) (by omega) d0 d1
    rw [e1] at hm
    generalize q * c = p at *
    generalize (q - 1) * d = e at *
    omega
  omega
theorem Gs.next {y c d U u Q R q r : Int} (g : Dg y c d U u Q R) (s : Gs y c d U u Q q r) (h : Q + 1 ≤ q) (hr : r + c < 4294967296) : Gs y c d U u Q (q - 1) (r + c) := by
  have := g.c0
  obtain ⟨hu, r0, r1, q0⟩ := s
  refine ⟨?_, by omega, hr, by omega⟩
  rw [Int.sub_mul, Int.one_mul]; omega
theorem Gs.small {y c d U u Q R q r : Int} (g : Dg y c d U u Q R) (s : Gs y c d U u Q q r) : 0 ≤ q ∧ q ≤ 4294967298 := by
  have hQ0 := g.Q_nonneg
  obtain ⟨hy, c0, c1, d0, d1, U0, U1, u0, u1, hQ, R0, R1⟩ := g
  obtain ⟨hu, r0, r1, q0⟩ := s
  refine ⟨by omega, ?_⟩
  by_cases hq : q ≤ 4294967298
  · exact hq
  · have : 4294967299 * c ≤ q * c := Int.mul_le_mul_of_nonneg_right (by omega) (by omega)
    omega
/-- The first guess. -/
theorem Dg.guess {y c d U u Q R : Int} (g : Dg y c d U u Q R) : Gs y c d U u Q (U / c) (U - U / c * c) := by
  have hQ0 := g.Q_nonneg
  have hmy := mul_y Q y c d g.hy
  obtain ⟨hy, c0, c1, d0, d1, U0, U1, u0, u1, hQ, R0, R1⟩ := g
  have h1 := Int.emod_nonneg U (by omega : c ≠ 0)
  have h2 := Int.emod_lt_of_pos U (by omega : 0 < c)
  have h3 : U % c = U - U / c * c := by rw [Int.emod_def, Int.mul_comm]
  refine ⟨by omega, by omega, by omega, ?_⟩
  have hQd := Int.mul_nonneg hQ0 d0
  have : Q * c ≤ U := by
    generalize Q * c = p at *
    generalize Q * d = e at *
    omega
  exact Int.le_ediv_of_mul_le (by omega) this
/-- The second digit's loop: it ends with the digit and the rest. -/
theorem div_l1 (y c d U u Q R s q1 : Int) (g : Dg y c d U u Q R) (hs0 : 0 ≤ s) (hs1 : s ≤ 64) (hq1 : 0 ≤ q1 ∧ q1 < 4294967296) (j : Nat) : ∀ (q r : Int), Gs y c d U u Q q r → 4294967296 - r ≤ 2147483648 * (j : Int) →
    ∀ k, 2 * j + 2 ≤ k → bits_Div64.l1 k y s c d u q1 r U q = some (q1 * 4294967296 + Q, R / 2 ^ s.toNat) := by
  have hQ0 := g.Q_nonneg
  have hQ1 := g.Q_lt
  have hsh : ∀ x, shr .u64 x s = x / 2 ^ s.toNat := by
    intro x; unfold shr; rw [show min s.toNat (IntKind.u64.bits) = s.toNat from Nat.min_eq_left (by show s.toNat ≤ 64; omega)]
  have hfin : IntKind.u64.wrap (IntKind.u64.wrap (IntKind.u64.wrap (U * 4294967296) + u) - IntKind.u64.wrap (Q * y)) = R := by
    obtain ⟨hy, c0, c1, d0, d1, U0, U1, u0, u1, hQ, R0, R1⟩ := g
    simp only [wrapu]
    generalize Q * y = p at *
    omega
  have hout : IntKind.u64.wrap (IntKind.u64.wrap (q1 * 4294967296) + Q) = q1 * 4294967296 + Q := by simp only [wrapu]; omega
  induction j with
  | zero =>
    intro q r gs hr
    have := gs.r1; omega
  | succ j ih =>
    intro q r gs hr k hk
    obtain ⟨k, rfl⟩ : ∃ m, k = m + 2 := ⟨k - 2, by omega⟩
    have hsm := gs.small g
    have hyes : Q + 1 ≤ q → bits_Div64.j4 (k + 1) y s c d u q1 r U q true = some (q1 * 4294967296 + Q, R / 2 ^ s.toNat) := by
      intro hq
      have e1 : IntKind.u64.wrap (r + c) = r + c := wu _ (by have := gs.r0; have := g.c0; omega) (by have := gs.r1; have := g.c1; omega)
      have e2 : IntKind.u64.wrap (q - 1) = q - 1 := wu _ (by omega) (by omega)
      simp only [bits_Div64.j4, if_true]
      rw [e1, e2]
      by_cases hb : r + c ≥ 4294967296
      · have := gs.last g hq hb
        rw [if_pos hb, if_pos hs0, this, hsh, hfin, hout]
      · rw [if_neg hb]
        exact ih (q - 1) (r + c) (gs.next g hq (by omega)) (by have := g.c0; omega) k (by omega)
    simp only [bits_Div64.l1]
    by_cases hq : q ≥ 4294967296
    · rw [if_pos hq]
      exact hyes (gs.step g (.inl hq))
    · rw [if_neg hq]
      have hqd := qd_bd q d hsm.1 (by omega) g.d0 g.d1
      have e3 : IntKind.u64.wrap (q * d) = q * d := wu _ (by omega) (by omega)
      have e4 : IntKind.u64.wrap (IntKind.u64.wrap (4294967296 * r) + u) = 4294967296 * r + u := by
        have := gs.r0; have := gs.r1; have := g.u0; have := g.u1
        rw [wu (4294967296 * r) (by omega) (by omega), wu _ (by omega) (by omega)]
      rw [e3, e4]
      by_cases ht : q * d > 4294967296 * r + u
      · rw [decide_eq_true ht]
        exact hyes (gs.step g (.inr ht))
      · rw [decide_eq_false ht]
        have hd := gs.done g (by omega)
        simp only [bits_Div64.j4]
        rw [if_neg (by decide), if_pos hs0, hd, hsh, hfin, hout]
/-- The first digit's loop, and all behind it. -/
theorem div_l0 (y c d U u1 u0 Q1 R1 Q0 R0 s : Int) (g1 : Dg y c d U u1 Q1 R1) (g0 : Dg y c d R1 u0 Q0 R0) (hs0 : 0 ≤ s) (hs1 : s ≤ 64) (j : Nat) : ∀ (q r : Int), Gs y c d U u1 Q1 q r → 4294967296 - r ≤ 2147483648 * (j : Int) →
    ∀ k, 2 * j + 10 ≤ k → bits_Div64.l0 k y s c d U u1 u0 q r = some (Q1 * 4294967296 + Q0, R0 / 2 ^ s.toNat) := by
  have hQ0 := g1.Q_nonneg
  have hQ1 := g1.Q_lt
  have hj2 : ∀ k, 7 ≤ k → bits_Div64.j2 k y s c d U u1 u0 Q1 = some (Q1 * 4294967296 + Q0, R0 / 2 ^ s.toNat) := by
    intro k hk
    obtain ⟨k, rfl⟩ : ∃ m, k = m + 1 := ⟨k - 1, by omega⟩
    have hfin : IntKind.u64.wrap (IntKind.u64.wrap (IntKind.u64.wrap (U * 4294967296) + u1) - IntKind.u64.wrap (Q1 * y)) = R1 := by
      obtain ⟨hy, c0, c1, d0, d1, U0, U1, u0, u1, hQ, R0, R1⟩ := g1
      simp only [wrapu]
      generalize Q1 * y = p at *
      omega
    have gg := g0.guess
    have hsm := gg.small g0
    have e2 : Int.tdiv R1 c = R1 / c := Int.tdiv_eq_ediv_of_nonneg g0.U0
    simp only [bits_Div64.j2]
    rw [if_neg (by have := g1.c0; omega), hfin, e2, wu (R1 / c) hsm.1 (by omega)]
    have hcc : 0 ≤ R1 / c * c ∧ R1 / c * c < 18446744073709551616 := by
      have h1 := gg.hu; have h2 := gg.r0; have h3 := g0.U1; have h4 := g0.hy; have h5 := g0.c1; have h6 := g0.d1; have h7 := gg.r1; have h8 := g0.c0
      have h9 := Int.mul_nonneg hsm.1 (by omega : 0 ≤ c)
      omega
    have hr : IntKind.u64.wrap (R1 - IntKind.u64.wrap (R1 / c * c)) = R1 - R1 / c * c := by
      have h2 := gg.r0; have h3 := gg.r1
      rw [wu _ hcc.1 hcc.2, wu _ h2 (by omega)]
    rw [hr]
    exact div_l1 y c d R1 u0 Q0 R0 s Q1 g0 hs0 hs1 ⟨hQ0, hQ1⟩ 2 _ _ gg (by have := gg.r0; omega) k (by omega)
  induction j with
  | zero =>
    intro q r gs hr
    have := gs.r1; omega
  | succ j ih =>
    intro q r gs hr k hk
    obtain ⟨k, rfl⟩ : ∃ m, k = m + 2 := ⟨k - 2, by omega⟩
    have hsm := gs.small g1
    have hyes : Q1 + 1 ≤ q → bits_Div64.j1 (k + 1) y s c d U u1 u0 q r true = some (Q1 * 4294967296 + Q0, R0 / 2 ^ s.toNat) := by
      intro hq
      have e1 : IntKind.u64.wrap (r + c) = r + c := wu _ (by have := gs.r0; have := g1.c0; omega) (by have := gs.r1; have := g1.c1; omega)
      have e2 : IntKind.u64.wrap (q - 1) = q - 1 := wu _ (by omega) (by omega)
      simp only [bits_Div64.j1, if_true]
      rw [e1, e2]
      by_cases hb : r + c ≥ 4294967296
      · have := gs.last g1 hq hb
        rw [if_pos hb, this]
        exact hj2 k (by omega)
      · rw [if_neg hb]
        exact ih (q - 1) (r + c) (gs.next g1 hq (by omega)) (by have := g1.c0; omega) k (by omega)
    simp only [bits_Div64.l0]
    by_cases hq : q ≥ 4294967296
    · rw [if_pos hq]
      exact hyes (gs.step g1 (.inl hq))
    · rw [if_neg hq]
      have hqd := qd_bd q d hsm.1 (by omega) g1.d0 g1.d1
      have e3 : IntKind.u64.wrap (q * d) = q * d := wu _ (by omega) (by omega)
      have e4 : IntKind.u64.wrap (IntKind.u64.wrap (4294967296 * r) + u1) = 4294967296 * r + u1 := by
        have := gs.r0; have := gs.r1; have := g1.u0; have := g1.u1
        rw [wu (4294967296 * r) (by omega) (by omega), wu _ (by omega) (by omega)]
      rw [e3, e4]
      by_cases ht : q * d > 4294967296 * r + u1
      · rw [decide_eq_true ht]
        exact hyes (gs.step g1 (.inr ht))
      · rw [decide_eq_false ht]
        have hd := gs.done g1 (by omega)
        simp only [bits_Div64.j1]
        rw [if_neg (by decide), hd]
        exact hj2 k (by omega)
/-- The table of lengths. -/
def tb (i : Int) : Int := bt (⟨#[0, 1, 2, 2, 3, 3, 3, 3, 4, 4, 4, 4, 4, 4, 4, 4, 5, 5, 5, 5, 5, 5, 5, 5, 5, 5, 5, 5, 5, 5, 5, 5, 6, 6, 6, 6, 6, 6, 6, 6, 6, 6, 6, 6, 6, 6, 6, 6, 6, 6, 6, 6, 6, 6, 6, 6, 6, 6, 6, 6, 6, 6, 6, 6, 7, 7, 7, 7, 7, 7, 7, 7, 7, 7, 7, 7, 7, 7, 7, 7, 7, 7, 7, 7, 7, 7, 7, 7, 7, 7, 7, 7, 7, 7, 7, 7, 7, 7, 7, 7, 7, 7, 7, 7, 7, 7, 7, 7, 7, 7, 7, 7, 7, 7, 7, 7, 7, 7, 7, 7, 7, 7, 7, 7, 7, 7, 7, 7, 8, 8, 8, 8, 8, 8, 8, 8, 8, 8, 8, 8, 8, 8, 8, 8, 8, 8, 8, 8, 8, 8, 8, 8, 8, 8, 8, 8, 8, 8, 8, 8, 8, 8, 8, 8, 8, 8, 8, 8, 8, 8, 8, 8, 8, 8, 8, 8, 8, 8, 8, 8, 8, 8, 8, 8, 8, 8, 8, 8, 8, 8, 8, 8, 8, 8, 8, 8, 8, 8, 8, 8, 8, 8, 8, 8, 8, 8, 8, 8, 8, 8, 8, 8, 8, 8, 8, 8, 8, 8, 8, 8, 8, 8, 8, 8, 8, 8, 8, 8, 8, 8, 8, 8, 8, 8, 8, 8, 8, 8, 8, 8, 8, 8, 8, 8, 8, 8, 8, 8, 8, 8, 8, 8, 8, 8, 8, 8]⟩ : ByteArray) i
theorem j0_eq (k : Nat) (x0 x2 : Int) : bits_Len64.j0 (k + 1) x0 x2 = if x0 ≥ 65536 then (if (x0 / 65536) ≥ 256 then (if 0 ≤ (((x0 / 65536) / 256) % 256) then (if (((x0 / 65536) / 256) % 256) < 256 then (some (wrap64 ((wrap64 ((wrap64 (x2 + 16)) + 8)) + (wrap64 (tb (((x0 / 65536) / 256) % 256)))))) else (none)) else (none)) else (if 0 ≤ ((x0 / 65536) % 256) then (if ((x0 / 65536) % 256) < 256 then (some (wrap64 ((wrap64 (x2 + 16)) + (wrap64 (tb ((x0 / 65536) % 256)))))) else (none)) else (none))) else (if x0 ≥ 256 then (if 0 ≤ ((x0 / 256) % 256) then (if ((x0 / 256) % 256) < 256 then (some (wrap64 ((wrap64 (x2 + 8)) + (wrap64 (tb ((x0 / 256) % 256)))))) else (none)) else (none)) else (if 0 ≤ ((x0) % 256) then (if ((x0) % 256) < 256 then (some (wrap64 (x2 + (wrap64 (tb ((x0) % 256)))))) else (none)) else (none))) := rfl
theorem tab_ok : ∀ n : Fin 256, 1 ≤ n.val → (1 ≤ tb n.val ∧ tb n.val ≤ 8 ∧ (2 : Int) ^ ((tb n.val).toNat - 1) ≤ n.val ∧ (n.val : Int) < 2 ^ (tb n.val).toNat) := by decide +kernel
/-- L bits hold x, and no fewer do. -/
def Ln (x L : Int) : Prop := 1 ≤ L ∧ L ≤ 64 ∧ (2 : Int) ^ (L.toNat - 1) ≤ x ∧ x < 2 ^ L.toNat
theorem len_core (X i t : Int) (a : Nat) (ha : a ≤ 56) (hi : i = X / 2 ^ a) (h0 : 1 ≤ i) (h1 : i < 256) (ht : t = tb i) : Ln X (a + t) := by
  obtain ⟨n, rfl⟩ := Int.eq_ofNat_of_zero_le (by omega : 0 ≤ i)
  obtain ⟨g1, g2, g3, g4⟩ := tab_ok ⟨n, by omega⟩ (by simp; omega)
  simp only at g1 g2 g3 g4
  rw [← ht] at g1 g2 g3 g4
  have hp : (0 : Int) < 2 ^ a := Int.pow_pos (by omega)
  have hX1 : 2 ^ a * (n : Int) ≤ X := by rw [hi]; exact Int.mul_ediv_self_le (by omega)
  have hX2 : X < 2 ^ a * ((n : Int) + 1) := by
    have := Int.lt_mul_ediv_self_add (x := X) hp
    rw [← hi] at this
    rw [Int.mul_add, Int.mul_one]; exact this
  refine ⟨by omega, by omega, ?_, ?_⟩
  · have e : ((a : Int) + t).toNat - 1 = a + (t.toNat - 1) := by omega
    rw [e, Int.pow_add]
    exact Int.le_trans (Int.mul_le_mul_of_nonneg_left g3 (by omega)) hX1
  · have e : ((a : Int) + t).toNat = a + t.toNat := by omega
    rw [e, Int.pow_add]
    exact Int.lt_of_lt_of_le hX2 (Int.mul_le_mul_of_nonneg_left (by omega) (by omega))
theorem len_j0 (k : Nat) (hk : 1 ≤ k) (x a : Int) (h0 : 1 ≤ x) (h1 : x < 4294967296) (ha : a = 0 ∨ a = 32) (X : Int) (hX : x = X / 2 ^ a.toNat) : ∃ L, bits_Len64.j0 k x a = some L ∧ Ln X L := by
  obtain ⟨k, rfl⟩ : ∃ m, k = m + 1 := ⟨k - 1, by omega⟩
  rw [j0_eq]
  have hdiv : ∀ (m : Nat), x / 2 ^ m = X / 2 ^ (a.toNat + m) := by
    intro m; rw [hX, Int.pow_add, Int.ediv_ediv_of_nonneg]
    exact Int.pow_nonneg (by omega)
  have hb : ∀ i : Int, 1 ≤ i → i < 256 → 1 ≤ tb i ∧ tb i ≤ 8 := by
    intro i i0 i1
    obtain ⟨n, rfl⟩ := Int.eq_ofNat_of_zero_le (by omega : 0 ≤ i)
    obtain ⟨g1, g2, _⟩ := tab_ok ⟨n, by omega⟩ (by simp; omega)
    exact ⟨g1, g2⟩
  have hgo : ∀ (i : Int) (m : Nat), i = x / 2 ^ m → m ≤ 24 → 1 ≤ i → i < 256 → Ln X ((a.toNat + m : Nat) + tb i) := by
    intro i m hi hm i0 i1
    exact len_core X i _ (a.toNat + m) (by omega) (by rw [hi, hdiv]) i0 i1 rfl
  by_cases c1 : x ≥ 65536
  · rw [if_pos c1]
    by_cases c2 : x / 65536 ≥ 256
    · rw [if_pos c2]
      have e : x / 65536 / 256 % 256 = x / 2 ^ 24 := by rw [show (2 : Int) ^ 24 = 16777216 from rfl]; omega
      have i0 : 1 ≤ x / 2 ^ 24 := by rw [show (2 : Int) ^ 24 = 16777216 from rfl]; omega
      have i1 : x / 2 ^ 24 < 256 := by rw [show (2 : Int) ^ 24 = 16777216 from rfl]; omega
      rw [e, if_pos (by omega), if_pos i1]
      refine ⟨_, rfl, ?_⟩
      have := hb _ i0 i1
      have hL := hgo _ 24 rfl (by omega) i0 i1
      generalize tb (x / 2 ^ 24) = t at *
      rw [w64 (n := a + 16) (by omega) (by omega), w64 (n := a + 16 + 8) (by omega) (by omega), w64 (n := t) (by omega) (by omega), w64 (by omega) (by omega)]
      have e2 : ((a.toNat + 24 : Nat) : Int) + t = a + 16 + 8 + t := by omega
      rw [← e2]; exact hL
    · rw [if_neg c2]
      have e : x / 65536 % 256 = x / 2 ^ 16 := by rw [show (2 : Int) ^ 16 = 65536 from rfl]; omega
      have i0 : 1 ≤ x / 2 ^ 16 := by rw [show (2 : Int) ^ 16 = 65536 from rfl]; omega
      have i1 : x / 2 ^ 16 < 256 := by rw [show (2 : Int) ^ 16 = 65536 from rfl]; omega
      rw [e, if_pos (by omega), if_pos i1]
      refine ⟨_, rfl, ?_⟩
      have := hb _ i0 i1
      have hL := hgo _ 16 rfl (by omega) i0 i1
      generalize tb (x / 2 ^ 16) = t at *
      rw [w64 (n := a + 16) (by omega) (by omega), w64 (n := t) (by omega) (by omega), w64 (by omega) (by omega)]
      have e2 : ((a.toNat + 16 : Nat) : Int) + t = a + 16 + t := by omega
      rw [← e2]; exact hL
  · rw [if_neg c1]
    by_cases c2 : x ≥ 256
    · rw [if_pos c2]
      have e : x / 256 % 256 = x / 2 ^ 8 := by rw [show (2 : Int) ^ 8 = 256 from rfl]; omega
      have i0 : 1 ≤ x / 2 ^ 8 := by rw [show (2 : Int) ^ 8 = 256 from rfl]; omega
      have i1 : x / 2 ^ 8 < 256 := by rw [show (2 : Int) ^ 8 = 256 from rfl]; omega
      rw [e, if_pos (by omega), if_pos i1]
      refine ⟨_, rfl, ?_⟩
      have := hb _ i0 i1
      have hL := hgo _ 8 rfl (by omega) i0 i1
      generalize tb (x / 2 ^ 8) = t at *
      rw [w64 (n := a + 8) (by omega) (by omega), w64 (n := t) (by omega) (by omega), w64 (by omega) (by omega)]
      have e2 : ((a.toNat + 8 : Nat) : Int) + t = a + 8 + t := by omega
      rw [← e2]; exact hL
    · rw [if_neg c2]
      have e : x % 256 = x / 2 ^ 0 := by rw [show (2 : Int) ^ 0 = 1 from rfl]; omega
      have i0 : 1 ≤ x / 2 ^ 0 := by rw [show (2 : Int) ^ 0 = 1 from rfl]; omega
      have i1 : x / 2 ^ 0 < 256 := by rw [show (2 : Int) ^ 0 = 1 from rfl]; omega
      rw [e, if_pos (by omega), if_pos i1]
      refine ⟨_, rfl, ?_⟩
      have := hb _ i0 i1
      have hL := hgo _ 0 rfl (by omega) i0 i1
      generalize tb (x / 2 ^ 0) = t at *
      rw [w64 (n := t) (by omega) (by omega), w64 (by omega) (by omega)]
      have e2 : ((a.toNat + 0 : Nat) : Int) + t = a + t := by omega
      rw [← e2]; exact hL
theorem len_f (k : Nat) (hk : 1 ≤ k) (x : Int) (h0 : 1 ≤ x) (h1 : x < 18446744073709551616) : ∃ L, bits_Len64.f k x = some L ∧ Ln x L := by
  unfold bits_Len64.f
  by_cases c : x ≥ 4294967296
  · rw [if_pos c]
    exact len_j0 k hk _ 32 (by omega) (by omega) (.inr rfl) x rfl
  · rw [if_neg c]
    exact len_j0 k hk x 0 h0 (by omega) (.inl rfl) x (by simp)
theorem div64_f (k : Nat) (hk : 20 ≤ k) (hi lo n : Int) (h0 : 0 ≤ hi) (h1 : hi < n) (hl : U lo) (hn : n < 18446744073709551616) : bits_Div64.f k hi lo n = some (val hi lo / n, val hi lo % n) := by
  obtain ⟨l0, l1⟩ := hl
  unfold bits_Div64.f
  rw [if_neg (by omega), if_neg (by omega)]
  by_cases hz : hi = 0
  · rw [if_pos hz, hz]
    have e : val 0 lo = lo := by unfold val; omega
    have hd := Int.ediv_le_self n l0
    have hd0 := Int.ediv_nonneg l0 (by omega : 0 ≤ n)
    rw [e, Int.tdiv_eq_ediv_of_nonneg l0, Int.tmod_eq_emod_of_nonneg l0, wu _ hd0 (Int.lt_of_le_of_lt (Int.ediv_le_self n l0) l1)]
  · rw [if_neg hz]
    obtain ⟨L, hL, L0, L1, L2, L3⟩ := len_f k (by omega) n (by omega) hn
    have hlz : bits_LeadingZeros64.f k n = some (64 - L) := by
      unfold bits_LeadingZeros64.f
      rw [hL]; simp only [Option.bind_some]; rw [w64 (by omega) (by omega)]
    rw [hlz]
    simp only [Option.bind_some]
    obtain ⟨s, hs⟩ : ∃ s : Nat, 64 - L = s := ⟨(64 - L).toNat, by omega⟩
    rw [hs, wu (s : Int) (by omega) (by omega), wu (64 - (s : Int)) (by omega) (by omega), if_pos (by omega), if_pos (by omega)]
    obtain ⟨P, hP⟩ : ∃ P : Int, 2 ^ s = P := ⟨_, rfl⟩
    obtain ⟨E, hE⟩ : ∃ E : Int, 2 ^ (64 - s) = E := ⟨_, rfl⟩
    have hPE : P * E = 18446744073709551616 := by rw [← hP, ← hE, ← Int.pow_add, (by omega : s + (64 - s) = 64)]; rfl
    have hP0 : 0 < P := by rw [← hP]; exact Int.pow_pos (by omega)
    have hE0 : 0 < E := by rw [← hE]; exact Int.pow_pos (by omega)
    have hshl : ∀ x, shl .u64 x s = (x * P) % 18446744073709551616 := by
      intro x; unfold shl; rw [show min (Int.toNat (s : Int)) (IntKind.u64.bits) = s from Nat.min_eq_left (by show s ≤ 64; omega), wrapu, hP]
    have hshr : ∀ x, shr .u64 x (64 - (s : Int)) = x / E := by
      intro x; unfold shr; rw [show min (Int.toNat (64 - (s : Int))) (IntKind.u64.bits) = 64 - s from (by rw [Nat.min_eq_left (by show (64 - (s : Int)).toNat ≤ 64; omega)]; omega), hE]
    -- the divisor in its place
    have hn1 : n * P < 18446744073709551616 := by
      have e : L.toNat + s = 64 := by omega
      have : n * P < 2 ^ L.toNat * P := Int.mul_lt_mul_of_pos_right L3 hP0
      rw [← hP, ← Int.pow_add, e] at this
      rw [← hP]; exact this
    have hn2 : 9223372036854775808 ≤ n * P := by
      have e : L.toNat - 1 + s = 63 := by omega
      have : 2 ^ (L.toNat - 1) * P ≤ n * P := Int.mul_le_mul_of_nonneg_right L2 (by omega)
      rw [← hP, ← Int.pow_add, e] at this
      rw [← hP]; exact this
    have hiP : hi * P < n * P := Int.mul_lt_mul_of_pos_right h1 hP0
    have hiP0 : 0 ≤ hi * P := Int.mul_nonneg h0 (by omega)
    have loE : lo / E < P := Int.ediv_lt_of_lt_mul hE0 (by rw [hPE]; exact l1)
    have loE0 : 0 ≤ lo / E := Int.ediv_nonneg l0 (by omega)
    have loE2 : lo / E ≤ lo := Int.ediv_le_self E l0
    have hloP : lo * P / 18446744073709551616 = lo / E := by rw [← hPE, Int.mul_comm lo P, Int.mul_ediv_mul_of_pos _ _ hP0]
    have hor : Go.bits .or .u64 (hi * P) (lo / E) = hi * P + lo / E := by
      rw [u64_or _ _ hiP0 (by omega) loE0 (by omega)]
      have e1 : (hi * P).toNat = 2 ^ s * hi.toNat := by
        rw [← hP]
        obtain ⟨m, rfl⟩ := Int.eq_ofNat_of_zero_le h0
        rw [Int.toNat_natCast, Nat.mul_comm]; exact Int.toNat_natCast (m * 2 ^ s)
      have e2 : (lo / E).toNat < 2 ^ s := by
        have : ((lo / E).toNat : Int) < ((2 ^ s : Nat) : Int) := by rw [Int.toNat_of_nonneg loE0]; push_cast; rw [hP]; exact loE
        omega
      rw [e1, ← Nat.two_pow_add_eq_or_of_lt e2, ← e1]
      push_cast
      rw [Int.toNat_of_nonneg hiP0, Int.toNat_of_nonneg loE0]
    rw [hshl n, hshl hi, hshl lo, hshr lo]
    have ey : n * P % 18446744073709551616 = n * P := by omega
    have eh : hi * P % 18446744073709551616 = hi * P := by omega
    rw [ey, eh, hor, and_mask (n * P) (by omega) hn1, and_mask (lo * P % 18446744073709551616) (by omega) (by omega), if_neg (by omega)]
    -- the whole, in digits
    obtain ⟨y, hy⟩ : ∃ y, n * P = y := ⟨_, rfl⟩
    obtain ⟨W, hW⟩ : ∃ W, hi * P + lo / E = W := ⟨_, rfl⟩
    obtain ⟨v, hv⟩ : ∃ v, lo * P % 18446744073709551616 = v := ⟨_, rfl⟩
    have hv0 : 0 ≤ v ∧ v < 18446744073709551616 := by omega
    have hT : val hi lo * P = W * 18446744073709551616 + v := by
      have : lo * P = lo / E * 18446744073709551616 + v := by rw [← hloP, ← hv]; omega
      unfold val
      rw [Int.add_mul, this, ← hW, Int.add_mul, Int.mul_assoc, Int.mul_comm (18446744073709551616) P, ← Int.mul_assoc]; omega
    have hT2 : val hi lo * P < y * 18446744073709551616 := by
      have a : val hi lo < n * 18446744073709551616 := by
        have : (hi + 1) * 18446744073709551616 ≤ n * 18446744073709551616 := Int.mul_le_mul_of_nonneg_right (by omega) (by omega)
        unfold val; omega
      have := Int.mul_lt_mul_of_pos_right a hP0
      rw [← hy]
      have e : n * 18446744073709551616 * P = n * P * 18446744073709551616 := by rw [Int.mul_assoc, Int.mul_comm (18446744073709551616) P, ← Int.mul_assoc]
      rw [e] at this; exact this
    have hWy : W < y := by omega
    have hW0 : 0 ≤ W := by omega
    rw [hy, hW, hv]
    rw [hy] at hn1 hn2
    have dy : ∀ z : Int, 0 ≤ z % y ∧ z % y < y := fun z => ⟨Int.emod_nonneg z (by omega), Int.emod_lt_of_pos z (by omega)⟩
    have g1 : Dg y (y / 4294967296) (y % 4294967296) W (v / 4294967296) ((W * 4294967296 + v / 4294967296) / y) ((W * 4294967296 + v / 4294967296) % y) := by
      refine ⟨by omega, by omega, by omega, by omega, by omega, hW0, hWy, by omega, by omega, ?_, (dy _).1, (dy _).2⟩
      rw [Int.mul_comm ((W * 4294967296 + v / 4294967296) / y) y]; exact (Int.mul_ediv_add_emod _ _).symm
    obtain ⟨R1, hR1⟩ : ∃ R1, (W * 4294967296 + v / 4294967296) % y = R1 := ⟨_, rfl⟩
    obtain ⟨Q1, hQ1⟩ : ∃ Q1, (W * 4294967296 + v / 4294967296) / y = Q1 := ⟨_, rfl⟩
    rw [hR1, hQ1] at g1
    have hR1b := dy (W * 4294967296 + v / 4294967296)
    rw [hR1] at hR1b
    have g0 : Dg y (y / 4294967296) (y % 4294967296) R1 (v % 4294967296) ((R1 * 4294967296 + v % 4294967296) / y) ((R1 * 4294967296 + v % 4294967296) % y) := by
      refine ⟨by omega, by omega, by omega, by omega, by omega, hR1b.1, hR1b.2, by omega, by omega, ?_, (dy _).1, (dy _).2⟩
      rw [Int.mul_comm ((R1 * 4294967296 + v % 4294967296) / y) y]; exact (Int.mul_ediv_add_emod _ _).symm
    obtain ⟨R0, hR0⟩ : ∃ R0, (R1 * 4294967296 + v % 4294967296) % y = R0 := ⟨_, rfl⟩
    obtain ⟨Q0, hQ0⟩ : ∃ Q0, (R1 * 4294967296 + v % 4294967296) / y = Q0 := ⟨_, rfl⟩
    rw [hR0, hQ0] at g0
    have gg := g1.guess
    have hsm := gg.small g1
    have hcc : 0 ≤ W / (y / 4294967296) * (y / 4294967296) ∧ W / (y / 4294967296) * (y / 4294967296) < 18446744073709551616 := by
      have h1 := gg.hu; have h2 := gg.r0
      have h9 := Int.mul_nonneg hsm.1 (by omega : 0 ≤ y / 4294967296)
      omega
    rw [Int.tdiv_eq_ediv_of_nonneg hW0, wu (W / (y / 4294967296)) hsm.1 (by omega), wu _ hcc.1 hcc.2, wu (W - _) gg.r0 (by have := gg.r1; omega)]
    have := div_l0 y (y / 4294967296) (y % 4294967296) W (v / 4294967296) (v % 4294967296) Q1 R1 Q0 R0 s g1 g0 (by omega) (by omega) 2 _ _ gg (by have := gg.r0; omega) k (by omega)
    rw [this, Int.toNat_natCast, hP]
    -- what it says
    have hall : val hi lo * P = (Q1 * 4294967296 + Q0) * y + R0 := by
      have a1 := g1.hQ
      have a0 := g0.hQ
      have e : (Q1 * 4294967296 + Q0) * y = Q1 * y * 4294967296 + Q0 * y := by rw [Int.add_mul, Int.mul_assoc, Int.mul_comm (4294967296) y, ← Int.mul_assoc]
      rw [e, hT]
      generalize Q1 * y = p1 at *
      generalize Q0 * y = p0 at *
      omega
    have hR0b := g0.R1
    have hR00 := g0.R0
    rw [← hy] at hall hR0b
    have hr : R0 = (val hi lo - (Q1 * 4294967296 + Q0) * n) * P := by
      rw [Int.sub_mul]
      have : (Q1 * 4294967296 + Q0) * (n * P) = (Q1 * 4294967296 + Q0) * n * P := by rw [Int.mul_assoc]
      rw [this] at hall; omega
    have hr2 : R0 / P = val hi lo - (Q1 * 4294967296 + Q0) * n := by rw [hr]; exact Int.mul_ediv_cancel _ (by omega)
    have hr3 : 0 ≤ val hi lo - (Q1 * 4294967296 + Q0) * n ∧ val hi lo - (Q1 * 4294967296 + Q0) * n < n := by
      constructor
      · rw [← hr2]; exact Int.ediv_nonneg hR00 (by omega)
      · rw [← hr2]; exact Int.ediv_lt_of_lt_mul hP0 hR0b
    rw [hr2]
    obtain ⟨u1, u2⟩ := (Int.ediv_emod_unique (a := val hi lo) (b := n) (r := val hi lo - (Q1 * 4294967296 + Q0) * n) (q := Q1 * 4294967296 + Q0) (by omega)).mpr ⟨by rw [Int.mul_comm n]; omega, hr3.1, hr3.2⟩
    rw [u1, u2]
end Go.Proofs.Ytkhocaehhflpcaa.Wide
