/- Plain facts about 64-bit words: no program in sight. -/
import Derived.Laws.BitsAllLaws
import Derived.Laws.BitsLemmas
import Derived.RowKit
namespace Go.Proofs.Ytkhocaehhflpcaa.Uw
open Go.RowKit
/-- A number is a word of 64 bits. -/
def U (x : Int) : Prop := 0 ≤ x ∧ x < 18446744073709551616
/-- A number is an int of 64 bits. -/
def I (x : Int) : Prop := -9223372036854775808 ≤ x ∧ x < 9223372036854775808
theorem wrapu (x : Int) : IntKind.u64.wrap x = x % 18446744073709551616 := by simp [IntKind.wrap, IntKind.bits, IntKind.signed]
theorem wu (x : Int) (h : 0 ≤ x) (h' : x < 18446744073709551616) : IntKind.u64.wrap x = x := by rw [wrapu]; omega
theorem w64 {n : Int} (h1 : -9223372036854775808 ≤ n) (h2 : n ≤ 9223372036854775807) : wrap64 n = n := by unfold wrap64; omega
theorem maxu : IntKind.u64.max = 18446744073709551615 := by decide
theorem xor_max (x : Int) (h : 0 ≤ x) (h' : x < 18446744073709551616) : Go.bits .xor .u64 IntKind.u64.max x = 18446744073709551615 - x := by
  obtain ⟨n, rfl⟩ := Int.eq_ofNat_of_zero_le h
  have hn : n < 18446744073709551616 := by omega
  rw [maxu]
  have := u64_xor_nat 18446744073709551615 n (by decide) hn
  rw [show ((18446744073709551615 : Nat) : Int) = 18446744073709551615 from rfl] at this
  rw [this]
  have e : (18446744073709551615 ^^^ n : Nat) = 18446744073709551615 - n := by
    have h1 : (BitVec.ofNat 64 18446744073709551615 ^^^ BitVec.ofNat 64 n) = ~~~ (BitVec.ofNat 64 n) := by
      have : BitVec.ofNat 64 18446744073709551615 = BitVec.allOnes 64 := by decide
      rw [this, BitVec.allOnes_xor]
    have h2 := congrArg BitVec.toNat h1
    rw [BitVec.toNat_xor, BitVec.toNat_not, BitVec.toNat_ofNat, BitVec.toNat_ofNat, Nat.mod_eq_of_lt (by omega), Nat.mod_eq_of_lt (by omega)] at h2
    omega
  rw [e]; omega
theorem xor_i64 (x : Int) (h : I x) : Go.bits .xor .i64 (-1) x = -1 - x := by
  obtain ⟨h1, h2⟩ := h
  show IntKind.i64.wrap ((BitVec.ofInt 64 (-1) ^^^ BitVec.ofInt 64 x).toNat : Int) = -1 - x
  have e : (BitVec.ofInt 64 (-1)) ^^^ (BitVec.ofInt 64 x) = ~~~ (BitVec.ofInt 64 x) := by
    have : BitVec.ofInt 64 (-1) = BitVec.allOnes 64 := by decide
    rw [this, BitVec.allOnes_xor]
  rw [e, BitVec.toNat_not, BitVec.toNat_ofInt, IntKind.wrap_i64]
  have hx : ((x % ((2 ^ 64 : Nat) : Int)).toNat : Int) = x % 18446744073709551616 := by
    rw [Int.toNat_of_nonneg (by omega)]; rfl
  have hlt : (x % ((2 ^ 64 : Nat) : Int)).toNat < 2 ^ 64 := by omega
  generalize (x % ((2 ^ 64 : Nat) : Int)).toNat = m at *
  omega
theorem and_mask (x : Int) (h : 0 ≤ x) (h' : x < 18446744073709551616) : Go.bits .and .u64 x 4294967295 = x % 4294967296 := by
  obtain ⟨n, rfl⟩ := Int.eq_ofNat_of_zero_le h
  have := u64_and_nat n 4294967295 (by omega) (by decide)
  rw [show ((4294967295 : Nat) : Int) = 4294967295 from rfl] at this
  rw [this, show (4294967295 : Nat) = 2 ^ 32 - 1 from rfl, Nat.and_two_pow_sub_one_eq_mod]
  omega
theorem and_top (x : Int) (h : 0 ≤ x) (h' : x < 18446744073709551616) : (Go.bits .and .u64 x 9223372036854775808 = 0) ↔ x < 9223372036854775808 := by
  obtain ⟨n, rfl⟩ := Int.eq_ofNat_of_zero_le h
  have := u64_and_nat n 9223372036854775808 (by omega) (by decide)
  rw [show ((9223372036854775808 : Nat) : Int) = 9223372036854775808 from rfl] at this
  rw [this]
  have e : (n &&& 9223372036854775808 = 0) ↔ n < 9223372036854775808 := by
    rw [show (9223372036854775808 : Nat) = 2 ^ 63 from rfl]
    constructor
    · intro h0
      by_cases hn : n < 2 ^ 63
      · exact hn
      · have ht : n.testBit 63 = true := Nat.testBit_of_two_pow_le_and_two_pow_add_one_gt (by omega) (by omega)
        have h1 := congrArg (fun z => Nat.testBit z 63) h0
        simp only [Nat.testBit_and, ht, Nat.testBit_two_pow_self, Nat.zero_testBit] at h1
        cases h1
    · intro hn
      apply Nat.eq_of_testBit_eq
      intro i
      rw [Nat.testBit_and, Nat.testBit_two_pow, Nat.zero_testBit]
      by_cases h63 : 63 = i
      · subst h63; rw [Nat.testBit_lt_two_pow hn]; rfl
      · rw [decide_eq_false h63, Bool.and_false]
  constructor
  · intro h0; have := e.mp (by omega); omega
  · intro h0; have := e.mpr (by omega); omega
end Go.Proofs.Ytkhocaehhflpcaa.Uw
