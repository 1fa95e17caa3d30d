/- Plain lemmas on Go's 64-bit numbers and their bits, and on rounds. -/
import Derived.RowKit
import Derived.IntWalk
import Derived.Laws.Entries
namespace Go.Proofs.YtjnifnhpnccpcaaGreat.Math
open Go.RowKit

theorem wrap64_id {n : Int} (h0 : -9223372036854775808 ≤ n) (h1 : n ≤ 9223372036854775807) : wrap64 n = n := by
  unfold wrap64; omega
theorem i64wrap (n : Int) : IntKind.i64.wrap n = wrap64 n := IntWalk.i64_left n
theorem u64wrap (n : Int) : IntKind.u64.wrap n = n % 18446744073709551616 := by simp [IntKind.wrap, IntKind.bits, IntKind.signed]
theorem u64_id {n : Int} (h0 : 0 ≤ n) (h1 : n ≤ 18446744073709551615) : IntKind.u64.wrap n = n := by rw [u64wrap]; omega
theorem u64_nonneg (n : Int) : 0 ≤ IntKind.u64.wrap n := by rw [u64wrap]; omega
theorem wf_i64 {n : Int} (h : (Lit.int .i64 n).wf = true) : -9223372036854775808 ≤ n ∧ n ≤ 9223372036854775807 := by
  simp only [Lit.wf, IntKind.min, IntKind.max, IntKind.signed, IntKind.bits, Bool.and_eq_true, decide_eq_true_eq, if_true] at h
  omega

theorem ofInt_nat (a : Nat) (ha : a < 18446744073709551616) : (BitVec.ofInt 64 (a : Int)).toNat = a := by
  rw [BitVec.ofInt_natCast, BitVec.toNat_ofNat]; exact Nat.mod_eq_of_lt (by omega)
theorem ofInt_any (a : Int) : ((BitVec.ofInt 64 a).toNat : Int) = a % 18446744073709551616 := by
  rw [BitVec.toNat_ofInt]
  omega

theorem and_nat (a b : Nat) (ha : a < 9223372036854775808) (hb : b < 9223372036854775808) : bits .and .i64 (a : Int) (b : Int) = ((a &&& b : Nat) : Int) := by
  have hx : a &&& b ≤ a := Nat.and_le_left
  show IntKind.i64.wrap ((BitVec.ofInt 64 (a : Int) &&& BitVec.ofInt 64 (b : Int)).toNat : Int) = _
  rw [BitVec.toNat_and, ofInt_nat a (by omega), ofInt_nat b (by omega), i64wrap]
  exact wrap64_id (by omega) (by omega)
theorem or_nat (a b : Nat) (ha : a < 9223372036854775808) (hb : b < 9223372036854775808) : bits .or .i64 (a : Int) (b : Int) = ((a ||| b : Nat) : Int) := by
  have hx : a ||| b < 2 ^ 63 := Nat.or_lt_two_pow (by omega) (by omega)
  show IntKind.i64.wrap ((BitVec.ofInt 64 (a : Int) ||| BitVec.ofInt 64 (b : Int)).toNat : Int) = _
  rw [BitVec.toNat_or, ofInt_nat a (by omega), ofInt_nat b (by omega), i64wrap]
  exact wrap64_id (by omega) (by omega)

/-- 'n & (2^j - 1)' of any number. -/
theorem and_mask (n : Int) (j m : Nat) (hj : j ≤ 62) (hm : m = 2 ^ j - 1) : bits .and .i64 n (m : Int) = n % ((2 ^ j : Nat) : Int) := by
  have hp : 2 ^ j ≤ 2 ^ 62 := Nat.pow_le_pow_right (by decide) hj
  have hpos : 0 < 2 ^ j := Nat.two_pow_pos j
  have hm2 : (BitVec.ofInt 64 (m : Int)).toNat = 2 ^ j - 1 := by rw [ofInt_nat m (by omega), hm]
  show IntKind.i64.wrap ((BitVec.ofInt 64 n &&& BitVec.ofInt 64 (m : Int)).toNat : Int) = _
  rw [BitVec.toNat_and, hm2, Nat.and_two_pow_sub_one_eq_mod, i64wrap]
  have h1 : (((BitVec.ofInt 64 n).toNat % 2 ^ j : Nat) : Int) = n % ((2 ^ j : Nat) : Int) := by
    rw [Int.natCast_emod, ofInt_any]
    apply Int.emod_emod_of_dvd
    refine ⟨((2 ^ (64 - j) : Nat) : Int), ?_⟩
    rw [← Int.natCast_mul, ← Nat.pow_add, show j + (64 - j) = 64 by omega]
    rfl
  rw [h1]
  have h2 := Int.emod_nonneg n (show ((2 ^ j : Nat) : Int) ≠ 0 by omega)
  have h3 := Int.emod_lt_of_pos n (show 0 < ((2 ^ j : Nat) : Int) by omega)
  exact wrap64_id (by omega) (by omega)
theorem and_1 (n : Int) : bits .and .i64 n 1 = n % 2 := and_mask n 1 1 (by decide) (by decide)
theorem and_3 (n : Int) : bits .and .i64 n 3 = n % 4 := and_mask n 2 3 (by decide) (by decide)
theorem and_7 (n : Int) : bits .and .i64 n 7 = n % 8 := and_mask n 3 7 (by decide) (by decide)
theorem and_15 (n : Int) : bits .and .i64 n 15 = n % 16 := and_mask n 4 15 (by decide) (by decide)
theorem and_31 (n : Int) : bits .and .i64 n 31 = n % 32 := and_mask n 5 31 (by decide) (by decide)
theorem and_255 (n : Int) : bits .and .i64 n 255 = n % 256 := and_mask n 8 255 (by decide) (by decide)
theorem and_1023 (n : Int) : bits .and .i64 n 1023 = n % 1024 := and_mask n 10 1023 (by decide) (by decide)
theorem and_65535 (n : Int) : bits .and .i64 n 65535 = n % 65536 := and_mask n 16 65535 (by decide) (by decide)

/-- An even number, and a bit below. -/
theorem or_bit (e b : Int) (he : e % 2 = 0) (hb : b = 0 ∨ b = 1) : bits .or .i64 e b = wrap64 (e + b) := by
  obtain ⟨c, hc, hc2⟩ : ∃ c : Nat, b = (c : Int) ∧ c < 2 ^ 1 := by
    rcases hb with rfl | rfl
    · exact ⟨0, rfl, by decide⟩
    · exact ⟨1, rfl, by decide⟩
  subst hc
  have hE := ofInt_any e
  obtain ⟨m, hm⟩ : ∃ m : Nat, (BitVec.ofInt 64 e).toNat = 2 ^ 1 * m := ⟨(BitVec.ofInt 64 e).toNat / 2, by omega⟩
  show IntKind.i64.wrap ((BitVec.ofInt 64 e ||| BitVec.ofInt 64 (c : Int)).toNat : Int) = _
  rw [BitVec.toNat_or, ofInt_nat c (by omega), hm, ← Nat.two_pow_add_eq_or_of_lt hc2, i64wrap]
  unfold wrap64
  omega

end Go.Proofs.YtjnifnhpnccpcaaGreat.Math
