/- Small laws on the walk's bit operations. No condition but the ranges that each states. -/
import Derived.Test.YtnjodpgahbpiaaaRows
import Derived.WalkKit
import Derived.WalkLawsBesides
import Derived.Lib.Hide
namespace Go.Proofs.Ytnjodpgahbpiaaa
open Go.RowKit

theorem u8_and127 (x : Nat) (h : x < 256) : bits BinOp.and IntKind.u8 (x : Int) 127 = ((x % 128 : Nat) : Int) := by
  rw [show (127 : Int) = ((127 : Nat) : Int) from rfl, u8_and_nat x 127 (by omega) (by omega), nat_mask7]

/-- parts of one number that don't overlap, joined -/
theorem or_i64 (i : Nat) (hi : i ≤ 63) (x q : Int) (h0 : 0 ≤ x) (h1 : x < 2 ^ i) (h2 : -9223372036854775808 ≤ 2 ^ i * q) (h3 : 2 ^ i * q < 9223372036854775808) :
    bits BinOp.or IntKind.i64 x (2 ^ i * q) = x + 2 ^ i * q := by
  obtain ⟨d, hd⟩ : ∃ d, 64 = i + d := ⟨64 - i, by omega⟩
  obtain ⟨d, rfl⟩ : ∃ e, d = e + 1 := ⟨d - 1, by omega⟩
  have e63 : (9223372036854775808 : Int) = 2 ^ i * 2 ^ d := by rw [← Int.pow_add, show i + d = 63 by omega]; rfl
  have e64 : (18446744073709551616 : Int) = 2 ^ i * (2 * 2 ^ d) := by rw [Int.mul_comm 2, ← Int.pow_succ, ← Int.pow_add, show i + (d + 1) = 64 by omega]; rfl
  have hp : (0 : Int) < 2 ^ i := Int.pow_pos (by omega)
  have hq : (0 : Int) < 2 ^ d := Int.pow_pos (by omega)
  have hq1 : -(2 ^ d : Int) ≤ q := by
    have : (2 ^ i : Int) * (-2 ^ d) ≤ 2 ^ i * q := by rw [Int.mul_neg]; omega
    exact Int.le_of_mul_le_mul_left this hp
  have hq2 : q < 2 ^ d := by
    have : (2 ^ i : Int) * q < 2 ^ i * 2 ^ d := by omega
    exact Int.lt_of_mul_lt_mul_left this (by omega)
  have hx63 : x < 9223372036854775808 := by
    have : (2 ^ i : Int) * 1 ≤ 2 ^ i * 2 ^ d := Int.mul_le_mul_of_nonneg_left (by omega) (by omega)
    omega
  have hm : (2 ^ i * q) % 18446744073709551616 = 2 ^ i * (q % (2 * 2 ^ d)) := by rw [e64, Int.mul_emod_mul_of_pos _ _ hp]
  have hr0 : 0 ≤ q % (2 * 2 ^ d) := Int.emod_nonneg _ (by omega)
  obtain ⟨r, hr⟩ : ∃ r : Nat, q % (2 * 2 ^ d) = r := ⟨(q % (2 * 2 ^ d)).toNat, by omega⟩
  obtain ⟨n, rfl⟩ : ∃ n : Nat, x = n := ⟨x.toNat, by omega⟩
  have hn : n < 2 ^ i := by
    have : ((2 ^ i : Nat) : Int) = (2 : Int) ^ i := by simp
    omega
  have a1 : (BitVec.ofInt 64 (n : Int)).toNat = n := by rw [BitVec.toNat_ofInt]; omega
  have a2 : (BitVec.ofInt 64 (2 ^ i * q)).toNat = 2 ^ i * r := by
    rw [BitVec.toNat_ofInt, show ((2 ^ 64 : Nat) : Int) = 18446744073709551616 from rfl, hm, hr]
    have : ((2 : Int) ^ i * (r : Int)) = ((2 ^ i * r : Nat) : Int) := by simp
    rw [this]; rfl
  have hor : n ||| 2 ^ i * r = n + 2 ^ i * r := by
    rw [Nat.or_comm, nat_join i _ _ (by simp) hn, Nat.add_comm]
  have hbits : bits BinOp.or IntKind.i64 (n : Int) (2 ^ i * q) = IntKind.i64.wrap (((n + 2 ^ i * r : Nat)) : Int) := by
    show IntKind.i64.wrap ((BitVec.ofInt 64 (n : Int) ||| BitVec.ofInt 64 (2 ^ i * q)).toNat : Int) = _
    rw [BitVec.toNat_or, a1, a2, hor]
  rw [hbits, IntKind.wrap_i64]
  have hrc : (((n + 2 ^ i * r : Nat)) : Int) = n + 2 ^ i * q % 18446744073709551616 := by rw [hm, hr]; simp
  rw [hrc]
  have hlow : (n : Int) + 2 ^ i * q < 9223372036854775808 := by
    have : (2 ^ i : Int) * (q + 1) ≤ 2 ^ i * 2 ^ d := Int.mul_le_mul_of_nonneg_left (by omega) (by omega)
    rw [Int.mul_add] at this; omega
  omega

theorem or_u64 (i V x : Nat) (h : V < 2 ^ i) (hs : V + 2 ^ i * x < 18446744073709551616) : bits BinOp.or IntKind.u64 (V : Int) (((2 ^ i * x : Nat)) : Int) = ((V + 2 ^ i * x : Nat) : Int) := by
  rw [u64_or_nat V (2 ^ i * x) (by omega) (by omega), Nat.or_comm, nat_join i _ _ (by simp) h, Nat.add_comm]
end Go.Proofs.Ytnjodpgahbpiaaa
