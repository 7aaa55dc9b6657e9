/- The library's count of set bits, joined. No condition. -/
import Derived.Test.YtkkhjaiaicmpaaaDoorWordM
namespace Go.Proofs.YtkkhjaiaicmpaaaDoor
open Go Go.RowKit
set_option linter.unusedVariables false
set_option linter.unusedSimpArgs false
namespace Wb
theorem mapB_lt {g : Nat → Nat} (hg : ∀ b, b < 256 → g b < 256) : ∀ k x, mapB g k x < 256 ^ k
  | 0, x => by simp [mapB]
  | k + 1, x => by
    have h1 := mapB_lt hg k (x / 256)
    have h2 := hg (x % 256) (by omega)
    rw [Nat.pow_succ]
    simp only [mapB]
    omega
theorem p64 : (2 : Nat) ^ 64 = 18446744073709551616 := by decide
theorem w64n {n : Nat} (h : n < 18446744073709551616) : IntKind.u64.wrap (n : Int) = (n : Int) := by rw [Wd.w64]; omega
theorem g1_lt : ∀ b, b < 256 → g1 b < 256 := fun b hb => (t4 ⟨b, hb⟩).2.1
theorem g21_lt : ∀ b, b < 256 → g2 (g1 b) < 256 := fun b hb => (t4 ⟨b, hb⟩).2.2.1
theorem lt8 {g : Nat → Nat} (hg : ∀ b, b < 256 → g b < 256) (x : Nat) : mapB g 8 x < 18446744073709551616 := by
  have := mapB_lt hg 8 x
  have e : (256 : Nat) ^ 8 = 18446744073709551616 := by decide
  omega
theorem q1 {n : Nat} (h : n < 18446744073709551616) : Wd.ones1 (n : Int) = (mapB g1 8 n : Nat) := by
  have e : (n : Int) / 2 ^ (min (1 : Int).toNat 64) = ((n / 2 : Nat) : Int) := by
    rw [show ((2 : Int) ^ (min (1 : Int).toNat 64)) = 2 by decide +kernel]; omega
  unfold Wd.ones1 Wd.W
  rw [e, show (6148914691236517205 : Int) = ((rep 85 8 : Nat) : Int) by decide +kernel, andN (by rw [p64]; omega) (by decide +kernel), andN (by rw [p64]; omega) (by decide +kernel), ← Int.natCast_add, s1]
  exact w64n (lt8 g1_lt n)
theorem q2 (n : Nat) : Wd.ones2 ((mapB g1 8 n : Nat) : Int) = (mapB (fun b => g2 (g1 b)) 8 n : Nat) := by
  have h := lt8 g1_lt n
  have e : ((mapB g1 8 n : Nat) : Int) / 2 ^ (min (2 : Int).toNat 64) = ((mapB g1 8 n / 4 : Nat) : Int) := by
    rw [show ((2 : Int) ^ (min (2 : Int).toNat 64)) = 4 by decide +kernel]; omega
  unfold Wd.ones2 Wd.W
  rw [e, show (3689348814741910323 : Int) = ((rep 51 8 : Nat) : Int) by decide +kernel, andN (by rw [p64]; omega) (by decide +kernel), andN (by rw [p64]; omega) (by decide +kernel), ← Int.natCast_add, s2, mapB_comp g2 g1 g1_lt]
  exact w64n (lt8 g21_lt n)
theorem q3 (n : Nat) : Wd.ones3 ((mapB (fun b => g2 (g1 b)) 8 n : Nat) : Int) = (mapB pop8 8 n : Nat) := by
  have h := lt8 g21_lt n
  have hnib := nib_map (fun b => g2 (g1 b)) (fun b => ⟨(t4 b).2.2.1, (t4 b).2.2.2.1, (t4 b).2.2.2.2.1⟩) 8 n
  have e : ((mapB (fun b => g2 (g1 b)) 8 n : Nat) : Int) / 2 ^ (min (4 : Int).toNat 64) = ((mapB (fun b => g2 (g1 b)) 8 n / 16 : Nat) : Int) := by
    rw [show ((2 : Int) ^ (min (4 : Int).toNat 64)) = 16 by decide +kernel]; omega
  have hz : mapB (fun b => g2 (g1 b)) 8 n / 16 + mapB (fun b => g2 (g1 b)) 8 n < 18446744073709551616 := by
    obtain ⟨x, hx⟩ : ∃ x, x = mapB (fun b => g2 (g1 b)) 8 n := ⟨_, rfl⟩
    rw [← hx] at hnib ⊢
    have hb : ∀ k z, Nib k z → z ≤ 68 * rep 1 k := by
      intro k
      induction k with
      | zero => intro z hz; have hz : z = 0 := hz
                omega
      | succ k ih =>
        intro z hz
        obtain ⟨z1, z2, z3⟩ := hz
        have := ih _ z3
        show z ≤ 68 * (256 * rep 1 k + 1)
        omega
    have := hb 8 x hnib
    have e8 : rep 1 8 = 72340172838076673 := by decide +kernel
    rw [e8] at this
    omega
  unfold Wd.ones3 Wd.W
  rw [e, ← Int.natCast_add, w64n hz, show (1085102592571150095 : Int) = ((rep 15 8 : Nat) : Int) by decide +kernel, andN (by rw [p64]; exact hz) (by decide +kernel), s3 8 _ hnib, mapB_comp g3 (fun b => g2 (g1 b)) g21_lt]
  have hp : ∀ k x, mapB (fun b => g3 (g2 (g1 b))) k x = mapB pop8 k x := by
    intro k
    induction k with
    | zero => intro x; rfl
    | succ k ih =>
      intro x
      simp only [mapB, ih]
      have := (t4 ⟨x % 256, by omega⟩).1
      simp only at this
      rw [this]
  rw [hp]
theorem pop8_le (x : Nat) : pop8 (x % 256) ≤ 8 := (t4 ⟨x % 256, by omega⟩).2.2.2.2.2
theorem half {y : Nat} {s : Int} {d : Nat} (hs : ((2 : Int) ^ (min s.toNat 64)) = (d : Nat)) (h : y + y / d < 18446744073709551616) : Wd.W ((y : Int) + (y : Int) / 2 ^ (min s.toNat 64)) = ((y + y / d : Nat) : Int) := by
  unfold Wd.W
  rw [hs, ← Int.natCast_ediv, ← Int.natCast_add]
  exact w64n h
/-- the bits that are set -/
theorem ones_pop {n : Nat} (h : n < 18446744073709551616) : Wd.ones (n : Int) = (Lib.popAux 64 n : Nat) := by
  have hf := fold8 (pop8_le n) (pop8_le (n / 256)) (pop8_le (n / 256 / 256)) (pop8_le (n / 256 / 256 / 256)) (pop8_le (n / 256 / 256 / 256 / 256)) (pop8_le (n / 256 / 256 / 256 / 256 / 256)) (pop8_le (n / 256 / 256 / 256 / 256 / 256 / 256)) (pop8_le (n / 256 / 256 / 256 / 256 / 256 / 256 / 256))
    (mapB pop8 8 n) _ _ _ (by simp only [mapB, val]; omega) rfl rfl rfl
  have hs : Lib.popAux 64 n = sumB 8 n := pop_sum 8 n
  obtain ⟨y, hy⟩ : ∃ y, y = mapB pop8 8 n := ⟨_, rfl⟩
  rw [← hy] at hf
  obtain ⟨f1, f2, f3, f4⟩ := hf
  unfold Wd.ones
  rw [q1 h, q2, q3, ← hy]
  have a4 : Wd.ones4 (y : Int) = ((y + y / 256 : Nat) : Int) := half (by decide +kernel) f3
  have a5 : Wd.ones5 ((y + y / 256 : Nat) : Int) = ((y + y / 256 + (y + y / 256) / 65536 : Nat) : Int) := half (by decide +kernel) f4
  have a6 : Wd.ones6 ((y + y / 256 + (y + y / 256) / 65536 : Nat) : Int) = _ := half (d := 4294967296) (by decide +kernel) f2
  rw [a4, a5, a6, hs]
  obtain ⟨z, hz⟩ : ∃ z, z = y + y / 256 + (y + y / 256) / 65536 + (y + y / 256 + (y + y / 256) / 65536) / 4294967296 := ⟨_, rfl⟩
  rw [← hz] at f1 f2 ⊢
  show IntKind.i64.wrap ((BitVec.ofInt 64 (IntKind.i64.wrap (z : Int)) &&& BitVec.ofInt 64 127).toNat : Int) = _
  have e1 : (BitVec.ofInt 64 (IntKind.i64.wrap (z : Int))).toNat = z := by
    rw [BitVec.toNat_ofInt, Wd.wi64, p64]
    split <;> omega
  have e2 : (BitVec.ofInt 64 127).toNat = 2 ^ 7 - 1 := by decide
  rw [BitVec.toNat_and, e1, e2, Nat.and_two_pow_sub_one_eq_mod, show (2 : Nat) ^ 7 = 128 by decide, f1, Wd.wi64]
  simp only [sumB]
  have l0 := pop8_le n; have l1 := pop8_le (n / 256); have l2 := pop8_le (n / 256 / 256); have l3 := pop8_le (n / 256 / 256 / 256); have l4 := pop8_le (n / 256 / 256 / 256 / 256); have l5 := pop8_le (n / 256 / 256 / 256 / 256 / 256); have l6 := pop8_le (n / 256 / 256 / 256 / 256 / 256 / 256); have l7 := pop8_le (n / 256 / 256 / 256 / 256 / 256 / 256 / 256)
  clear a4 a5 a6 hz f1 f2 f3 f4 hs hy h e1 e2
  generalize pop8 (n % 256) = p0 at *
  generalize pop8 (n / 256 % 256) = p1 at *
  generalize pop8 (n / 256 / 256 % 256) = p2 at *
  generalize pop8 (n / 256 / 256 / 256 % 256) = p3 at *
  generalize pop8 (n / 256 / 256 / 256 / 256 % 256) = p4 at *
  generalize pop8 (n / 256 / 256 / 256 / 256 / 256 % 256) = p5 at *
  generalize pop8 (n / 256 / 256 / 256 / 256 / 256 / 256 % 256) = p6 at *
  generalize pop8 (n / 256 / 256 / 256 / 256 / 256 / 256 / 256 % 256) = p7 at *
  split <;> omega
end Wb
end Go.Proofs.YtkkhjaiaicmpaaaDoor
