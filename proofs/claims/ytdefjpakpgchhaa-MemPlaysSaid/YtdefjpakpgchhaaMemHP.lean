/- An access is its halves: the plain law. No condition. -/
import Derived.Test.YtdefjpakpgchhaaMemF
namespace Go.Proofs.Ytdefjpakpgchhaa
open Go Go.RowKit
set_option linter.unusedVariables false
set_option linter.unusedSimpArgs false
set_option linter.unnecessarySimpa false

theorem prt_split {bs : List Int} {p a b : Nat} (h : p + a ≤ bs.length) : prt bs p (a + b) = prt bs p a ++ prt bs (p + a) b := by
  unfold prt
  have e : bs.take (p + (a + b)) = bs.take (p + a) ++ (bs.drop (p + a)).take b := by
    rw [← Nat.add_assoc, List.take_add]
  rw [e, List.drop_append_of_le_length (by simp; omega)]
  congr 1
  rw [List.drop_take]
  simp
theorem xorI {y q : Nat} {i : Nat} (hy : y < 2 ^ i) (hs : y + 2 ^ i * q < 18446744073709551616) : bits BinOp.xor IntKind.u64 (y : Int) ((y + 2 ^ i * q : Nat) : Int) = ((2 ^ i * q : Nat) : Int) := by
  rw [u64_xor_nat _ _ (by omega) hs]
  congr 1
  apply Nat.eq_of_testBit_eq
  intro j
  rw [Nat.add_comm y, Nat.testBit_xor, Nat.testBit_two_pow_mul_add q hy, Nat.testBit_two_pow_mul]
  by_cases hj : j < i
  · simp [hj, show ¬ i ≤ j by omega]
  · have : y.testBit j = false := Nat.testBit_lt_two_pow (Nat.lt_of_lt_of_le hy (Nat.pow_le_pow_right (by omega) (by omega)))
    simp [hj, this, show i ≤ j by omega]
/-- an access as its halves -/
theorem halves {bs : List Int} {p w : Nat} (hb : Byt bs) (hw : w = 1 ∨ w = 2 ∨ w = 4) (hp : p + 2 * w ≤ bs.length) : ld (prt bs p (2 * w)) = bits BinOp.or IntKind.u64 (ld (prt bs p w)) (IntKind.u64.wrap (ld (prt bs (p + w) w) * 2 ^ (min (8 * w) IntKind.u64.bits))) := by
  have h1 := ld_range (prt_byt hb p w)
  have h2 := ld_range (prt_byt hb (p + w) w)
  rw [prt_length (by omega)] at h1 h2
  have e : min (8 * w) IntKind.u64.bits = 8 * w := by show min _ 64 = _; omega
  have hpow : (2 : Int) ^ (8 * w) = 256 ^ w := (pow256 w).symm
  have hlt : ld (prt bs p w) + 2 ^ (8 * w) * ld (prt bs (p + w) w) < 18446744073709551616 := by
    rw [hpow]
    rcases hw with rfl | rfl | rfl <;> omega
  rw [show 2 * w = w + w by omega, prt_split (by omega), ld_append, prt_length (by omega), e, IntKind.wrap_u64, Int.mul_comm (ld (prt bs (p + w) w))]
  have h3 : 0 ≤ 2 ^ (8 * w) * ld (prt bs (p + w) w) := Int.mul_nonneg (by rw [hpow]; exact Int.pow_nonneg (by omega)) h2.1
  rw [Int.emod_eq_of_lt h3 (by omega), orI h1.1 (by rw [hpow]; exact h1.2) h2.1 hlt, hpow]
/-- the sign changes nothing below -/
theorem signs {x : Int} {w n : Nat} (hw : (w = 1 ∧ (n = 32 ∨ n = 64)) ∨ (w = 2 ∧ (n = 32 ∨ n = 64)) ∨ (w = 4 ∧ n = 64)) (h0 : 0 ≤ x) (h1 : x < 256 ^ w) : IntKind.u64.wrap (bits BinOp.xor IntKind.u64 x (sx x w n) * 2 ^ (min (64 - 8 * w) IntKind.u64.bits)) = 0 := by
  obtain ⟨y, rfl⟩ : ∃ y : Nat, x = y := ⟨x.toNat, by omega⟩
  have e : min (64 - 8 * w) IntKind.u64.bits = 64 - 8 * w := by show min _ 64 = _; omega
  have hpow : (2 : Int) ^ (8 * w) = 256 ^ w := (pow256 w).symm
  have hy : y < 2 ^ (8 * w) := by
    have : ((2 ^ (8 * w) : Nat) : Int) = 256 ^ w := by rw [← hpow]; simp
    omega
  obtain ⟨q, hq, hlt⟩ : ∃ q : Nat, sx y w n = ((y + 2 ^ (8 * w) * q : Nat) : Int) ∧ y + 2 ^ (8 * w) * q < 18446744073709551616 := by
    unfold sx
    split
    · refine ⟨0, by simp, ?_⟩
      rcases hw with ⟨rfl, _⟩ | ⟨rfl, _⟩ | ⟨rfl, _⟩ <;> omega
    · rcases hw with ⟨rfl, rfl | rfl⟩ | ⟨rfl, rfl | rfl⟩ | ⟨rfl, rfl⟩
      · exact ⟨2 ^ 24 - 1, by omega, by omega⟩
      · exact ⟨2 ^ 56 - 1, by omega, by omega⟩
      · exact ⟨2 ^ 16 - 1, by omega, by omega⟩
      · exact ⟨2 ^ 48 - 1, by omega, by omega⟩
      · exact ⟨2 ^ 32 - 1, by omega, by omega⟩
  rw [hq, xorI hy hlt, e, IntKind.wrap_u64]
  have e2 : ((2 ^ (8 * w) * q : Nat) : Int) * 2 ^ (64 - 8 * w) = 18446744073709551616 * q := by
    have : (2 : Int) ^ (8 * w) * 2 ^ (64 - 8 * w) = 18446744073709551616 := by
      rw [← Int.pow_add, show 8 * w + (64 - 8 * w) = 64 by omega]; rfl
    rw [← this]; simp [Int.mul_comm, Int.mul_left_comm, Int.mul_assoc]
  rw [e2, Int.mul_emod_right]
def tab : List (List Int) := [[41, 53, 32, 52], [53, 51, 16, 50], [51, 49, 8, 48], [40, 47, 16, 46], [47, 45, 8, 44]]
/-- what is said of a row -/
def RowLaw (bs : List Int) (x0 x1 x2 x3 : Int) : Prop :=
  ∀ a b c : Int, 0 ≤ a → a ≤ 4000 → b = a → c = a + x2 / 8 →
    loadX bs x0 a = bits BinOp.or IntKind.u64 (loadX bs x1 b) (IntKind.u64.wrap (loadX bs x1 c * 2 ^ (min x2.toNat IntKind.u64.bits))) ∧
    IntKind.u64.wrap (bits BinOp.xor IntKind.u64 (loadX bs x1 b) (loadX bs x3 b) * 2 ^ (min (64 - x2).toNat IntKind.u64.bits)) = 0
theorem rowLaw_of {bs : List Int} {x0 x1 x2 x3 : Int} {w n : Nat} (hb : Byt bs) (hl : bs.length = 65536) (hw : (w = 1 ∧ (n = 32 ∨ n = 64)) ∨ (w = 2 ∧ (n = 32 ∨ n = 64)) ∨ (w = 4 ∧ n = 64))
    (h0 : 40 ≤ x0 ∧ x0 ≤ 53 ∧ mw x0 = 2 * w ∧ ∀ y, loadN x0 y = y) (h1 : 40 ≤ x1 ∧ x1 ≤ 53 ∧ mw x1 = w ∧ ∀ y, loadN x1 y = y) (h2 : x2 = 8 * w) (h3 : 40 ≤ x3 ∧ x3 ≤ 53 ∧ mw x3 = w ∧ ∀ y, loadN x3 y = sx y w n) : RowLaw bs x0 x1 x2 x3 := by
  rintro a b c ha0 ha1 rfl rfl
  have i0 : inA bs 40 53 x0 b := by unfold inA; rw [hl, h0.2.2.1]; omega
  have i1 : inA bs 40 53 x1 b := by unfold inA; rw [hl, h1.2.2.1]; omega
  have i2 : inA bs 40 53 x1 (b + x2 / 8) := by unfold inA; rw [hl, h1.2.2.1]; omega
  have i3 : inA bs 40 53 x3 b := by unfold inA; rw [hl, h3.2.2.1]; omega
  unfold loadX
  rw [if_pos i0, if_pos i1, if_pos i2, if_pos i3, h0.2.2.2, h1.2.2.2, h1.2.2.2, h3.2.2.2, h0.2.2.1, h1.2.2.1, h3.2.2.1]
  have e1 : (b + x2 / 8).toNat = b.toNat + w := by omega
  have e2 : x2.toNat = 8 * w := by omega
  have e3 : (64 - x2).toNat = 64 - 8 * w := by omega
  rw [e1, e2, e3]
  refine ⟨halves hb (by omega) (by omega), ?_⟩
  have hr := ld_range (prt_byt hb b.toNat w)
  rw [prt_length (by omega)] at hr
  exact signs hw hr.1 hr.2
theorem tab_row {bs : List Int} (hb : Byt bs) (hl : bs.length = 65536) {k : Nat} (hk : k < 5) : ∃ x0 x1 x2 x3 : Int, tab.getD k default = [x0, x1, x2, x3] ∧ InR .u8 x0 ∧ InR .u8 x1 ∧ (x2 = 8 ∨ x2 = 16 ∨ x2 = 32) ∧ InR .u8 x3 ∧ RowLaw bs x0 x1 x2 x3 := by
  have : k = 0 ∨ k = 1 ∨ k = 2 ∨ k = 3 ∨ k = 4 := by omega
  rcases this with rfl | rfl | rfl | rfl | rfl
  · exact ⟨41, 53, 32, 52, rfl, by decide, by decide, by decide, by decide, rowLaw_of (w := 4) (n := 64) hb hl (by decide) ⟨by decide, by decide, rfl, fun y => rfl⟩ ⟨by decide, by decide, rfl, fun y => rfl⟩ rfl ⟨by decide, by decide, rfl, fun y => rfl⟩⟩
  · exact ⟨53, 51, 16, 50, rfl, by decide, by decide, by decide, by decide, rowLaw_of (w := 2) (n := 64) hb hl (by decide) ⟨by decide, by decide, rfl, fun y => rfl⟩ ⟨by decide, by decide, rfl, fun y => rfl⟩ rfl ⟨by decide, by decide, rfl, fun y => rfl⟩⟩
  · exact ⟨51, 49, 8, 48, rfl, by decide, by decide, by decide, by decide, rowLaw_of (w := 1) (n := 64) hb hl (by decide) ⟨by decide, by decide, rfl, fun y => rfl⟩ ⟨by decide, by decide, rfl, fun y => rfl⟩ rfl ⟨by decide, by decide, rfl, fun y => rfl⟩⟩
  · exact ⟨40, 47, 16, 46, rfl, by decide, by decide, by decide, by decide, rowLaw_of (w := 2) (n := 32) hb hl (by decide) ⟨by decide, by decide, rfl, fun y => rfl⟩ ⟨by decide, by decide, rfl, fun y => rfl⟩ rfl ⟨by decide, by decide, rfl, fun y => rfl⟩⟩
  · exact ⟨47, 45, 8, 44, rfl, by decide, by decide, by decide, by decide, rowLaw_of (w := 1) (n := 32) hb hl (by decide) ⟨by decide, by decide, rfl, fun y => rfl⟩ ⟨by decide, by decide, rfl, fun y => rfl⟩ rfl ⟨by decide, by decide, rfl, fun y => rfl⟩⟩

end Go.Proofs.Ytdefjpakpgchhaa
