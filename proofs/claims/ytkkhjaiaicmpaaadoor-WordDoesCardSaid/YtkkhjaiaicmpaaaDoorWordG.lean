/- Numbers of 32 and 64 bits: compares, counts, every opcode, as plain functions; what the library's counts come to. No condition but those that each law states. -/
import Derived.Test.YtkkhjaiaicmpaaaDoorWordQ
import Derived.Test.YtkkhjaiaicmpaaaDoorShelf
import Derived.Shelf.Spec.TrailingZeros
namespace Go.Proofs.YtkkhjaiaicmpaaaDoor
open Go Go.RowKit
set_option linter.unusedVariables false
set_option linter.unusedSimpArgs false
/-- the table of the library's that stands in its variable -/
def TabH (H : Heap) : Prop := ∀ j, j < 64 → cellH H ⟨0, j, none⟩ = some (.int .u8 (Lib.deBruijn64tab.getD j 0))
namespace Wd
def one (b : Bool) : Int := if b = true then 1 else 0
def cmp (i s t a b : Int) : Int :=
  if i = 0 then one (decide (a = b)) else if i = 1 then one (!decide (a = b)) else if i = 2 then one (decide (s < t)) else if i = 3 then one (decide (a < b)) else if i = 4 then one (decide (t < s))
  else if i = 5 then one (decide (b < a)) else if i = 6 then one (decide (s ≤ t)) else if i = 7 then one (decide (a ≤ b)) else if i = 8 then one (decide (t ≤ s)) else one (decide (b ≤ a))
def W (x : Int) : Int := IntKind.u64.wrap x
def ones1 (x : Int) : Int := W (bits .and .u64 (x / 2 ^ (min (1 : Int).toNat 64)) 6148914691236517205 + bits .and .u64 x 6148914691236517205)
def ones2 (x : Int) : Int := W (bits .and .u64 (x / 2 ^ (min (2 : Int).toNat 64)) 3689348814741910323 + bits .and .u64 x 3689348814741910323)
def ones3 (x : Int) : Int := bits .and .u64 (W (x / 2 ^ (min (4 : Int).toNat 64) + x)) 1085102592571150095
def ones4 (x : Int) : Int := W (x + x / 2 ^ (min (8 : Int).toNat 64))
def ones5 (x : Int) : Int := W (x + x / 2 ^ (min (16 : Int).toNat 64))
def ones6 (x : Int) : Int := W (x + x / 2 ^ (min (32 : Int).toNat 64))
/-- the bits that are set, as the library counts them -/
def ones (x : Int) : Int := bits .and .i64 (IntKind.i64.wrap (ones6 (ones5 (ones4 (ones3 (ones2 (ones1 x))))))) 127
theorem ones_R (x : Int) : 0 ≤ ones x ∧ ones x < 128 := by
  unfold ones
  generalize IntKind.i64.wrap _ = y
  show 0 ≤ IntKind.i64.wrap ((BitVec.ofInt 64 y &&& BitVec.ofInt 64 127).toNat : Int) ∧ IntKind.i64.wrap ((BitVec.ofInt 64 y &&& BitVec.ofInt 64 127).toNat : Int) < 128
  have h : (BitVec.ofInt 64 y &&& BitVec.ofInt 64 127).toNat ≤ 127 := by
    rw [BitVec.toNat_and]; exact Nat.le_trans Nat.and_le_right (by decide)
  rw [wi64]
  omega
theorem bitLenAux_le : ∀ (f n x : Nat), x < 2 ^ n → Lib.bitLenAux f x ≤ n
  | 0, n, x, _ => Nat.zero_le _
  | f + 1, n, x, h => by
    unfold Lib.bitLenAux
    split
    · exact Nat.zero_le _
    · rename_i h0
      cases n with
      | zero => simp at h; omega
      | succ n =>
        have := bitLenAux_le f n (x / 2) (by rw [Nat.pow_succ] at h; omega)
        omega
theorem bitLen_le {n x : Nat} (h : x < 2 ^ n) : Lib.bitLen x ≤ n := bitLenAux_le 64 n x h
def cnt (i x n : Int) : Int := if i = 0 then n - (Lib.bitLen x.toNat : Int) else if i = 1 then min (Lib.ctz 64 x.toNat : Int) n else ones x
/-- how many values an opcode takes -/
def ar (op : Int) : Int :=
  if op = 69 ∨ op = 80 ∨ (103 ≤ op ∧ op ≤ 105) ∨ (121 ≤ op ∧ op ≤ 123) ∨ op = 167 ∨ op = 172 ∨ op = 173 then 1
  else if (70 ≤ op ∧ op ≤ 90) ∨ (106 ≤ op ∧ op ≤ 120) ∨ (124 ≤ op ∧ op ≤ 138) then 2 else 0
def i32 (x : Int) : Int := IntKind.i64.wrap (IntKind.i32.wrap x)
def i64 (x : Int) : Int := IntKind.i64.wrap x
/-- what any opcode comes to, and its trap -/
def E (op a b : Int) : Int × Int :=
  if op = 69 then (one (decide (u64 (u32 a) = 0)), 0) else if op = 80 then (one (decide (a = 0)), 0)
  else if 70 ≤ op ∧ op ≤ 79 then (cmp (op - 70) (i32 a) (i32 b) (u64 (u32 a)) (u64 (u32 b)), 0)
  else if 81 ≤ op ∧ op ≤ 90 then (cmp (op - 81) (i64 a) (i64 b) a b, 0)
  else if 103 ≤ op ∧ op ≤ 105 then (cnt (op - 103) (u64 (u32 a)) 32, 0)
  else if 121 ≤ op ∧ op ≤ 123 then (cnt (op - 121) a 64, 0)
  else if op = 167 ∨ op = 173 then (u64 (u32 a), 0)
  else if (106 ≤ op ∧ op ≤ 120) ∨ (124 ≤ op ∧ op ≤ 138) ∨ op = 172 then D op a b else (0, 1)
theorem E_sup {op : Int} (a b : Int) (h : (106 ≤ op ∧ op ≤ 120) ∨ (124 ≤ op ∧ op ≤ 138) ∨ op = 172) : E op a b = D op a b := by
  unfold E
  rw [if_neg (by omega), if_neg (by omega), if_neg (by omega), if_neg (by omega), if_neg (by omega), if_neg (by omega), if_neg (by omega), if_pos h]
theorem E_none {op : Int} (a b : Int) (h : ar op = 0) : E op a b = (0, 1) := by
  unfold ar at h; unfold E
  split at h
  · omega
  · split at h
    · omega
    · rw [if_neg (by omega), if_neg (by omega), if_neg (by omega), if_neg (by omega), if_neg (by omega), if_neg (by omega), if_neg (by omega), if_neg (by omega)]
theorem tz_key {x : Int} {H : Heap} (hT : TabH H) (r : InR .u64 x) (h0 : ¬ x = 0) : ∃ idx : Nat, idx < 64 ∧
    IntKind.u64.wrap (bits .and .u64 x (IntKind.u64.wrap (0 - x)) * 285870213051353865) / 2 ^ (min (58 : Int).toNat 64) = (idx : Int) ∧
    cellH H ((⟨0, 0, none⟩ : Addr).add (idx * 1)) = some (.int .u8 (Lib.ctz 64 x.toNat)) ∧ Lib.ctz 64 x.toNat < 64 := by
  dsimp only [InR] at r
  obtain ⟨n, rfl⟩ := Int.eq_ofNat_of_zero_le r.1
  have hn : n < 2 ^ 64 := by have : (2 : Nat) ^ 64 = 18446744073709551616 := by decide
                             omega
  obtain ⟨hlow, hk⟩ := Lib.lowest_bit 64 n (by omega) hn
  obtain ⟨hi, htab⟩ := Lib.deBruijn64_at _ hk
  have key := tz64_key n _ (by omega) (by omega) hlow
  refine ⟨_, hi, ?_, ?_, by rw [Int.toNat_natCast]; exact hk⟩
  · rw [Int.zero_sub, show ((2 : Int) ^ (min (58 : Int).toNat 64)) = 288230376151711744 by decide +kernel]; exact key
  · have hc := hT _ hi
    rw [htab] at hc
    rw [Int.toNat_natCast]
    have e : ∀ q, (⟨0, 0, none⟩ : Addr).add (q * 1) = ⟨0, q, none⟩ := by intro q; by_cases h : q = 0 <;> simp [Addr.add, h]
    rw [e]; exact hc
end Wd
theorem lz_any {H : Heap} (x : Int) (r : InR .u64 x) : Ct Tryd.prog 28 [.int .u64 x] H (fun u H' => u = .int .i64 (64 - (Lib.bitLen x.toNat : Int)) ∧ H = H') :=
  fun w hw => (Tryd.bits_LeadingZeros64 x w r.1 r.2).mono fun _ _ ⟨he, hw'⟩ => by
    subst hw'
    exact ⟨_, he, by subst hw; exact St.refl _, rfl, hw.symm⟩
end Go.Proofs.YtkkhjaiaicmpaaaDoor
