/- The document's counts are the library's: plain laws. No condition. -/
import Derived.Test.YtkkhjaiaicmpaaaDoorWordX
namespace Go.Proofs.YtkkhjaiaicmpaaaDoor
open Go Go.RowKit
set_option linter.unusedVariables false
set_option linter.unusedSimpArgs false
namespace Wr
theorem bit_succ (a i : Nat) : bit a (i + 1) = bit (a / 2) i := by
  unfold bit
  rw [Nat.pow_succ, Nat.mul_comm, ← Nat.div_div_eq_div_mul]
theorem popc_succ (a : Nat) : ∀ k, popc a (k + 1) = a % 2 + popc (a / 2) k
  | 0 => by simp [popc, bit]
  | k + 1 => by
    have h := popc_succ a k
    have e := bit_succ a k
    simp only [popc] at h ⊢
    omega
theorem popc_aux : ∀ (k a : Nat), popc a k = Lib.popAux k a
  | 0, a => rfl
  | k + 1, a => by rw [popc_succ, popc_aux k (a / 2)]; rfl
theorem bit_big {a i n : Nat} (ha : a < 2 ^ n) (hi : n ≤ i) : bit a i = 0 := by
  unfold bit
  rw [Nat.div_eq_of_lt (Nat.lt_of_lt_of_le ha (Nat.pow_le_pow_right (by omega) hi))]
theorem popc_more {a n : Nat} (ha : a < 2 ^ n) : ∀ k, popc a (n + k) = popc a n
  | 0 => rfl
  | k + 1 => by
    show popc a (n + k) + bit a (n + k) = _
    rw [popc_more ha k, bit_big ha (by omega)]; omega
theorem ctz_char : ∀ (c f x : Nat), c < f → (∀ j, j < c → bit x j = 0) → bit x c = 1 → Lib.ctzFrom f x = c
  | 0, f + 1, x, _, _, h => by
    have h : x % 2 = 1 := by simpa [bit] using h
    unfold Lib.ctzFrom
    rw [if_pos h]
  | c + 1, f + 1, x, hc, hl, h => by
    have h0 := hl 0 (by omega)
    have h0 : x % 2 = 0 := by simpa [bit] using h0
    unfold Lib.ctzFrom
    rw [if_neg (by omega), ctz_char c f (x / 2) (by omega) (fun j hj => by rw [← bit_succ]; exact hl (j + 1) (by omega)) (by rw [← bit_succ]; exact h)]
    omega
theorem top_bit {a m : Nat} (ha : a < 2 ^ (m + 1)) : (bit a m = 0 → a < 2 ^ m) ∧ (bit a m = 1 → 2 ^ m ≤ a) := by
  have hp : 0 < 2 ^ m := Nat.two_pow_pos m
  have h2 : a / 2 ^ m < 2 := by
    rw [Nat.div_lt_iff_lt_mul hp]
    rw [Nat.pow_succ] at ha; omega
  have key : ∀ q : Nat, q < 2 → (q % 2 = 0 → q = 0) ∧ (q % 2 = 1 → q = 1) := fun q hq => by omega
  have hm := Nat.div_add_mod a (2 ^ m)
  have hml := Nat.mod_lt a hp
  unfold bit
  refine ⟨fun h => ?_, fun h => ?_⟩
  · have e : a / 2 ^ m = 0 := (key _ h2).1 h
    rw [e, Nat.mul_zero] at hm
    omega
  · have e : a / 2 ^ m = 1 := (key _ h2).2 h
    rw [e, Nat.mul_one] at hm
    omega
theorem bitLen_top {a m : Nat} (hm : m < 64) (h1 : 2 ^ m ≤ a) (h2 : a < 2 ^ (m + 1)) : Lib.bitLen a = m + 1 := by
  have h64 : a < 2 ^ 64 := Nat.lt_of_lt_of_le h2 (Nat.pow_le_pow_right (by omega) (by omega))
  rw [Lib.bitLen_shift m a h1 h64]
  have e : a / 2 ^ m = 1 := (div_one (Nat.two_pow_pos m) (by rw [Nat.pow_succ] at h2; omega)).2 h1
  rw [e]; rfl
end Wr
end Go.Proofs.YtkkhjaiaicmpaaaDoor
