/- The reference's bits of a number, in plain Lean. No condition. -/
import Derived.Test.YtnjodpgahbpiaaaLebPlain
namespace Go.Proofs.Ytnjodpgahbpiaaa.Leb

/-- a number's bit, from the lowest one on -/
def zbit (z : Int) (at_ : Nat) : Int := z / 2 ^ at_ % 2

theorem zbit_01 (z : Int) (n : Nat) : zbit z n = 0 ∨ zbit z n = 1 := by unfold zbit; omega

theorem zbit_low (z : Int) (c : Nat) (n : Nat) (hn : n < 7) (h : z % 128 = ((c % 128 : Nat) : Int)) : zbit z n = ((c / 2 ^ n % 2 : Nat) : Int) := by
  unfold zbit
  match n, hn with
  | 0, _ => simp; omega
  | 1, _ => simp; omega
  | 2, _ => simp; omega
  | 3, _ => simp; omega
  | 4, _ => simp; omega
  | 5, _ => simp; omega
  | 6, _ => simp; omega

theorem num_mod (sg : Bool) (c : UInt8) (l : List UInt8) : num sg (c :: l) % 128 = ((c.toNat % 128 : Nat) : Int) := by
  by_cases hl : l = []
  · subst hl; rw [num_one]; split <;> omega
  · rw [num_cons sg c l hl]; omega

theorem num_div (sg : Bool) (c : UInt8) (l : List UInt8) (hl : l ≠ []) : num sg (c :: l) / 128 = num sg l := by
  rw [num_cons sg c l hl]; omega

theorem zbit_seven (z : Int) (n : Nat) : zbit z (n + 7) = zbit (z / 128) n := by
  unfold zbit
  have : (2 : Int) ^ (n + 7) = 128 * 2 ^ n := by rw [Int.pow_add, Int.mul_comm]; rfl
  rw [this, ← Int.ediv_ediv_of_nonneg (by omega)]

/-- the bit of a byte is the number's -/
theorem zbit_at (sg : Bool) (l : List UInt8) : ∀ (n : Nat) (c : UInt8), l[n / 7]? = some c → zbit (num sg l) n = ((c.toNat / 2 ^ (n % 7) % 2 : Nat) : Int) := by
  induction l with
  | nil => intro n c h; simp at h
  | cons d l ih =>
    intro n c h
    by_cases hn : n < 7
    · rw [Nat.div_eq_of_lt hn] at h
      simp at h; subst h
      rw [Nat.mod_eq_of_lt hn]
      exact zbit_low _ _ _ hn (num_mod sg d l)
    · obtain ⟨m, rfl⟩ : ∃ m, n = m + 7 := ⟨n - 7, by omega⟩
      rw [Nat.add_div_right m (by omega)] at h
      have h' : l[m / 7]? = some c := by simpa using h
      have hl : l ≠ [] := by intro e; subst e; simp at h'
      rw [zbit_seven, num_div sg d l hl, ih m c h', Nat.add_mod_right]

theorem small_div {z p : Int} (h0 : -p ≤ z) (h1 : z < p) : z / p = if 0 ≤ z then 0 else -1 := by
  split
  · exact Int.ediv_eq_zero_of_lt (by omega) h1
  · have e : z = (z + p) + p * (-1) := by omega
    rw [e, Int.add_mul_ediv_left _ _ (by omega), Int.ediv_eq_zero_of_lt (by omega) (by omega)]; rfl

theorem pow_le {a b : Nat} (h : a ≤ b) : (2 : Int) ^ a ≤ 2 ^ b := by
  have h1 : 2 ^ a ≤ 2 ^ b := Nat.pow_le_pow_right (by omega) h
  have c1 : ((2 ^ a : Nat) : Int) = 2 ^ a := by simp
  have c2 : ((2 ^ b : Nat) : Int) = 2 ^ b := by simp
  omega

/-- above all bits of a number they are as its sign -/
theorem zbit_high {z : Int} {m n : Nat} (h0 : -(2 ^ m : Int) ≤ z) (h1 : z < 2 ^ m) (hn : m ≤ n) : zbit z n = if 0 ≤ z then 0 else 1 := by
  have := pow_le hn
  unfold zbit
  rw [small_div (by omega) (by omega)]
  split <;> rfl

theorem fit7_pow {L : Nat} {z : Int} (hL : 1 ≤ L) : fit7 true L z ↔ -(2 ^ (7 * L - 1) : Int) ≤ z ∧ z < 2 ^ (7 * L - 1) := by
  unfold fit7
  obtain ⟨m, hm⟩ : ∃ m, 7 * L = m + 1 := ⟨7 * L - 1, by omega⟩
  rw [pow128, hm, Int.pow_succ]
  simp; omega

theorem zbit_out {sg : Bool} {l : List UInt8} {n : Nat} (hl : l ≠ []) (hn : 7 * l.length ≤ n) : zbit (num sg l) n = if sg = true then zbit (num sg l) (7 * l.length - 1) else 0 := by
  have hp : 1 ≤ l.length := by have : l.length ≠ 0 := by simpa using hl
                               omega
  have hf := num_fit sg l
  cases sg
  · unfold fit7 at hf
    simp only [Bool.false_eq_true, if_false] at hf ⊢
    rw [pow128] at hf
    rw [zbit_high (m := 7 * l.length) (by omega) hf.2 hn, if_pos hf.1]
  · rw [fit7_pow hp] at hf
    simp only [if_true]
    rw [zbit_high hf.1 hf.2 (by omega), zbit_high hf.1 hf.2 (Nat.le_refl _)]

/-- the bit that is asked of one that is too much -/
def good (sg : Bool) (b : Nat) (z : Int) (n : Nat) : Prop := zbit z n = if sg = true then zbit z (b - 1) else 0

theorem half2 (z : Int) (j : Nat) : z / 2 ^ (j + 1) = z / 2 ^ j / 2 := by
  rw [Int.pow_succ, ← Int.ediv_ediv_of_nonneg (Int.le_of_lt (Int.pow_pos (by omega)))]

theorem half (z : Int) (j : Nat) : z / 2 ^ j = 2 * (z / 2 ^ (j + 1)) + zbit z j := by
  rw [half2]; unfold zbit; omega

theorem bounds_of_div {z p : Int} (hp : 0 < p) (h : z / p = 0 ∨ z / p = -1) : -p ≤ z ∧ z < p := by
  have h1 := Int.lt_ediv_add_one_mul_self z hp
  have h2 := Int.ediv_mul_le z (show p ≠ 0 by omega)
  rcases h with h | h <;> rw [h] at h1 h2 <;> omega

/-- THE REFERENCE's CHECK -/
theorem fits_iff {sg : Bool} {n b : Nat} {z : Int} (hn : 1 ≤ n) (hb : 1 ≤ b) (hf : fit7 sg n z) : fits sg b z = true ↔ ∀ at_, b ≤ at_ → at_ < 7 * n → good sg b z at_ := by
  obtain ⟨c, rfl⟩ : ∃ c, b = c + 1 := ⟨b - 1, by omega⟩
  cases sg
  · unfold fit7 at hf
    rw [pow128] at hf
    simp only [Bool.false_eq_true, if_false] at hf
    unfold fits good
    simp only [Bool.false_eq_true, if_false, decide_eq_true_eq]
    constructor
    · intro h at_ h1 _
      rw [zbit_high (m := c + 1) (by omega) h h1, if_pos hf.1]
    · intro h
      by_cases hle : 7 * n ≤ c + 1
      · have := pow_le hle; omega
      · have key : ∀ d, d ≤ 7 * n - (c + 1) → z / 2 ^ (7 * n - d) = 0 := by
          intro d
          induction d with
          | zero => intro _; exact Int.ediv_eq_zero_of_lt hf.1 hf.2
          | succ d ih =>
            intro hd
            have h1 := ih (by omega)
            have h2 := h (7 * n - (d + 1)) (by omega) (by omega)
            have h3 := half z (7 * n - (d + 1))
            rw [show 7 * n - (d + 1) + 1 = 7 * n - d by omega, h1, h2] at h3
            exact h3
        have h1 := key (7 * n - (c + 1)) (Nat.le_refl _)
        rw [show 7 * n - (7 * n - (c + 1)) = c + 1 by omega] at h1
        have hp : (0 : Int) < 2 ^ (c + 1) := Int.pow_pos (by omega)
        exact (bounds_of_div hp (.inl h1)).2
  · rw [fit7_pow hn] at hf
    unfold fits good
    simp only [if_true, decide_eq_true_eq, Nat.add_sub_cancel]
    have hpc : (2 : Int) ^ (c + 1) = 2 * 2 ^ c := by rw [Int.pow_succ, Int.mul_comm]
    constructor
    · intro h at_ h1 _
      rw [zbit_high (m := c) (by omega) (by omega) (by omega), zbit_high (m := c) (by omega) (by omega) (Nat.le_refl _)]
    · intro h
      by_cases hle : 7 * n ≤ c + 1
      · have := pow_le (show 7 * n - 1 ≤ c by omega); omega
      · have key : ∀ d, d ≤ 7 * n - 1 - c → z / 2 ^ (7 * n - 1 - d) = 0 ∨ z / 2 ^ (7 * n - 1 - d) = -1 := by
          intro d
          induction d with
          | zero =>
            intro _
            rw [Nat.sub_zero, small_div hf.1 hf.2]; split <;> simp
          | succ d ih =>
            intro hd
            have h1 := ih (by omega)
            have h2 := h (7 * n - 1 - d) (by omega) (by omega)
            have h4 : zbit z (7 * n - 1 - (d + 1)) = zbit z c := by
              by_cases e : 7 * n - 1 - (d + 1) = c
              · rw [e]
              · exact h _ (by omega) (by omega)
            have h3 := half z (7 * n - 1 - (d + 1))
            rw [show 7 * n - 1 - (d + 1) + 1 = 7 * n - 1 - d by omega, h4, ← h2] at h3
            unfold zbit at h3
            rcases h1 with h1 | h1 <;> rw [h1] at h3 <;> omega
        have h1 := key (7 * n - 1 - c) (Nat.le_refl _)
        rw [show 7 * n - 1 - (7 * n - 1 - c) = c by omega] at h1
        have hp : (0 : Int) < 2 ^ c := Int.pow_pos (by omega)
        have := bounds_of_div hp h1
        omega

/-- one bit more -/
theorem horner (z : Int) (j m : Nat) : z / 2 ^ j % 2 ^ (m + 1) = 2 * (z / 2 ^ (j + 1) % 2 ^ m) + zbit z j := by
  rw [half2]; unfold zbit
  generalize z / 2 ^ j = q
  have hp : (0 : Int) < 2 ^ m := Int.pow_pos (by omega)
  rw [Int.pow_succ]
  have e : q = 2 * (q / 2) + q % 2 := by omega
  have h1 := Int.emod_nonneg (q / 2) (show (2 ^ m : Int) ≠ 0 by omega)
  have h2 := Int.emod_lt_of_pos (q / 2) hp
  have h3 := Int.mul_ediv_add_emod (q / 2) (2 ^ m)
  have e2 : q = (2 * (q / 2 % 2 ^ m) + q % 2) + (2 ^ m * 2) * (q / 2 / 2 ^ m) := by
    have : 2 ^ m * 2 * (q / 2 / 2 ^ m) = 2 * (2 ^ m * (q / 2 / 2 ^ m)) := by rw [Int.mul_comm (2 ^ m) 2, Int.mul_assoc]
    omega
  conv => lhs; rw [e2]
  rw [Int.add_mul_emod_self_left]
  exact Int.emod_eq_of_lt (by omega) (by omega)

end Go.Proofs.Ytnjodpgahbpiaaa.Leb
