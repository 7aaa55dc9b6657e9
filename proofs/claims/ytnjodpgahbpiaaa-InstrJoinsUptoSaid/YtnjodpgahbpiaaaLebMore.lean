/- More plain laws of numbers of variable length: what is taken is taken again of its own bytes, and has no fewer bytes than the fewest. No condition. -/
import Derived.Test.YtnjodpgahbpiaaaLebRefPlain
namespace Go.Proofs.Ytnjodpgahbpiaaa.Leb

theorem high_take {l : List UInt8} {k m : Nat} (h : high l k) : high (l.take m) k := fun j c hj hc => by
  rw [List.getElem?_take] at hc
  split at hc
  · exact h j c hj hc
  · cases hc

theorem run_take {l : List UInt8} {k : Nat} (h : run l = k + 1) : run (l.take (k + 1)) = k + 1 := by
  obtain ⟨h1, c, h2, h3⟩ := run_spec h
  exact run_eq (high_take h1) (by rw [List.getElem?_take, if_pos (by omega)]; exact h2) h3

theorem tk_some {sg : Bool} {l : List UInt8} {z n : Int} {k : Nat} (h : tk sg l z = some (n, k)) :
    1 ≤ z ∧ z ≤ 64 ∧ run l = k ∧ 1 ≤ k ∧ k ≤ 10 ∧ k ≤ l.length ∧ n = num sg (l.take k) ∧ fits sg z.toNat n = true := by
  unfold tk at h
  split at h
  · cases h
  split at h
  · next h1 h2 =>
    injection h with h; injection h with h3 h4
    subst h4
    have := run_le l
    exact ⟨by omega, by omega, rfl, by omega, by omega, this, h3.symm, by rw [← h3]; exact h2⟩
  · cases h

theorem tk_again {sg : Bool} {l : List UInt8} {z n : Int} {k : Nat} (h : tk sg l z = some (n, k)) : tk sg (l.take k) z = some (n, k) := by
  obtain ⟨h1, h2, h3, h4, h5, h6, h7, h8⟩ := tk_some h
  obtain ⟨j, rfl⟩ : ∃ j, k = j + 1 := ⟨k - 1, by omega⟩
  have hr := run_take h3
  have h9 : ¬ (z + 6) / 7 < ((j + 1 : Nat) : Int) := by
    intro hh
    unfold tk at h; rw [if_pos (by right; right; right; rw [h3]; exact hh)] at h; cases h
  unfold tk
  rw [if_neg (by rw [hr]; omega), hr, List.take_take, Nat.min_self, ← h7, if_pos h8]

theorem tk_fit {sg : Bool} {l : List UInt8} {z n : Int} {k : Nat} (h : tk sg l z = some (n, k)) : fit7 sg k n := by
  obtain ⟨h1, h2, h3, h4, h5, h6, h7, h8⟩ := tk_some h
  have := num_fit sg (l.take k)
  rw [List.length_take, Nat.min_eq_left h6, ← h7] at this
  exact this

theorem ap_length {sg : Bool} {z : Int} (h : fit7 sg 10 z) : (ap sg 10 z).length = need sg 10 z := by rw [ap_digs sg 9 z h, digs_length]

theorem fit7_mono {sg : Bool} {z : Int} {j k : Nat} (h : fit7 sg j z) (hj : j ≤ k) : fit7 sg k z := by
  have h1 : 128 ^ j ≤ 128 ^ k := Nat.pow_le_pow_right (by omega) hj
  have c1 := cast_pow j
  have c2 := cast_pow k
  unfold fit7 at *
  cases sg
  · simp at h ⊢; omega
  · simp at h ⊢; omega

theorem tk_short {sg : Bool} {l : List UInt8} {z n : Int} {k : Nat} (h : tk sg l z = some (n, k)) : (ap sg 10 n).length ≤ k := by
  obtain ⟨h1, h2, h3, h4, h5, h6, h7, h8⟩ := tk_some h
  have hf := tk_fit h
  rw [ap_length (fit7_mono hf h5)]
  by_cases hk : k < need sg 10 n
  · exact absurd hf (need_min sg 10 k n (fit7_nonneg hf) h4 hk)
  · omega

theorem fits_shr {b : Nat} {n : Int} (h0 : 0 ≤ n) (h : fits false b n = true) : n / 2 ^ b = 0 := by
  unfold fits at h
  simp at h
  exact Int.ediv_eq_zero_of_lt h0 h

theorem fits_shr' {b : Nat} {n : Int} (hb : 1 ≤ b) (h : fits true b n = true) : n / 2 ^ (b - 1) = 0 ∨ n / 2 ^ (b - 1) = -1 := by
  obtain ⟨c, rfl⟩ : ∃ c, b = c + 1 := ⟨b - 1, by omega⟩
  unfold fits at h
  rw [Int.pow_succ] at h
  simp at h
  rw [Nat.add_sub_cancel, small_div (by omega) (by omega)]
  split <;> simp

end Go.Proofs.Ytnjodpgahbpiaaa.Leb
