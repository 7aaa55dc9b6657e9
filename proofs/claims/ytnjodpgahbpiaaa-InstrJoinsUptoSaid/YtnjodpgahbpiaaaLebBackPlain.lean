/- Plain laws: what was appended is taken as it was, whatever stands behind. No condition. -/
import Derived.Test.YtnjodpgahbpiaaaLebMore
import Derived.Lib.ItoaNum
namespace Go.Proofs.Ytnjodpgahbpiaaa.Leb

theorem digs_high (n : Nat) : ∀ z, high (digs (n + 1) z) n := by
  induction n with
  | zero => intro z; exact high_zero _
  | succ n ih =>
    intro z
    simp only [digs]
    rw [high_cons, toNat_hi]
    exact ⟨by omega, ih _⟩

theorem run_zero_take {l : List UInt8} {k i : Nat} (h : high l k) (hi : i ≤ k) : run (l.take i) = 0 := by
  apply run_end
  intro j c hj hc
  rw [List.getElem?_take] at hc
  simp at hj
  split at hc
  · exact h j c (by omega) hc
  · cases hc

theorem tk_ap {sg : Bool} {z : Int} (h : fit7 sg 10 z) (r : List UInt8) {b : Nat} (h1 : 1 ≤ b) (h2 : b ≤ 64) :
    tk sg (ap sg 10 z ++ r) b = if fits sg b z then some (z, (ap sg 10 z).length) else none := by
  have hf : fit7 sg (need sg 10 z) z := need_fit sg 9 z h
  have hp : 1 ≤ need sg 10 z := need_pos sg 9 z
  have hm := fun n h1 h2 => need_min sg 10 n z (fit7_nonneg h) h1 h2
  have hd' : ap sg 10 z = digs (need sg 10 z) z := ap_digs sg 9 z h
  rw [hd']
  generalize hL : need sg 10 z = L at *
  obtain ⟨j, rfl⟩ : ∃ j, L = j + 1 := ⟨L - 1, by omega⟩
  have hr := digs_run j z r
  have hlen := digs_length (j + 1) z
  have hn : num sg ((digs (j + 1) z ++ r).take (j + 1)) = z := by
    rw [List.take_left' hlen, digs_num sg j z hf]
  unfold tk
  rw [hr, hlen]
  by_cases hlong : ((b : Int) + 6) / 7 < ((j + 1 : Nat) : Int)
  · rw [if_pos (by omega)]
    have : fits sg b z = false := by
      rw [Bool.eq_false_iff]
      intro hfit
      refine hm j (by omega) (by omega) ?_
      have hpw := pow_le (show b ≤ 7 * j by omega)
      unfold fits at hfit
      unfold fit7
      rw [pow128]
      have hnn := fit7_nonneg h
      cases sg
      · simp at hfit hnn ⊢; omega
      · simp at hfit ⊢; omega
    rw [this]; rfl
  · rw [if_neg (by omega), hn]
    simp

theorem tk_cut {sg : Bool} {z : Int} (h : fit7 sg 10 z) (i : Nat) (hi : i < (ap sg 10 z).length) (b : Int) : tk sg ((ap sg 10 z).take i) b = none := by
  have hp := need_pos sg 9 z
  rw [ap_length h] at hi
  have hd : ap sg 10 z = digs (need sg 10 z) z := ap_digs sg 9 z h
  rw [hd]
  obtain ⟨j, hj⟩ : ∃ j, need sg 10 z = j + 1 := ⟨need sg (9 + 1) z - 1, by have : need sg (9 + 1) z = need sg 10 z := rfl; omega⟩
  rw [hj]
  unfold tk
  rw [if_pos]
  right; right; left
  exact run_zero_take (digs_high j z) (by omega)

theorem ap_le {sg : Bool} {z : Int} (h : fit7 sg 10 z) : (ap sg 10 z).length ≤ 10 := by rw [ap_length h]; exact need_le _ _ _
theorem ap_pos {sg : Bool} {z : Int} (h : fit7 sg 10 z) : 1 ≤ (ap sg 10 z).length := by rw [ap_length h]; exact need_pos sg 9 z

theorem bitLen_zero : Lib.bitLen 0 = 0 := by decide
theorem bitLen_spec (n : Nat) (h : n < 2 ^ 64) : n < 2 ^ Lib.bitLen n ∧ (n ≠ 0 → 2 ^ (Lib.bitLen n - 1) ≤ n) := by
  by_cases h0 : n = 0
  · subst h0; rw [bitLen_zero]; simp
  · obtain ⟨_, h1, h2⟩ := Lib.bitLenAux_bounds 64 n h h0
    exact ⟨h2, fun _ => h1⟩

/-- so many bits are wanted -/
theorem fits_len {n b : Nat} (hb : 1 ≤ b) (hn64 : n < 2 ^ 64) : fits false b (n : Int) = decide (max (Lib.bitLen n) 1 ≤ b) := by
  obtain ⟨h1, h2⟩ := bitLen_spec n hn64
  unfold fits
  simp only [Bool.false_eq_true, if_false]
  rw [decide_eq_decide]
  have c : ((2 ^ b : Nat) : Int) = 2 ^ b := by simp
  constructor
  · intro h
    have hn : n < 2 ^ b := by omega
    by_cases h0 : n = 0
    · subst h0
      have : Lib.bitLen 0 ≤ b := by rw [bitLen_zero]; omega
      omega
    · have h3 := h2 h0
      have : Lib.bitLen n - 1 < b := by
        apply Classical.byContradiction
        intro hh
        have := Nat.pow_le_pow_right (show 0 < 2 by omega) (show b ≤ Lib.bitLen n - 1 by omega)
        omega
      omega
  · intro h
    have := Nat.pow_le_pow_right (show 0 < 2 by omega) (show Lib.bitLen n ≤ b by omega)
    omega

theorem fits_len' {z : Int} {n b : Nat} (hb : 1 ≤ b) (hn64 : n < 2 ^ 64) (hn : (n : Int) = if 0 ≤ z then z else -z - 1) : fits true b z = decide (Lib.bitLen n + 1 ≤ b) := by
  obtain ⟨c, rfl⟩ : ∃ c, b = c + 1 := ⟨b - 1, by omega⟩
  obtain ⟨h1, h2⟩ := bitLen_spec n hn64
  have hc : ((2 ^ c : Nat) : Int) = 2 ^ c := by simp
  unfold fits
  rw [Int.pow_succ]
  simp only [if_true]
  rw [decide_eq_decide]
  have key : Lib.bitLen n ≤ c ↔ n < 2 ^ c := by
    constructor
    · intro h
      have := Nat.pow_le_pow_right (show 0 < 2 by omega) h
      omega
    · intro h
      by_cases h0 : n = 0
      · subst h0
        have : Lib.bitLen 0 = 0 := bitLen_zero
        omega
      · have h3 := h2 h0
        have : Lib.bitLen n - 1 < c := by
          apply Classical.byContradiction
          intro hh
          have := Nat.pow_le_pow_right (show 0 < 2 by omega) (show c ≤ Lib.bitLen n - 1 by omega)
          omega
        omega
  rw [Nat.succ_le_succ_iff, key]
  split at hn <;> omega

end Go.Proofs.Ytnjodpgahbpiaaa.Leb
