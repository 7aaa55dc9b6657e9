/- Numbers of variable length, in plain Lean: what bytes are as a number, which number bytes begin with, and the fewest bytes of a number. No condition. -/
import Derived.Lib.Hide
namespace Go.Proofs.Ytnjodpgahbpiaaa.Leb

/-- the bytes' low seven bits, the first one lowest -/
def val : List UInt8 → Nat
  | [] => 0
  | c :: r => c.toNat % 128 + 128 * val r

/-- of how many bytes is the number with which l begins; 0: it does not end -/
def run : List UInt8 → Nat
  | [] => 0
  | c :: r => if c.toNat < 128 then 1 else if run r = 0 then 0 else run r + 1

def high (l : List UInt8) (k : Nat) : Prop := ∀ j c, j < k → l[j]? = some c → 128 ≤ c.toNat

theorem high_zero (l : List UInt8) : high l 0 := fun j c h _ => by omega
theorem high_succ {l : List UInt8} {k : Nat} {c : UInt8} (h : high l k) (hc : l[k]? = some c) (h1 : 128 ≤ c.toNat) : high l (k + 1) := by
  intro j d hj hd
  by_cases e : j = k
  · subst e; rw [hc] at hd; cases hd; exact h1
  · exact h j d (by omega) hd
theorem high_cons {l : List UInt8} {k : Nat} {c : UInt8} : high (c :: l) (k + 1) ↔ 128 ≤ c.toNat ∧ high l k := by
  constructor
  · intro h
    exact ⟨h 0 c (by omega) rfl, fun j d hj hd => h (j + 1) d (by omega) (by simpa using hd)⟩
  · intro ⟨h1, h2⟩ j d hj hd
    cases j with
    | zero => simp at hd; subst hd; exact h1
    | succ j => exact h2 j d (by omega) (by simpa using hd)

theorem run_eq {l : List UInt8} {k : Nat} {c : UInt8} (h : high l k) (hc : l[k]? = some c) (h1 : c.toNat < 128) : run l = k + 1 := by
  induction l generalizing k with
  | nil => simp at hc
  | cons d l ih =>
    cases k with
    | zero => simp at hc; subst hc; simp [run, h1]
    | succ k =>
      obtain ⟨h2, h3⟩ := high_cons.1 h
      have := ih h3 (by simpa using hc)
      simp only [run]; rw [if_neg (by omega), if_neg (by omega), this]

theorem run_end {l : List UInt8} (h : high l l.length) : run l = 0 := by
  induction l with
  | nil => rfl
  | cons d l ih =>
    obtain ⟨h2, h3⟩ := high_cons.1 h
    have := ih h3
    simp only [run]; rw [if_neg (by omega), if_pos this]

theorem run_gt {l : List UInt8} {k : Nat} (h : high l k) (hk : k ≤ l.length) : run l = 0 ∨ k < run l := by
  induction l generalizing k with
  | nil => left; rfl
  | cons d l ih =>
    cases k with
    | zero => omega
    | succ k =>
      obtain ⟨h2, h3⟩ := high_cons.1 h
      simp only [run]; rw [if_neg (by omega)]
      rcases ih h3 (by simpa using hk) with h | h
      · left; rw [if_pos h]
      · right; rw [if_neg (by omega)]; omega

theorem run_le (l : List UInt8) : run l ≤ l.length := by
  induction l with
  | nil => simp [run]
  | cons d l ih => simp only [run, List.length_cons]; split <;> (try split) <;> omega

theorem run_spec {l : List UInt8} {k : Nat} (h : run l = k + 1) : high l k ∧ ∃ c, l[k]? = some c ∧ c.toNat < 128 := by
  induction l generalizing k with
  | nil => simp [run] at h
  | cons d l ih =>
    simp only [run] at h
    split at h
    · obtain rfl : k = 0 := by omega
      exact ⟨high_zero _, d, rfl, ‹_›⟩
    · split at h
      · omega
      · obtain ⟨j, rfl⟩ : ∃ j, k = j + 1 := ⟨k - 1, by omega⟩
        obtain ⟨h1, c, h2, h3⟩ := ih (k := j) (by omega)
        exact ⟨high_cons.2 ⟨by omega, h1⟩, c, by simpa using h2, h3⟩

theorem val_lt (l : List UInt8) : val l < 128 ^ l.length := by
  induction l with
  | nil => simp [val]
  | cons c l ih => simp only [val, List.length_cons, Nat.pow_succ]; omega

theorem val_snoc (l : List UInt8) (c : UInt8) : val (l ++ [c]) = val l + 128 ^ l.length * (c.toNat % 128) := by
  induction l with
  | nil => simp [val]
  | cons d l ih =>
    simp only [List.cons_append, val, ih, List.length_cons, Nat.pow_succ, Nat.mul_add, Nat.mul_comm (128 ^ l.length) 128, Nat.mul_assoc]
    omega

theorem take_snoc {l : List UInt8} {k : Nat} {c : UInt8} (h : l[k]? = some c) : l.take (k + 1) = l.take k ++ [c] := by
  rw [List.take_add_one, h]; rfl

/-- the number that bytes are -/
def num (sg : Bool) (l : List UInt8) : Int := if sg = true ∧ 128 ^ l.length ≤ 2 * val l then (val l : Int) - 128 ^ l.length else val l

/-- the number fits so many bytes -/
def fit7 (sg : Bool) (L : Nat) (z : Int) : Prop := if sg = true then -(128 ^ L : Int) ≤ 2 * z ∧ 2 * z < 128 ^ L else 0 ≤ z ∧ z < 128 ^ L

theorem cast_pow (L : Nat) : ((128 ^ L : Nat) : Int) = (128 : Int) ^ L := by simp

theorem num_fit (sg : Bool) (l : List UInt8) : fit7 sg l.length (num sg l) := by
  have h := val_lt l
  have e := cast_pow l.length
  unfold fit7 num
  generalize (128 : Int) ^ l.length = p at *
  generalize 128 ^ l.length = q at *
  cases sg
  · simp; omega
  · simp only [true_and, if_true]
    split <;> omega

theorem fit7_succ (sg : Bool) (L : Nat) (z : Int) (hL : 1 ≤ L) : fit7 sg (L + 1) z ↔ fit7 sg L (z / 128) := by
  unfold fit7
  have e : (128 : Int) ^ (L + 1) = 128 * 128 ^ L := by rw [Int.pow_succ, Int.mul_comm]
  rw [e]
  have ev : sg = true → L ≠ 0 → ∃ r : Int, (128 : Int) ^ L = 2 * r := by
    intro _ h
    obtain ⟨k, rfl⟩ : ∃ k, L = k + 1 := ⟨L - 1, by omega⟩
    exact ⟨64 * 128 ^ k, by rw [Int.pow_succ, Int.mul_comm]; omega⟩
  cases sg
  · simp only [Bool.false_eq_true, if_false]
    generalize (128 : Int) ^ L = p at *
    omega
  · simp only [if_true]
    obtain ⟨r, hr⟩ := ev rfl (by omega)
    rw [hr]; omega

theorem fit7_one (sg : Bool) (z : Int) : fit7 sg 1 z ↔ if sg = true then -64 ≤ z ∧ z < 64 else 0 ≤ z ∧ z < 128 := by
  unfold fit7; cases sg <;> simp <;> omega

/-- the number of bytes behind a first one -/
theorem num_cons (sg : Bool) (c : UInt8) (l : List UInt8) (hl : l ≠ []) : num sg (c :: l) = (c.toNat % 128 : Nat) + 128 * num sg l := by
  have e : 128 ^ (l.length + 1) = 128 * 128 ^ l.length := by rw [Nat.pow_succ, Nat.mul_comm]
  have e' := cast_pow l.length
  have e2 : (128 : Int) ^ (l.length + 1) = 128 * 128 ^ l.length := by rw [Int.pow_succ, Int.mul_comm]
  have h := val_lt l
  have hp : l.length ≠ 0 := by simpa using hl
  obtain ⟨k, hk⟩ : ∃ k, l.length = k + 1 := ⟨l.length - 1, by omega⟩
  have e3 : 128 ^ l.length = 2 * (64 * 128 ^ k) := by rw [hk, Nat.pow_succ]; omega
  unfold num
  simp only [val, List.length_cons, e, e2]
  generalize (128 : Int) ^ l.length = p at *
  generalize 128 ^ l.length = q at *
  generalize 64 * 128 ^ k = r at *
  by_cases hs : sg = true
  · simp only [hs, true_and]
    by_cases h2 : q ≤ 2 * val l
    · rw [if_pos (by omega), if_pos h2]; omega
    · rw [if_neg (by omega), if_neg h2]; omega
  · simp only [hs, Bool.false_eq_true, false_and, if_false]; omega

theorem num_one (sg : Bool) (c : UInt8) : num sg [c] = if sg = true ∧ 64 ≤ c.toNat % 128 then ((c.toNat % 128 : Nat) : Int) - 128 else (c.toNat % 128 : Nat) := by
  unfold num
  cases sg
  · simp [val]
  · simp only [val, List.length_cons, List.length_nil, true_and]
    by_cases h : 64 ≤ c.toNat % 128
    · rw [if_pos (by omega), if_pos h]; omega
    · rw [if_neg (by omega), if_neg h]; omega

/-- the number of bytes ahead of a last one -/
theorem num_snoc (sg : Bool) (l : List UInt8) (c : UInt8) : num sg (l ++ [c]) = val l + 128 ^ l.length * num sg [c] := by
  induction l with
  | nil => simp [val]
  | cons d l ih =>
    rw [List.cons_append, num_cons sg d (l ++ [c]) (by simp), ih]
    simp only [val, List.length_cons, Int.pow_succ]
    generalize (128 : Int) ^ l.length = p
    generalize num sg [c] = q
    rw [Int.mul_add, ← Int.mul_assoc, Int.mul_comm 128 p]; omega

/-- so many bytes of a number, the lowest first -/
def digs : Nat → Int → List UInt8
  | 0, _ => []
  | 1, z => [UInt8.ofNat (z % 128).toNat]
  | n + 2, z => UInt8.ofNat ((z % 128).toNat + 128) :: digs (n + 1) (z / 128)

theorem digs_length (n : Nat) : ∀ z, (digs n z).length = n := by
  induction n with
  | zero => intro z; rfl
  | succ n ih =>
    intro z
    cases n with
    | zero => rfl
    | succ n => simp [digs, ih]

theorem toNat_lo (z : Int) : (UInt8.ofNat (z % 128).toNat).toNat = (z % 128).toNat := by
  simp; omega
theorem toNat_hi (z : Int) : (UInt8.ofNat ((z % 128).toNat + 128)).toNat = (z % 128).toNat + 128 := by
  simp; omega

theorem digs_run (n : Nat) : ∀ (z : Int) (r : List UInt8), run (digs (n + 1) z ++ r) = n + 1 := by
  induction n with
  | zero => intro z r; simp only [digs, List.cons_append, List.nil_append, run, toNat_lo]; rw [if_pos (by omega)]
  | succ n ih => intro z r; simp only [digs, List.cons_append, run, toNat_hi, ih]; rw [if_neg (by omega), if_neg (by omega)]

theorem digs_num (sg : Bool) (n : Nat) : ∀ z, fit7 sg (n + 1) z → num sg (digs (n + 1) z) = z := by
  induction n with
  | zero =>
    intro z h
    rw [fit7_one] at h
    simp only [digs, num_one, toNat_lo]
    cases sg
    · simp at h ⊢; omega
    · simp at h ⊢; split <;> omega
  | succ n ih =>
    intro z h
    rw [fit7_succ _ _ _ (by omega)] at h
    have hne : digs (n + 1) (z / 128) ≠ [] := by intro e; have := digs_length (n + 1) (z / 128); rw [e] at this; simp at this
    simp only [digs]
    rw [num_cons _ _ _ hne, ih _ h, toNat_hi]
    omega

/-- small enough for one byte -/
def small (sg : Bool) (z : Int) : Bool := if sg then decide (-64 ≤ z ∧ z < 64) else decide (z < 128)

/-- the fewest bytes of a number (at most so many) -/
def ap (sg : Bool) : Nat → Int → List UInt8
  | 0, _ => []
  | f + 1, z => if small sg z then [UInt8.ofNat (z % 128).toNat] else UInt8.ofNat ((z % 128).toNat + 128) :: ap sg f (z / 128)

/-- how many these are -/
def need (sg : Bool) : Nat → Int → Nat
  | 0, _ => 0
  | f + 1, z => if small sg z then 1 else need sg f (z / 128) + 1

theorem small_iff {sg : Bool} {z : Int} (h : sg = true ∨ 0 ≤ z) : small sg z = true ↔ fit7 sg 1 z := by
  rw [fit7_one]; unfold small; cases sg
  · simp at h ⊢; omega
  · simp

theorem need_pos (sg : Bool) (f : Nat) (z : Int) : 1 ≤ need sg (f + 1) z := by simp only [need]; split <;> omega
theorem need_le (sg : Bool) (f : Nat) : ∀ z, need sg f z ≤ f := by
  induction f with
  | zero => intro z; simp [need]
  | succ f ih => intro z; simp only [need]; have := ih (z / 128); split <;> omega

theorem fit7_nonneg {sg : Bool} {L : Nat} {z : Int} (h : fit7 sg L z) : sg = true ∨ 0 ≤ z := by
  unfold fit7 at h; cases sg
  · right; simp at h; omega
  · left; rfl

theorem ap_digs (sg : Bool) (f : Nat) : ∀ z, fit7 sg (f + 1) z → ap sg (f + 1) z = digs (need sg (f + 1) z) z := by
  induction f with
  | zero =>
    intro z h
    have hs := (small_iff (fit7_nonneg h)).2 h
    simp only [ap, need, hs, if_true, digs]
  | succ f ih =>
    intro z h
    rw [fit7_succ _ _ _ (by omega)] at h
    rw [ap, need]
    split
    · rfl
    · rw [ih _ h]
      obtain ⟨k, hk⟩ : ∃ k, need sg (f + 1) (z / 128) = k + 1 := ⟨need sg (f + 1) (z / 128) - 1, by have := need_pos sg f (z / 128); omega⟩
      rw [hk]; rfl

theorem need_fit (sg : Bool) (f : Nat) : ∀ z, fit7 sg (f + 1) z → fit7 sg (need sg (f + 1) z) z := by
  induction f with
  | zero =>
    intro z h
    have hs := (small_iff (fit7_nonneg h)).2 h
    simpa only [need, hs, if_true] using h
  | succ f ih =>
    intro z h
    have hn := fit7_nonneg h
    rw [fit7_succ _ _ _ (by omega)] at h
    rw [need]
    split
    · exact (small_iff hn).1 ‹_›
    · rw [fit7_succ _ _ _ (need_pos _ _ _)]; exact ih _ h

theorem need_min (sg : Bool) (f : Nat) : ∀ (n : Nat) z, (sg = true ∨ 0 ≤ z) → 1 ≤ n → n < need sg f z → ¬ fit7 sg n z := by
  induction f with
  | zero => intro n z _ h1 h2; simp [need] at h2
  | succ f ih =>
    intro n z hz h1 h2
    rw [need] at h2
    split at h2
    · omega
    · intro hf
      have hs : ¬ fit7 sg 1 z := fun h => ‹¬ small sg z = true› ((small_iff hz).2 h)
      by_cases e : n = 1
      · subst e; exact hs hf
      · obtain ⟨k, rfl⟩ : ∃ k, n = k + 1 := ⟨n - 1, by omega⟩
        rw [fit7_succ _ _ _ (by omega)] at hf
        exact ih k _ (by rcases hz with h | h; exact .inl h; right; omega) (by omega) (by omega) hf

/-- a number of so many bits -/
def fits (sg : Bool) (b : Nat) (z : Int) : Bool := if sg then decide (-(2 ^ b : Int) ≤ 2 * z ∧ 2 * z < 2 ^ b) else decide (z < 2 ^ b)

/-- THE NUMBER with which bytes begin, of so many bits, and its bytes -/
def tk (sg : Bool) (l : List UInt8) (bits : Int) : Option (Int × Nat) :=
  if bits < 1 ∨ 64 < bits ∨ run l = 0 ∨ (bits + 6) / 7 < run l then none
  else if fits sg bits.toNat (num sg (l.take (run l))) then some (num sg (l.take (run l)), run l) else none

theorem tk_bits {sg : Bool} {l : List UInt8} {bits : Int} (h : bits < 1 ∨ 64 < bits) : tk sg l bits = none := by
  unfold tk; rw [if_pos (by omega)]

/-- it does not end -/
theorem tk_end {sg : Bool} {l : List UInt8} {bits : Int} (h : high l l.length) : tk sg l bits = none := by
  unfold tk; rw [if_pos (by right; right; left; exact run_end h)]

/-- it is too long -/
theorem tk_long {sg : Bool} {l : List UInt8} {bits : Int} {k : Nat} (h : high l k) (hk : k ≤ l.length) (hb : bits ≤ 7 * k) : tk sg l bits = none := by
  unfold tk; rw [if_pos]; rcases run_gt h hk with h | h
  · omega
  · omega

/-- the number of a last byte at a place -/
theorem tk_at {sg : Bool} {l : List UInt8} {bits : Int} {k : Nat} {c : UInt8} (h0 : 1 ≤ bits) (h1 : bits ≤ 64) (h : high l k) (hc : l[k]? = some c) (h2 : c.toNat < 128) (hb : 7 * k < bits) :
    tk sg l bits = if fits sg bits.toNat (val (l.take k) + 128 ^ k * num sg [c]) then some (val (l.take k) + 128 ^ k * num sg [c], k + 1) else none := by
  have hr := run_eq h hc h2
  have hlt : k < l.length := (List.getElem?_eq_some_iff.1 hc).1
  have hn : num sg (l.take (run l)) = val (l.take k) + 128 ^ k * num sg [c] := by
    rw [hr, take_snoc hc, num_snoc]; simp [Nat.min_eq_left (Nat.le_of_lt hlt)]
  unfold tk
  rw [if_neg (by omega), hn, hr]

theorem pow128 (k : Nat) : (128 : Int) ^ k = 2 ^ (7 * k) := by rw [Int.pow_mul]; rfl

/-- far from the last bit every byte may be the last -/
theorem fits_far {sg : Bool} {b k : Nat} {v x : Int} (hv : 0 ≤ v) (hv2 : v < 128 ^ k) (hx : fit7 sg 1 x) (hb : 7 * (k + 1) ≤ b) : fits sg b (v + 128 ^ k * x) = true := by
  obtain ⟨d, rfl⟩ : ∃ d, b = 7 * (k + 1) + d := ⟨b - 7 * (k + 1), by omega⟩
  rw [fit7_one] at hx
  have hp : (0 : Int) < 128 ^ k := by omega
  have e : (2 : Int) ^ (7 * (k + 1) + d) = 128 ^ k * (128 * 2 ^ d) := by rw [Int.pow_add, ← pow128, Int.pow_succ, Int.mul_assoc]
  have hd : (1 : Int) ≤ 2 ^ d := by have := Int.pow_pos (n := 2) (m := d) (by omega); omega
  unfold fits
  rw [e]
  generalize (128 : Int) ^ k = p at *
  generalize (2 : Int) ^ d = q at *
  cases sg
  · simp only [Bool.false_eq_true, if_false, decide_eq_true_eq] at hx ⊢
    have h1 : p * x ≤ p * 127 := Int.mul_le_mul_of_nonneg_left (by omega) (by omega)
    have h2 : p * 128 ≤ p * (128 * q) := Int.mul_le_mul_of_nonneg_left (by omega) (by omega)
    omega
  · simp only [if_true, decide_eq_true_eq] at hx ⊢
    have h1 : p * x ≤ p * 63 := Int.mul_le_mul_of_nonneg_left (by omega) (by omega)
    have h3 : p * (-64) ≤ p * x := Int.mul_le_mul_of_nonneg_left (by omega) (by omega)
    have h2 : p * 128 ≤ p * (128 * q) := Int.mul_le_mul_of_nonneg_left (by omega) (by omega)
    omega

/-- near it, just the bits that count decide -/
theorem fits_near {sg : Bool} {k d : Nat} {v x : Int} (hv : 0 ≤ v) (hv2 : v < 128 ^ k) (hx : fit7 sg 1 x) (hd : 1 ≤ d) : fits sg (7 * k + d) (v + 128 ^ k * x) = fits sg d x := by
  have e : (2 : Int) ^ (7 * k + d) = 128 ^ k * 2 ^ d := by rw [Int.pow_add, ← pow128]
  obtain ⟨f, rfl⟩ : ∃ f, d = f + 1 := ⟨d - 1, by omega⟩
  rw [fit7_one] at hx
  unfold fits
  rw [e, Int.pow_succ, Int.mul_comm _ 2]
  generalize (128 : Int) ^ k = p at *
  generalize (2 : Int) ^ f = q at *
  have hp : 0 < p := by omega
  cases sg
  · simp only [Bool.false_eq_true, if_false]
    rw [decide_eq_decide]
    constructor
    · intro h
      apply Int.lt_of_mul_lt_mul_left (a := p) _ (by omega)
      omega
    · intro h
      have : p * (x + 1) ≤ p * (2 * q) := Int.mul_le_mul_of_nonneg_left (by omega) (by omega)
      rw [Int.mul_add] at this; omega
  · simp only [if_true]
    rw [decide_eq_decide]
    have e1 : p * (2 * q) = 2 * (p * q) := by rw [← Int.mul_assoc, Int.mul_comm p 2, Int.mul_assoc]
    rw [e1]
    constructor
    · intro ⟨h1, h2⟩
      have a1 : x < q := by
        apply Int.lt_of_mul_lt_mul_left (a := p) _ (by omega)
        omega
      have a2 : -q ≤ x := by
        apply Int.le_of_lt_add_one
        apply Int.lt_of_mul_lt_mul_left (a := p) _ (by omega)
        rw [Int.mul_add, Int.mul_neg]; omega
      omega
    · intro ⟨h1, h2⟩
      have b1 : p * (x + 1) ≤ p * q := Int.mul_le_mul_of_nonneg_left (by omega) (by omega)
      have b2 : p * (-q) ≤ p * x := Int.mul_le_mul_of_nonneg_left (by omega) (by omega)
      rw [Int.mul_add] at b1; rw [Int.mul_neg] at b2; omega

theorem pow9 {k : Nat} (h : k ≤ 9) : 128 ^ k ≤ 9223372036854775808 := by
  have : 128 ^ k ≤ 128 ^ 9 := Nat.pow_le_pow_right (by omega) h
  have e : 128 ^ 9 = 9223372036854775808 := by decide
  omega

theorem val_take_lt {l : List UInt8} {k : Nat} (h : k ≤ l.length) : val (l.take k) < 128 ^ k := by
  have := val_lt (l.take k)
  rwa [List.length_take, Nat.min_eq_left h] at this

theorem val_take_lt' {l : List UInt8} {k : Nat} (h : k ≤ l.length) : ((val (l.take k) : Nat) : Int) < 128 ^ k := by
  have := val_take_lt h; rw [← cast_pow]; omega

theorem num_fit1 (sg : Bool) (c : UInt8) : fit7 sg 1 (num sg [c]) := num_fit sg [c]

theorem tk_near {sg : Bool} {l : List UInt8} {bits : Int} {k : Nat} {c : UInt8} (h0 : 1 ≤ bits) (h1 : bits ≤ 64) (h : high l k) (hc : l[k]? = some c) (h2 : c.toNat < 128) (hb : 7 * k < bits) :
    tk sg l bits = if fits sg (bits - 7 * k).toNat (num sg [c]) then some (val (l.take k) + 128 ^ k * num sg [c], k + 1) else none := by
  have hlt : k < l.length := (List.getElem?_eq_some_iff.1 hc).1
  rw [tk_at h0 h1 h hc h2 hb, show bits.toNat = 7 * k + (bits - 7 * k).toNat by omega, fits_near (by omega) (val_take_lt' (by omega)) (num_fit1 sg c) (by omega)]

theorem tk_far {sg : Bool} {l : List UInt8} {bits : Int} {k : Nat} {c : UInt8} (h1 : bits ≤ 64) (h : high l k) (hc : l[k]? = some c) (h2 : c.toNat < 128) (hb : 7 * (k + 1) ≤ bits) :
    tk sg l bits = some (val (l.take k) + 128 ^ k * num sg [c], k + 1) := by
  have hlt : k < l.length := (List.getElem?_eq_some_iff.1 hc).1
  rw [tk_at (by omega) h1 h hc h2 (by omega), if_pos (fits_far (by omega) (val_take_lt' (by omega)) (num_fit1 sg c) (by omega))]

theorem num_low (c : UInt8) (h : c.toNat < 128) : num false [c] = c.toNat := by rw [num_one]; simp; omega
theorem num_low' (c : UInt8) (h : c.toNat < 128) : num true [c] = if (c.toNat : Int) < 64 then (c.toNat : Int) else c.toNat - 128 := by
  rw [num_one, Nat.mod_eq_of_lt h]
  by_cases h2 : c.toNat < 64
  · rw [if_neg (by omega), if_pos (by omega)]
  · rw [if_pos ⟨rfl, by omega⟩, if_neg (by omega)]

theorem val_take_succ {l : List UInt8} {k : Nat} {c : UInt8} (hc : l[k]? = some c) : val (l.take (k + 1)) = val (l.take k) + 128 ^ k * (c.toNat % 128) := by
  have hlt : k < l.length := (List.getElem?_eq_some_iff.1 hc).1
  rw [take_snoc hc, val_snoc, List.length_take, Nat.min_eq_left (by omega)]

theorem fits_one {z : Int} {d : Nat} (h : d ≤ 1) (hf : fits false d z = true) : z < 2 := by
  unfold fits at hf
  have : (2 : Int) ^ d ≤ 2 ^ 1 := by
    match d, h with
    | 0, _ => simp
    | 1, _ => simp
  simp at hf; omega

theorem fits_one' {z : Int} {d : Nat} (h : d ≤ 1) (hf : fits true d z = true) : -1 ≤ z ∧ z < 1 := by
  unfold fits at hf
  match d, h with
  | 0, _ => simp at hf; omega
  | 1, _ => simp at hf; omega

end Go.Proofs.Ytnjodpgahbpiaaa.Leb
