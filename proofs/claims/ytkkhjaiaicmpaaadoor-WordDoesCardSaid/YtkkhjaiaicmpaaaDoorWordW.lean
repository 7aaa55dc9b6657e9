/- The document's counts, quotients and compares are those of the code: plain laws. No condition. -/
import Derived.Test.YtkkhjaiaicmpaaaDoorWordK
namespace Go.Proofs.YtkkhjaiaicmpaaaDoor
open Go Go.RowKit
set_option linter.unusedVariables false
set_option linter.unusedSimpArgs false
namespace Wr
theorem lead {a n : Nat} (ha : a < 2 ^ n) : ∀ c, c ≤ n → (∀ j, j < c → bit a (n - 1 - j) = 0) → a < 2 ^ (n - c)
  | 0, _, _ => ha
  | c + 1, hc, h => by
    have h1 := lead ha c (by omega) (fun j hj => h j (by omega))
    have h2 := h c (by omega)
    rw [show n - c = (n - (c + 1)) + 1 by omega] at h1
    rw [show n - 1 - c = n - (c + 1) by omega] at h2
    exact (top_bit h1).1 h2
theorem count0 {a n c : Nat} (hn : n ≤ 64) (ha : a < 2 ^ n) (hc : c ≤ n) (hl : ∀ j, j < c → bit a (at_ 0 n j) = 0) (h1 : c < n → bit a (at_ 0 n c) = 1) : (c : Int) = Wd.cnt 0 (a : Int) n := by
  have h := lead ha c hc hl
  show (c : Int) = (n : Int) - (Lib.bitLen ((a : Int).toNat) : Int)
  rw [Int.toNat_natCast]
  by_cases e : c = n
  · subst e
    rw [Nat.sub_self] at h
    have : a = 0 := by omega
    subst this
    have : Lib.bitLen 0 = 0 := by decide +kernel
    omega
  · have hb := h1 (by omega)
    have hb : bit a (n - 1 - c) = 1 := hb
    rw [show n - c = (n - 1 - c) + 1 by omega] at h
    have := bitLen_top (m := n - 1 - c) (by omega) ((top_bit h).2 hb) h
    omega
theorem zero_of {a n : Nat} (ha : a < 2 ^ n) (h : ∀ j, j < n → bit a j = 0) : a = 0 := by
  have := lead ha n (Nat.le_refl _) (fun j hj => h _ (by omega))
  rw [Nat.sub_self] at this; omega
theorem count1 {a n c : Nat} (hn : n ≤ 64) (ha : a < 2 ^ n) (hc : c ≤ n) (hl : ∀ j, j < c → bit a (at_ 1 n j) = 0) (h1 : c < n → bit a (at_ 1 n c) = 1) : (c : Int) = Wd.cnt 1 (a : Int) n := by
  show (c : Int) = min (Lib.ctz 64 ((a : Int).toNat) : Int) n
  rw [Int.toNat_natCast]
  by_cases e : c = n
  · subst e
    have := zero_of ha hl
    subst this
    have : Lib.ctz 64 0 = 64 := by decide +kernel
    omega
  · have hc1 := h1 (by omega)
    have hc1 : bit a c = 1 := hc1
    have h0 : a ≠ 0 := by
      intro h; subst h
      unfold bit at hc1
      rw [Nat.zero_div] at hc1
      exact absurd hc1 (by decide)
    have := ctz_char c 64 a (by omega) hl hc1
    have : Lib.ctz 64 a = c := by unfold Lib.ctz; rw [if_neg h0]; exact this
    omega
theorem count2 {a n : Nat} (hn : n ≤ 64) (ha : a < 2 ^ n) : (popc a n : Int) = Wd.cnt 2 (a : Int) n := by
  show (popc a n : Int) = Wd.ones (a : Int)
  have h64 : a < 2 ^ 64 := Nat.lt_of_lt_of_le ha (Nat.pow_le_pow_right (by omega) hn)
  rw [Wb.ones_pop (by rw [e64] at h64; exact h64), ← popc_aux]
  have := popc_more ha (64 - n)
  rw [show n + (64 - n) = 64 by omega] at this
  rw [this]
theorem low32 (a : Nat) : Wd.u64 (Wd.u32 (a : Int)) = ((a % 4294967296 : Nat) : Int) := by rw [Wd.u64u32]; omega
theorem neg_pos {a n : Nat} (hn : 0 < n) (ha : a < 2 ^ n) (h : neg a n = true) : 0 < mag a n := by
  unfold neg at h
  have h := of_decide_eq_true h
  unfold mag
  rw [if_pos h]; omega
theorem i32m (a : Nat) : Wd.i32 (a : Int) = Wd.i32 ((a % 4294967296 : Nat) : Int) := by
  unfold Wd.i32
  rw [Wd.i32c (a := (a : Int)) (c := ((a % 4294967296 : Nat) : Int)) (by omega)]
theorem bel32 (a b : Nat) : below (a % 4294967296) (b % 4294967296) 32 = decide (Wd.i32 (a : Int) < Wd.i32 (b : Int)) := by
  rw [i32m a, i32m b]
  exact below_lt (sg32 (by omega)) (sg32 (by omega)) (neg_pos (by decide) (by rw [e32]; omega)) (neg_pos (by decide) (by rw [e32]; omega))
theorem bel64 {a b : Nat} (ha : a < 18446744073709551616) (hb : b < 18446744073709551616) : below a b 64 = decide (Wd.i64 (a : Int) < Wd.i64 (b : Int)) :=
  below_lt (sg64 ha) (sg64 hb) (neg_pos (by decide) (by rw [e64]; omega)) (neg_pos (by decide) (by rw [e64]; omega))
theorem mag_le {a n : Nat} (hn : 0 < n) (ha : a < 2 ^ n) : mag a n ≤ 2 ^ (n - 1) ∧ (mag a n = 2 ^ (n - 1) → neg a n = true) := by
  have e : 2 ^ n = 2 ^ (n - 1) + 2 ^ (n - 1) := by
    obtain ⟨m, rfl⟩ : ∃ m, n = m + 1 := ⟨n - 1, by omega⟩
    rw [Nat.pow_succ, Nat.add_sub_cancel]; omega
  unfold mag neg
  rw [e] at ha ⊢
  generalize 2 ^ (n - 1) = p at *
  split
  · rename_i h; exact ⟨by omega, fun _ => decide_eq_true h⟩
  · rename_i h; exact ⟨by omega, fun e => absurd e (by omega)⟩
/-- quotient and rest of signed numbers by what they are away from 0 -/
theorem tq {s t : Int} {na nb : Bool} {x y : Nat} (hs : s = if na = true then -(x : Int) else (x : Int)) (ht : t = if nb = true then -(y : Int) else (y : Int)) :
    s.tdiv t = (if na = nb then ((x / y : Nat) : Int) else -((x / y : Nat) : Int)) ∧ s.tmod t = (if na = true then -((x % y : Nat) : Int) else ((x % y : Nat) : Int)) := by
  have h1 : (x : Int).tdiv (y : Int) = ((x / y : Nat) : Int) := by rw [Int.ofNat_tdiv]
  have h2 : (x : Int).tmod (y : Int) = ((x % y : Nat) : Int) := by rw [Int.ofNat_tmod]
  subst hs ht
  cases na <;> cases nb <;> simp [Int.neg_tdiv, Int.tdiv_neg, Int.neg_tmod, Int.tmod_neg, h1, h2]
theorem over {n x y : Nat} {na nb : Bool} {s t : Int} (hy : 0 < y) (hx : x ≤ 2 ^ (n - 1)) (hxn : x = 2 ^ (n - 1) → na = true) (hs : s = if na = true then -(x : Int) else (x : Int)) (ht : t = if nb = true then -(y : Int) else (y : Int)) :
    (t = -1 ∧ s = -((2 ^ (n - 1) : Nat) : Int)) ↔ (na = nb ∧ x / y = 2 ^ (n - 1)) := by
  have hp : 0 < 2 ^ (n - 1) := Nat.two_pow_pos _
  generalize 2 ^ (n - 1) = p at *
  have hd : x / y = p ↔ (y = 1 ∧ x = p) := by
    constructor
    · intro h
      have h1 := Nat.div_mul_le_self x y
      rw [h] at h1
      have h2 : y ≤ 1 := by
        rcases Nat.lt_or_ge 1 y with h3 | h3
        · have := Nat.mul_le_mul_left p h3; omega
        · exact h3
      have h3 : y = 1 := by omega
      subst h3
      rw [Nat.div_one] at h
      exact ⟨rfl, h⟩
    · rintro ⟨rfl, rfl⟩; exact Nat.div_one _
  rw [hd]
  subst hs ht
  cases na <;> cases nb <;> simp at hxn ⊢ <;> omega
theorem wm {M x : Int} (hM : M ∣ 18446744073709551616) : IntKind.u64.wrap x % M = x % M := by rw [Wd.w64]; exact Int.emod_emod_of_dvd _ hM
theorem wim {M x : Int} (hM : M ∣ 18446744073709551616) : IntKind.u64.wrap (IntKind.i64.wrap x) % M = x % M := by
  rw [wm hM]
  obtain ⟨c, hc⟩ := hM
  have e : ∃ y, IntKind.i64.wrap x = x + 18446744073709551616 * y := by
    rw [Wd.wi64]; split
    · exact ⟨-(x / 18446744073709551616), by omega⟩
    · exact ⟨-(x / 18446744073709551616) - 1, by omega⟩
  obtain ⟨y, hy⟩ := e
  rw [hy, hc, Int.mul_assoc, Int.add_mul_emod_self_left]
theorem modn {x n : Nat} (h : x < 2 ^ n) : (x : Int) % ((2 ^ n : Nat) : Int) = (x : Int) := by
  rw [← Int.natCast_emod, Nat.mod_eq_of_lt h]
theorem pair {x y : Int} {t : Int} (h : x = y) : ((x, t) : Int × Int) = (y, t) := by rw [h]
theorem dv0 {s t mn : Int} {a b : Int} (h : b ≠ 0) : Wd.dv 0 s t a b mn = if t = -1 ∧ s = mn then (0, 6) else (IntKind.u64.wrap (IntKind.i64.wrap (if t = -1 then 0 - s else s.tdiv t)), 0) := by
  by_cases h1 : t = -1 <;> by_cases h2 : s = mn <;> simp [Wd.dv, h, h1, h2]
theorem dv2 {s t mn : Int} {a b : Int} (h : b ≠ 0) : Wd.dv 2 s t a b mn = if t = -1 then (0, 0) else (IntKind.u64.wrap (s.tmod t), 0) := by
  by_cases h1 : t = -1 <;> simp [Wd.dv, h, h1]
theorem dv1 {s t mn : Int} {a b : Int} (h : b ≠ 0) : Wd.dv 1 s t a b mn = (a / b, 0) := by simp [Wd.dv, h]
theorem dv3 {s t mn : Int} {a b : Int} (h : b ≠ 0) : Wd.dv 3 s t a b mn = (a % b, 0) := by simp [Wd.dv, h]
theorem dvv0 {a b n : Nat} (h : b ≠ 0) : dvv 0 a b n = if neg a n = neg b n then (if mag a n / mag b n = 2 ^ (n - 1) then (0, 6) else (((mag a n / mag b n : Nat) : Int), 0)) else ((0 - ((mag a n / mag b n : Nat) : Int)) % (2 ^ n : Nat), 0) := by
  unfold dvv; rw [if_neg h]; rfl
theorem dvv2 {a b n : Nat} (h : b ≠ 0) : dvv 2 a b n = ((if neg a n = true then (0 - ((mag a n % mag b n : Nat) : Int)) else ((mag a n % mag b n : Nat) : Int)) % (2 ^ n : Nat), 0) := by
  unfold dvv; rw [if_neg h]; rfl
theorem dvv1 {a b n : Nat} (h : b ≠ 0) : dvv 1 a b n = (((a / b : Nat) : Int), 0) := by unfold dvv; rw [if_neg h]; rfl
theorem dvv3 {a b n : Nat} (h : b ≠ 0) : dvv 3 a b n = (((a % b : Nat) : Int), 0) := by unfold dvv; rw [if_neg h]; rfl
/-- the document's quotients and rests -/
theorem dv_same {kd n a b : Nat} {s t : Int} (hn : 0 < n) (hM : ((2 ^ n : Nat) : Int) ∣ 18446744073709551616) (ha : a < 2 ^ n) (hb : b < 2 ^ n) (hs : s = if neg a n = true then -((mag a n : Nat) : Int) else ((mag a n : Nat) : Int)) (ht : t = if neg b n = true then -((mag b n : Nat) : Int) else ((mag b n : Nat) : Int)) (hk : kd < 4) :
    dvv kd a b n = ((Wd.dv kd s t a b (-((2 ^ (n - 1) : Nat) : Int))).1 % ((2 ^ n : Nat) : Int), (Wd.dv kd s t a b (-((2 ^ (n - 1) : Nat) : Int))).2) := by
  obtain ⟨hma, hmn⟩ := mag_le hn ha
  have hp : 2 ^ (n - 1) < 2 ^ n := Nat.pow_lt_pow_right (by omega) (by omega)
  by_cases hb0 : b = 0
  · subst hb0
    unfold dvv Wd.dv
    rw [if_pos rfl, if_pos (by rfl)]
    exact pair (Int.zero_emod _).symm
  have hbi : (b : Int) ≠ 0 := by omega
  have hmb := mag_pos hb0 hb
  obtain ⟨hq, hr⟩ := tq hs ht
  have hov := over hmb hma hmn hs ht
  rcases (by omega : kd = 0 ∨ kd = 1 ∨ kd = 2 ∨ kd = 3) with rfl | rfl | rfl | rfl
  · rw [dvv0 hb0, show ((0 : Nat) : Int) = 0 from rfl, dv0 hbi]
    by_cases ho : t = -1 ∧ s = -((2 ^ (n - 1) : Nat) : Int)
    · obtain ⟨h1, h2⟩ := hov.1 ho
      rw [if_pos h1, if_pos h2, if_pos ho]
      exact pair (Int.zero_emod _).symm
    · rw [if_neg ho]
      have hz : (if t = -1 then 0 - s else s.tdiv t) = s.tdiv t := by
        split
        · rename_i h1; rw [h1, Int.tdiv_neg, Int.tdiv_one]; omega
        · rfl
      rw [hz, wim hM, hq]
      have hqd := Nat.div_le_self (mag a n) (mag b n)
      by_cases he : neg a n = neg b n
      · rw [if_pos he, if_pos he, if_neg (fun h => ho (hov.2 ⟨he, h⟩)), modn (by omega)]
      · rw [if_neg he, if_neg he, Int.zero_sub]
  · rw [dvv1 hb0, show ((1 : Nat) : Int) = 1 from rfl, dv1 hbi]
    have := Nat.div_le_self a b
    rw [← Int.natCast_ediv, modn (by omega)]
  · rw [dvv2 hb0, show ((2 : Nat) : Int) = 2 from rfl, dv2 hbi]
    by_cases h1 : t = -1
    · rw [if_pos h1]
      have h1b : mag b n = 1 := by
        rw [ht] at h1
        split at h1 <;> omega
      rw [h1b, Nat.mod_one]
      apply pair
      split <;> rfl
    · rw [if_neg h1, wm hM, hr]
      apply pair
      congr 1
      split <;> omega
  · rw [dvv3 hb0, show ((3 : Nat) : Int) = 3 from rfl, dv3 hbi]
    have := Nat.mod_lt a (show 0 < b by omega)
    rw [← Int.natCast_emod, modn (by omega)]
end Wr
namespace Wd
theorem modN {b n : Nat} (hn : 0 < n) : min ((b : Int) % (n : Int)).toNat n = b % n := by
  have := Nat.mod_lt b hn
  rw [← Int.natCast_emod, Int.toNat_natCast]; omega
theorem pl_op {k ks : IntKind} (hw : ∀ x, k.wrap x = x % ((2 ^ k.bits : Nat) : Int)) (hks : ks.bits = k.bits) (hs : ∀ X : Nat, X < 2 ^ k.bits → ks.wrap (X : Int) = (BitVec.ofNat k.bits X).toInt) (h0 : 0 < k.bits) {kd a b : Nat} (hk : kd < 8) (ha : a < 2 ^ k.bits) (hb : b < 2 ^ k.bits) :
    pl k ks (k.bits : Int) ((7 + kd : Nat) : Int) a b = Tv (Wr.opB kd (BitVec.ofNat k.bits a) b (BitVec.ofNat k.bits b)) := by
  have hm := Nat.mod_lt b h0
  have hbi : (b : Int) % (k.bits : Int) = ((b % k.bits : Nat) : Int) := by rw [Int.natCast_emod]
  rcases (by omega : kd = 0 ∨ kd = 1 ∨ kd = 2 ∨ kd = 3 ∨ kd = 4 ∨ kd = 5 ∨ kd = 6 ∨ kd = 7) with rfl | rfl | rfl | rfl | rfl | rfl | rfl | rfl
  · show bits .and k a b = Tv (_ &&& _)
    rw [andB hw, BvN, BvN]
  · show bits .or k a b = Tv (_ ||| _)
    rw [orB hw, BvN, BvN]
  · show bits .xor k a b = Tv (_ ^^^ _)
    rw [xorB hw, BvN, BvN]
  · show k.wrap ((a : Int) * 2 ^ (min ((b : Int) % (k.bits : Int)).toNat k.bits)) = Tv ((BitVec.ofNat k.bits a) <<< (b % k.bits))
    rw [modN h0, shlB hw ha]
  · show k.wrap (ks.wrap (a : Int) / 2 ^ (min ((b : Int) % (k.bits : Int)).toNat ks.bits)) = Tv (BitVec.sshiftRight (BitVec.ofNat k.bits a) (b % k.bits))
    rw [hks, modN h0, hs a ha, sshrB hw]
  · show (a : Int) / 2 ^ (min ((b : Int) % (k.bits : Int)).toNat k.bits) = Tv ((BitVec.ofNat k.bits a) >>> (b % k.bits))
    rw [modN h0, shrB ha]
  · show rot k (k.bits : Int) a ((b : Int) % (k.bits : Int)) = Tv (BitVec.rotateLeft (BitVec.ofNat k.bits a) (b % k.bits))
    rw [hbi, rotB hw (Int.natCast_nonneg _) (by omega) (Int.natCast_nonneg _) (by omega), BvN, Int.toNat_natCast]
  · show rot k (k.bits : Int) a (((k.bits : Int) - (b : Int) % (k.bits : Int)) % (k.bits : Int)) = Tv (BitVec.rotateLeft (BitVec.ofNat k.bits a) ((k.bits - b % k.bits) % k.bits))
    have e : ((k.bits : Int) - (b : Int) % (k.bits : Int)) % (k.bits : Int) = (((k.bits - b % k.bits) % k.bits : Nat) : Int) := by
      rw [hbi, ← Int.natCast_sub (Nat.le_of_lt hm), ← Int.natCast_emod]
    have hl := Nat.mod_lt (k.bits - b % k.bits) h0
    rw [e, rotB hw (Int.natCast_nonneg _) (by omega) (Int.natCast_nonneg _) (by omega), BvN, Int.toNat_natCast]
theorem hs32 (X : Nat) (h : X < 2 ^ IntKind.u32.bits) : IntKind.i32.wrap (X : Int) = (BitVec.ofNat IntKind.u32.bits X).toInt := by
  have h : X < 4294967296 := h
  show _ = (BitVec.ofNat 32 X).toInt
  rw [BitVec.toInt_eq_toNat_cond, BitVec.toNat_ofNat, Nat.mod_eq_of_lt h, wi32, Wr.e32]
  split <;> split <;> omega
theorem hs64 (X : Nat) (h : X < 2 ^ IntKind.u64.bits) : IntKind.i64.wrap (X : Int) = (BitVec.ofNat IntKind.u64.bits X).toInt := by
  have h : X < 18446744073709551616 := h
  show _ = (BitVec.ofNat 64 X).toInt
  rw [BitVec.toInt_eq_toNat_cond, BitVec.toNat_ofNat, Nat.mod_eq_of_lt h, wi64, Wr.e64]
  split <;> split <;> omega
theorem u32N (a : Nat) : u32 (a : Int) = ((a % 4294967296 : Nat) : Int) := by rw [u32e]; omega
end Wd
namespace Wr
theorem bits32 {kd : Nat} (hk : kd < 8) (a b : Nat) : with_ (rows kd (a % 4294967296) (b % 4294967296) 32 32) = Wd.p32 ((7 + kd : Nat) : Int) a b := by
  rw [rows_op (by decide) hk (by rw [e32]; omega) (by rw [e32]; omega)]
  unfold Wd.p32
  rw [Wd.u32N, Wd.u32N]
  have := Wd.pl_op Wd.h32 (ks := .i32) rfl Wd.hs32 (by decide) hk (a := a % 4294967296) (b := b % 4294967296) (show _ < 4294967296 by omega) (show _ < 4294967296 by omega)
  rw [show Wd.pl .u32 .i32 32 ((7 + kd : Nat) : Int) ((a % 4294967296 : Nat) : Int) ((b % 4294967296 : Nat) : Int) = _ from this, Wd.uT32]
  rfl
theorem bits64 {kd a b : Nat} (hk : kd < 8) (ha : a < 18446744073709551616) (hb : b < 18446744073709551616) : with_ (rows kd a b 64 64) = Wd.p64 ((7 + kd : Nat) : Int) a b := by
  rw [rows_op (by decide) hk (by rw [e64]; exact ha) (by rw [e64]; exact hb)]
  exact (Wd.pl_op Wd.h64 (ks := .i64) rfl Wd.hs64 (by decide) hk (a := a) (b := b) ha hb).symm
theorem div32 {kd : Nat} (hk : kd < 4) (a b : Nat) : dvv kd (a % 4294967296) (b % 4294967296) 32 = (Wd.u64 (Wd.u32 (Wd.d32 kd a b).1), (Wd.d32 kd a b).2) := by
  rw [dv_same (by decide) (by decide) (by rw [e32]; omega) (by rw [e32]; omega) (sg32 (by omega)) (sg32 (by omega)) hk, Wd.u64u32]
  unfold Wd.d32
  rw [low32, low32]
  have h1 := i32m a; have h2 := i32m b
  unfold Wd.i32 at h1 h2
  rw [h1, h2]
  rfl
theorem div64 {kd a b : Nat} (hk : kd < 4) (ha : a < 18446744073709551616) (hb : b < 18446744073709551616) : dvv kd a b 64 = Wd.d64 kd a b := by
  rw [dv_same (by decide) (by decide) (by rw [e64]; omega) (by rw [e64]; omega) (sg64 ha) (sg64 hb) hk]
  have hr : InR .u64 (Wd.d64 (kd : Int) a b).1 := Wd.dvR _ _ _ (by dsimp only [InR]; omega) (by dsimp only [InR]; omega)
  have e : (Wd.d64 (kd : Int) a b).1 % ((2 ^ 64 : Nat) : Int) = (Wd.d64 (kd : Int) a b).1 := by
    rw [e64]; dsimp only [InR] at hr; omega
  show ((Wd.d64 (kd : Int) a b).1 % ((2 ^ 64 : Nat) : Int), (Wd.d64 (kd : Int) a b).2) = _
  rw [e]
theorem nlt (s t : Int) : (!decide (s < t)) = decide (t ≤ s) := by
  by_cases h : s < t
  · rw [decide_eq_true h, decide_eq_false (by omega)]; rfl
  · rw [decide_eq_false h, decide_eq_true (by omega)]; rfl
theorem tupR {x t : Int} {p : Int × Int} (h : (x, t) = p) : Value.tuple #[.int .u64 x, .int .u8 t] = .tuple #[.int .u64 p.1, .int .u8 p.2] := by subst h; rfl
theorem E81 {op : Int} (h : 81 ≤ op ∧ op ≤ 90) (a b : Int) : Wd.E op a b = (Wd.cmp (op - 81) (Wd.i64 a) (Wd.i64 b) a b, 0) := by
  unfold Wd.E; rw [if_neg (by omega), if_neg (by omega), if_neg (by omega), if_pos h]
theorem E121 {op : Int} (h : 121 ≤ op ∧ op ≤ 123) (a b : Int) : Wd.E op a b = (Wd.cnt (op - 121) a 64, 0) := by
  unfold Wd.E; rw [if_neg (by omega), if_neg (by omega), if_neg (by omega), if_neg (by omega), if_neg (by omega), if_pos h]
theorem E167 {op : Int} (h : op = 167 ∨ op = 173) (a b : Int) : Wd.E op a b = (Wd.u64 (Wd.u32 a), 0) := by
  unfold Wd.E; rw [if_neg (by omega), if_neg (by omega), if_neg (by omega), if_neg (by omega), if_neg (by omega), if_neg (by omega), if_pos h]
theorem add32 (a b : Nat) : IntKind.u64.wrap (((a % 4294967296 : Nat) : Int) + ((b % 4294967296 : Nat) : Int)) % 4294967296 = Wd.p32 0 a b := by
  rw [Wd.p32_0, Wd.w64]; omega
theorem sub32' (a b : Nat) : IntKind.u64.wrap (((a % 4294967296 : Nat) : Int) - ((b % 4294967296 : Nat) : Int)) % 4294967296 = Wd.p32 1 a b := by
  show _ = Wd.u64 (Wd.u32 (Wd.u32 a - Wd.u32 b))
  rw [Wd.u64u32, Wd.u32e, Wd.u32e, Wd.w64]; omega
theorem mul32 (a b : Nat) : IntKind.u64.wrap (((a % 4294967296 : Nat) : Int) * ((b % 4294967296 : Nat) : Int)) % 4294967296 = Wd.p32 2 a b := by
  rw [Wd.p32_2, wm (by decide), Int.natCast_emod, Int.natCast_emod]
  exact (Int.mul_emod _ _ _).symm
theorem ext32 (a : Nat) : (if (2147483648 : Int) ≤ ((a % 4294967296 : Nat) : Int) then IntKind.u64.wrap (((a % 4294967296 : Nat) : Int) - 4294967296) else ((a % 4294967296 : Nat) : Int)) = Wd.u64 (IntKind.i64.wrap (IntKind.i32.wrap a)) := by
  rw [Wd.u64e, Wd.w64, Wd.wi64, Wd.wi32]
  split <;> split <;> split <;> omega
end Wr
end Go.Proofs.YtkkhjaiaicmpaaaDoor
