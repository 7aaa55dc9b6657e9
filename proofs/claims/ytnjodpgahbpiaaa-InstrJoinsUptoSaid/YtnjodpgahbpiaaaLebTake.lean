/- leb.TakeU and leb.TakeS: the number with which bytes begin; nothing is changed. No condition. -/
import Derived.Test.YtnjodpgahbpiaaaMem
import Derived.Test.YtnjodpgahbpiaaaBits
import Derived.Test.YtnjodpgahbpiaaaLebPlain
namespace Go.Proofs.Ytnjodpgahbpiaaa
open Go.RowKit
set_option linter.unusedVariables false

set_option maxRecDepth 100000 in
theorem lastU (x b : Int) (w : World) (h0 : 0 ≤ x) (h1 : x < 128) (h2 : 1 ≤ b) (h3 : b ≤ 7) :
    Calls Try.prog 53 #[.int .u8 x, .int .i64 b] w fun e w' => e = .returned (.bool (Leb.fits false b.toNat x)) ∧ w = w' := by
  have hp : (0 : Int) < 2 ^ b.toNat := Int.pow_pos (by omega)
  have hb : Leb.fits false b.toNat x = (x / 2 ^ b.toNat == 0) := by
    unfold Leb.fits
    simp only [Bool.false_eq_true, if_false]
    rw [Bool.eq_iff_iff]
    simp only [decide_eq_true_eq, beq_iff_eq]
    constructor
    · intro h; exact Int.ediv_eq_zero_of_lt h0 h
    · intro h; have := Int.lt_ediv_add_one_mul_self x hp; rw [h] at this; omega
  have HB := Lib.hid hb; clear hb hp
  go_enter Try.func53, Try.ntmps53
  go_wp2
  go_ret
  exact ⟨congrArg (fun b => Ending.returned (.bool b)) HB.out.symm, rfl⟩

theorem up_fits (x b : Int) (h0 : 0 ≤ x) (h1 : x < 128) (h2 : 1 ≤ b) :
    Leb.fits true b.toNat (if x < 64 then x else x - 128) = (IntKind.i8.wrap (x * 2) / 2 ^ b.toNat == 0 || IntKind.i8.wrap (x * 2) / 2 ^ b.toNat == -1) := by
  have hw : IntKind.i8.wrap (x * 2) = 2 * (if x < 64 then x else x - 128) := by
    simp [IntKind.wrap, IntKind.bits, IntKind.signed]; split <;> split <;> omega
  rw [hw]
  generalize (if x < 64 then x else x - 128) = y
  have hp : (0 : Int) < 2 ^ b.toNat := Int.pow_pos (by omega)
  unfold Leb.fits
  generalize (2 : Int) ^ b.toNat = p at *
  rw [Bool.eq_iff_iff]
  simp only [if_true, decide_eq_true_eq, Bool.or_eq_true, beq_iff_eq]
  constructor
  · intro ⟨a, c⟩
    by_cases hy : 0 ≤ y
    · left; exact Int.ediv_eq_zero_of_lt (by omega) c
    · right
      have e : 2 * y = (2 * y + p) + p * (-1) := by omega
      rw [e, Int.add_mul_ediv_left _ _ (by omega), Int.ediv_eq_zero_of_lt (by omega) (by omega)]; rfl
  · intro h
    have h1 := Int.lt_ediv_add_one_mul_self (2 * y) hp
    have h3 := Int.ediv_mul_le (2 * y) (show p ≠ 0 by omega)
    rcases h with h | h <;> rw [h] at h1 h3 <;> omega

set_option maxRecDepth 100000 in
theorem lastS (s x b : Int) (w : World) (hs : s = if x < 64 then x else x - 128) (h0 : 0 ≤ x) (h1 : x < 128) (h2 : 1 ≤ b) (h3 : b ≤ 7) :
    Calls Try.prog 56 #[.int .u8 x, .int .i64 b] w fun e w' => e = .returned (.bool (Leb.fits true b.toNat s)) ∧ w = w' := by
  rw [hs, up_fits x b h0 h1 h2]
  clear hs
  go_enter Try.func56, Try.ntmps56
  go_wp2
  · rename_i h
    go_ret
    exact ⟨by simp [h], rfl⟩
  · go_ret
    exact ⟨rfl, rfl⟩

set_option maxRecDepth 100000 in
theorem highU (x : Int) (w : World) :
    Calls Try.prog 54 #[.int .u8 x] w fun e w' => e = .returned (.int .u64 0) ∧ w = w' := by
  go_enter Try.func54, Try.ntmps54
  go_wp2
  go_ret
  exact ⟨rfl, rfl⟩

theorem high_bit (x : Int) (h0 : 0 ≤ x) (h1 : x < 128) : wrap64 (-wrap64 (bits BinOp.and IntKind.u8 (x / 64) 1)) = -(x / 64) := by
  obtain ⟨n, hn⟩ : ∃ n : Nat, x / 64 = n := ⟨(x / 64).toNat, by omega⟩
  rw [hn, show (1 : Int) = ((1 : Nat) : Int) from rfl, u8_and_nat n 1 (by omega) (by omega), nat_mask1]
  unfold wrap64; omega

set_option maxRecDepth 100000 in
theorem highS (x : Int) (w : World) (h0 : 0 ≤ x) (h1 : x < 128) :
    Calls Try.prog 57 #[.int .u8 x] w fun e w' => e = .returned (.int .i64 (-(x / 64))) ∧ w = w' := by
  have HB := Lib.hid (high_bit x h0 h1)
  go_enter Try.func57, Try.ntmps57
  go_wp2
  go_ret
  exact ⟨congrArg (fun b => Ending.returned (.int .i64 b)) HB.out, rfl⟩

/-- what is answered -/
def tkU (o : Option (Int × Nat)) : Value := match o with | some (n, k) => .tuple #[.int .u64 n, .int .i64 k, .bool true] | none => .tuple #[.int .u64 0, .int .i64 0, .bool false]
def tkS (o : Option (Int × Nat)) : Value := match o with | some (n, k) => .tuple #[.int .i64 n, .int .i64 k, .bool true] | none => .tuple #[.int .i64 0, .int .i64 0, .bool false]

theorem or_step {V k x : Nat} (hx : x < 256) (h : V < 128 ^ k) (hs : V + 128 ^ k * (x % 128) < 18446744073709551616) :
    bits BinOp.or IntKind.u64 (V : Int) (IntKind.u64.wrap (IntKind.u64.wrap (bits BinOp.and IntKind.u8 (x : Int) 127) * 2 ^ (7 * k))) = ((V + 128 ^ k * (x % 128) : Nat) : Int) := by
  have e : 128 ^ k = 2 ^ (7 * k) := by rw [Nat.pow_mul]
  rw [e] at h hs ⊢
  have e1 : IntKind.u64.wrap (bits BinOp.and IntKind.u8 (x : Int) 127) = ((x % 128 : Nat) : Int) := by rw [u8_and127 x hx, IntKind.wrap_u64]; omega
  have e2 : ((x % 128 : Nat) : Int) * 2 ^ (7 * k) = ((2 ^ (7 * k) * (x % 128) : Nat) : Int) := by rw [Nat.mul_comm]; simp [Int.mul_comm]
  have e3 : IntKind.u64.wrap ((2 ^ (7 * k) * (x % 128) : Nat) : Int) = ((2 ^ (7 * k) * (x % 128) : Nat) : Int) := by rw [IntKind.wrap_u64]; omega
  rw [e1, e2, e3, or_u64 _ _ _ h hs]

theorem or_zero {y : Nat} (h : y < 18446744073709551616) : bits BinOp.or IntKind.u64 (y : Int) 0 = y := by
  rw [show (0 : Int) = ((0 : Nat) : Int) from rfl, u64_or_nat y 0 h (by omega)]; simp


theorem or_room {V k x : Nat} (hk : k ≤ 8) (h : V < 128 ^ k) : V + 128 ^ k * (x % 128) < 18446744073709551616 := by
  have h2 : 128 ^ k ≤ 128 ^ 8 := Nat.pow_le_pow_right (by omega) hk
  have h4 : 128 ^ 8 = 72057594037927936 := by decide
  have h3 : 128 ^ k * (x % 128) ≤ 128 ^ k * 127 := Nat.mul_le_mul_left _ (by omega)
  omega

theorem ret_u3 {V k c : Nat} {x : Int} (h : x = ((V + 128 ^ k * c : Nat) : Int)) : tkU (some ((V : Int) + 128 ^ k * (c : Int), k + 1)) = .tuple #[.int .u64 x, .int .i64 ((k : Int) + 1), .bool true] := by
  subst h; simp [tkU]

set_option maxRecDepth 100000 in
set_option maxHeartbeats 400000 in
theorem takeU_any (v : Value) (l : List UInt8) (z : Int) (w : World) (hv : IsBs w v l) :
    Calls Try.prog 52 #[v, .int .i64 z, .func (.func 53) #[] #[], .func (.func 54) #[] #[]] w fun e w' =>
      e = .returned (tkU (Leb.tk false l z)) ∧ w = w' := by
  obtain ⟨a, cap, rfl, hs⟩ := hv
  have hlen := hs.len
  by_cases hz : z < 1
  · have fin := Leb.tk_bits (sg := false) (l := l) (Or.inl hz)
    have FIN := Lib.hid fin; clear fin
    go_enter Try.func52, Try.ntmps52
    go_wp2
    go_ret3
    exact ⟨fin3 (by rw [FIN.out]; rfl), rfl⟩
  by_cases hz2 : 64 < z
  · have fin := Leb.tk_bits (sg := false) (l := l) (Or.inr hz2)
    have FIN := Lib.hid fin; clear fin
    go_enter Try.func52, Try.ntmps52
    go_wp2
    go_ret3
    exact ⟨fin3 (by rw [FIN.out]; rfl), rfl⟩
  go_enter Try.func52, Try.ntmps52
  go_wp2
  go_loop [11, 24] (fun n i => ∃ k : Nat, k ≤ l.length ∧ k ≤ 9 ∧ i = .int .i64 k ∧ n = .int .u64 (Leb.val (l.take k) : Nat) ∧ Leb.high l k) (fun _ i => l.length - (intOf i).toNat)
  case atStart => exact ⟨0, by omega, by omega, rfl, rfl, Leb.high_zero _⟩
  case round =>
    obtain ⟨k, hk, hk9, rfl, rfl, hh⟩ := hrel
    have HH := Lib.hid hh; clear hh
    have hVl := Leb.val_take_lt hk
    have HVL := Lib.hid hVl; clear hVl
    generalize hV : Leb.val (l.take k) = V at *
    have HV := Lib.hid hV; clear hV
    by_cases hlt : k < l.length
    · obtain ⟨b, off, c, rfl, hc, hc2, hcell⟩ := hs.at k hlt
      by_cases hA : z ≤ 7 * (k : Int)
      · go_wp2
        go_ret3
        exact ⟨fin3 (by rw [Leb.tk_long HH.out hk hA]; rfl), rfl⟩
      by_cases hB : z - 7 * (k : Int) ≤ 7
      · by_cases hB1 : 127 < c.toNat
        · go_wp2
          go_ret3
          exact ⟨fin3 (by rw [Leb.tk_long (Leb.high_succ HH.out hc.out (by omega)) hlt (by omega)]; rfl), rfl⟩
        · have near := Leb.tk_near (sg := false) (by omega) (by omega) HH.out hc.out (by omega) (by omega : 7 * (k : Int) < z)
          rw [Leb.num_low c (by omega), HV.out] at near
          cases hf : Leb.fits false (z - 7 * k).toNat c.toNat
          · have FIN := Lib.hid near; clear near
            go_wp2_with (go_at_call 53; refine (lastU _ _ _ (by omega) (by omega) (by omega) (by omega)).mono ?_; rintro e w' ⟨rfl, rfl⟩)
            go_ret3
            exact ⟨fin3 (by rw [FIN.out, hf]; rfl), rfl⟩
          · have hs9 : V + 128 ^ k * (c.toNat % 128) < 18446744073709551616 := by
              have h1 := HVL.out
              have h2 := Leb.pow9 hk9
              by_cases e : k = 9
              · have := Leb.fits_one (by omega) hf
                have h3 : 128 ^ k * (c.toNat % 128) ≤ 128 ^ k * 1 := Nat.mul_le_mul_left _ (by omega)
                omega
              · have h2 : 128 ^ k ≤ 128 ^ 8 := Nat.pow_le_pow_right (by omega) (by omega)
                have h4 : 128 ^ 8 = 72057594037927936 := by decide
                have h3 : 128 ^ k * (c.toNat % 128) ≤ 128 ^ k * 127 := Nat.mul_le_mul_left _ (by omega)
                omega
            have ho := or_step hc2 HVL.out hs9
            rw [hf, if_pos rfl] at near
            rw [Nat.mod_eq_of_lt (by omega : c.toNat < 128)] at ho hs9
            have ho2 := (congrArg (fun y => bits BinOp.or IntKind.u64 y 0) ho).trans (or_zero hs9)
            have FIN := Lib.hid near; clear near
            have HO := Lib.hid ho; clear ho
            have HO2 := Lib.hid ho2; clear ho2
            clear hs9
            go_wp2_with (first | (go_at_call 53; refine (lastU _ _ _ (by omega) (by omega) (by omega) (by omega)).mono ?_; rintro e w' ⟨rfl, rfl⟩) | (go_at_call 54; refine (highU _ _).mono ?_; rintro e w' ⟨rfl, rfl⟩))
            all_goals
              go_ret3
              first
              | exact ⟨fin3 (by rw [FIN.out]; exact (ret_u3 HO2.out).symm), rfl⟩
              | exact ⟨fin3 (by rw [FIN.out]; exact (ret_u3 HO.out).symm), rfl⟩
      · by_cases hB1 : 127 < c.toNat
        · go_wp2
          go_round
          case rel =>
            refine ⟨k + 1, hlt, by omega, by go_num, ?_, Leb.high_succ HH.out hc.out (by omega)⟩
            rw [Leb.val_take_succ hc.out, HV.out]
            exact congrArg _ (or_step hc2 HVL.out (or_room (by omega) HVL.out))
          case measure => simp [intOf]; omega
        · have far := Leb.tk_far (sg := false) (by omega) HH.out hc.out (by omega) (by omega : 7 * ((k : Int) + 1) ≤ z)
          rw [Leb.num_low c (by omega), HV.out] at far
          have hs9 := or_room (x := c.toNat) (by omega) HVL.out
          have ho := or_step hc2 HVL.out hs9
          rw [Nat.mod_eq_of_lt (by omega : c.toNat < 128)] at ho hs9
          have ho2 := (congrArg (fun y => bits BinOp.or IntKind.u64 y 0) ho).trans (or_zero hs9)
          have FIN := Lib.hid far; clear far
          have HO := Lib.hid ho; clear ho
          have HO2 := Lib.hid ho2; clear ho2
          clear hs9
          go_wp2_with (first | (go_at_call 54; refine (highU _ _).mono ?_; rintro e w' ⟨rfl, rfl⟩))
          go_ret3
          exact ⟨fin3 (by rw [FIN.out]; exact (ret_u3 HO2.out).symm), rfl⟩
    · go_wp2
      go_ret3
      have e : k = l.length := by omega
      subst e
      exact ⟨fin3 (by rw [Leb.tk_end HH.out]; rfl), rfl⟩

theorem wrap64_small (x : Int) (h0 : -9223372036854775808 ≤ x) (h1 : x < 9223372036854775808) : wrap64 x = x := by unfold wrap64; omega

theorem orS1 {V k x : Nat} (hk : k ≤ 8) (hx : x < 256) (h : V < 128 ^ k) :
    bits BinOp.or IntKind.i64 (V : Int) (wrap64 (wrap64 (bits BinOp.and IntKind.u8 (x : Int) 127) * 2 ^ (7 * k))) = ((V + 128 ^ k * (x % 128) : Nat) : Int) := by
  have e : 128 ^ k = 2 ^ (7 * k) := by rw [Nat.pow_mul]
  have h2 : 128 ^ k ≤ 128 ^ 8 := Nat.pow_le_pow_right (by omega) hk
  have h4 : 128 ^ 8 = 72057594037927936 := by decide
  have h3 : 128 ^ k * (x % 128) ≤ 128 ^ k * 127 := Nat.mul_le_mul_left _ (by omega)
  rw [e] at h h2 h3 ⊢
  have c1 : ((2 ^ (7 * k) : Nat) : Int) = 2 ^ (7 * k) := by simp
  have c2 : ((2 ^ (7 * k) * (x % 128) : Nat) : Int) = 2 ^ (7 * k) * ((x % 128 : Nat) : Int) := by simp
  rw [u8_and127 x hx, wrap64_small ((x % 128 : Nat) : Int) (by omega) (by omega), Int.mul_comm, wrap64_small _ (by omega) (by omega), or_i64 (7 * k) (by omega) _ _ (by omega) (by omega) (by omega) (by omega)]
  omega

theorem orS2 {V k x : Nat} {s : Int} (hk : k ≤ 8) (hx : x < 128) (h : V < 128 ^ k) (hs : s = if (x : Int) < 64 then (x : Int) else x - 128) :
    bits BinOp.or IntKind.i64 (bits BinOp.or IntKind.i64 (V : Int) (wrap64 (wrap64 (bits BinOp.and IntKind.u8 (x : Int) 127) * 2 ^ (7 * k)))) (wrap64 (-((x : Int) / 64) * 2 ^ (7 * k + 7))) = V + 128 ^ k * s := by
  rw [orS1 hk (by omega) h, Nat.mod_eq_of_lt hx]
  have e : 128 ^ k = 2 ^ (7 * k) := by rw [Nat.pow_mul]
  have e' : (128 : Int) ^ k = 2 ^ (7 * k) := Leb.pow128 k
  have h2 : 128 ^ k ≤ 128 ^ 8 := Nat.pow_le_pow_right (by omega) hk
  have h4 : 128 ^ 8 = 72057594037927936 := by decide
  have h3 : 128 ^ k * x ≤ 128 ^ k * 127 := Nat.mul_le_mul_left _ (by omega)
  rw [e] at h h2 h3 ⊢
  rw [e']
  have c1 : ((2 ^ (7 * k) : Nat) : Int) = 2 ^ (7 * k) := by simp
  have c2 : ((2 ^ (7 * k) * x : Nat) : Int) = 2 ^ (7 * k) * (x : Int) := by simp
  have c3 : (2 : Int) ^ (7 * k + 7) = 2 ^ (7 * k) * 128 := by rw [Int.pow_add]; rfl
  have hd : (x : Int) / 64 = 0 ∨ (x : Int) / 64 = 1 := by omega
  rcases hd with hd | hd
  · rw [hd, hs, if_pos (by omega)]
    have : wrap64 (-0 * 2 ^ (7 * k + 7)) = 2 ^ 63 * 0 := by simp [wrap64]
    rw [this, or_i64 63 (by omega) _ 0 (by omega) (by omega) (by omega) (by omega)]
    omega
  · rw [hd, hs, if_neg (by omega)]
    have : wrap64 (-1 * 2 ^ (7 * k + 7)) = 2 ^ (7 * k + 7) * (-1) := by rw [Int.mul_comm, wrap64_small _ (by omega) (by omega)]
    rw [this, or_i64 (7 * k + 7) (by omega) _ (-1) (by omega) (by omega) (by omega) (by omega), c3, Int.mul_sub]
    omega

theorem orS9 {V x : Nat} {s : Int} (hx : x < 128) (h : V < 128 ^ 9) (hs : s = if (x : Int) < 64 then (x : Int) else x - 128) (h1 : -1 ≤ s) (h2 : s < 1) :
    bits BinOp.or IntKind.i64 (V : Int) (wrap64 (wrap64 (bits BinOp.and IntKind.u8 (x : Int) 127) * 2 ^ (7 * 9))) = V + 128 ^ 9 * s := by
  have h4 : 128 ^ 9 = 9223372036854775808 := by decide
  have h5 : (128 : Int) ^ 9 = 9223372036854775808 := by decide
  have h6 : (2 : Int) ^ (7 * 9) = 9223372036854775808 := by decide
  rw [h4] at h
  rw [u8_and127 x (by omega), wrap64_small ((x % 128 : Nat) : Int) (by omega) (by omega), h5, h6]
  by_cases hx : x < 64
  · rw [if_pos (by omega)] at hs
    have : wrap64 (((x % 128 : Nat) : Int) * 9223372036854775808) = 2 ^ 63 * 0 := by
      rw [show ((x % 128 : Nat) : Int) = 0 by omega]; simp [wrap64]
    rw [this, or_i64 63 (by omega) _ 0 (by omega) (by omega) (by omega) (by omega)]
    omega
  · rw [if_neg (by omega)] at hs
    have : wrap64 (((x % 128 : Nat) : Int) * 9223372036854775808) = 2 ^ 63 * (-1) := by
      rw [show ((x % 128 : Nat) : Int) = 127 by omega]; simp [wrap64]
    rw [this, or_i64 63 (by omega) _ (-1) (by omega) (by omega) (by omega) (by omega)]
    omega

theorem ret_s3 {V k : Nat} {x s : Int} (h : x = V + 128 ^ k * s) : tkS (some ((V : Int) + 128 ^ k * s, k + 1)) = .tuple #[.int .i64 x, .int .i64 ((k : Int) + 1), .bool true] := by
  subst h; simp [tkS]

set_option maxRecDepth 100000 in
set_option maxHeartbeats 400000 in
theorem takeS_any (v : Value) (l : List UInt8) (z : Int) (w : World) (hv : IsBs w v l) :
    Calls Try.prog 55 #[v, .int .i64 z, .func (.func 56) #[] #[], .func (.func 57) #[] #[]] w fun e w' =>
      e = .returned (tkS (Leb.tk true l z)) ∧ w = w' := by
  obtain ⟨a, cap, rfl, hs⟩ := hv
  have hlen := hs.len
  by_cases hz : z < 1
  · have fin := Leb.tk_bits (sg := true) (l := l) (Or.inl hz)
    have FIN := Lib.hid fin; clear fin
    go_enter Try.func55, Try.ntmps55
    go_wp2
    go_ret3
    exact ⟨fin3 (by rw [FIN.out]; rfl), rfl⟩
  by_cases hz2 : 64 < z
  · have fin := Leb.tk_bits (sg := true) (l := l) (Or.inr hz2)
    have FIN := Lib.hid fin; clear fin
    go_enter Try.func55, Try.ntmps55
    go_wp2
    go_ret3
    exact ⟨fin3 (by rw [FIN.out]; rfl), rfl⟩
  go_enter Try.func55, Try.ntmps55
  go_wp2
  go_loop [11, 24] (fun n i => ∃ k : Nat, k ≤ l.length ∧ k ≤ 9 ∧ i = .int .i64 k ∧ n =   .int .i64 (Leb.val (l.take k) : Nat) ∧ Leb.high l k) (fun _ i => l.length - (intOf i).toNat)
  case atStart => exact ⟨0, by omega, by omega, rfl, rfl, Leb.high_zero _⟩
  case round =>
    obtain ⟨k, hk, hk9, rfl, rfl, hh⟩ := hrel
    have HH := Lib.hid hh; clear hh
    have hVl := Leb.val_take_lt hk
    have HVL := Lib.hid hVl; clear hVl
    generalize hV : Leb.val (l.take k) = V at *
    have HV := Lib.hid hV; clear hV
    by_cases hlt : k < l.length
    · obtain ⟨b, off, c, rfl, hc, hc2, hcell⟩ := hs.at k hlt
      by_cases hA : z ≤ 7 * (k : Int)
      · go_wp2
        go_ret3
        exact ⟨fin3 (by rw [Leb.tk_long HH.out hk hA]; rfl), rfl⟩
      by_cases hB : z - 7 * (k : Int) ≤ 7
      · by_cases hB1 : 127 < c.toNat
        · go_wp2
          go_ret3
          exact ⟨fin3 (by rw [Leb.tk_long (Leb.high_succ HH.out hc.out (by omega)) hlt (by omega)]; rfl), rfl⟩
        · have near := Leb.tk_near (sg := true) (by omega) (by omega) HH.out hc.out (by omega) (by omega : 7 * (k : Int) < z)
          have hn := Leb.num_low' c (by omega)
          rw [HV.out] at near
          generalize Leb.num true [c] = s at *
          have hsb : -64 ≤ s ∧ s < 64 := by rw [hn]; split <;> omega
          have HN := Lib.hid hn; clear hn
          obtain ⟨hs1, hs2⟩ := hsb
          cases hf : Leb.fits true (z - 7 * k).toNat s
          all_goals rw [hf] at near
          · have FIN := Lib.hid near; clear near
            go_wp2_with (go_at_call 56; refine (lastS s _ _ _ HN.out (by omega) (by omega) (by omega) (by omega)).mono ?_; rintro e w' ⟨rfl, rfl⟩)
            go_ret3
            exact ⟨fin3 (by rw [FIN.out]; rfl), rfl⟩
          · rw [if_pos rfl] at near
            have FIN := Lib.hid near; clear near
            go_wp2_with (first | (go_at_call 56; refine (lastS s _ _ _ HN.out (by omega) (by omega) (by omega) (by omega)).mono ?_; rintro e w' ⟨rfl, rfl⟩) | (go_at_call 57; refine (highS _ _ (by omega) (by omega)).mono ?_; rintro e w' ⟨rfl, rfl⟩))
            all_goals go_ret3
            · exact ⟨fin3 (by rw [FIN.out]; exact (ret_s3 (orS2 (by omega) (by omega) HVL.out HN.out)).symm), rfl⟩
            · have hk : k = 9 := by omega
              subst hk
              have h9 := Leb.fits_one' (by omega) hf
              exact ⟨fin3 (by rw [FIN.out]; exact (ret_s3 (orS9 (by omega) HVL.out HN.out h9.1 h9.2)).symm), rfl⟩
      · by_cases hB1 : 127 < c.toNat
        · go_wp2
          go_round
          case rel =>
            refine ⟨k + 1, hlt, by omega, by go_num, ?_, Leb.high_succ HH.out hc.out (by omega)⟩
            rw [Leb.val_take_succ hc.out, HV.out]
            exact congrArg _ (orS1 (by omega) (by omega) HVL.out)
          case measure => simp [intOf]; omega
        · have far := Leb.tk_far (sg := true) (by omega) HH.out hc.out (by omega) (by omega : 7 * ((k : Int) + 1) ≤ z)
          have hn := Leb.num_low' c (by omega)
          rw [HV.out] at far
          generalize Leb.num true [c] = s at *
          have FIN := Lib.hid far; clear far
          have HN := Lib.hid hn; clear hn
          go_wp2_with (first | (go_at_call 57; refine (highS _ _ (by omega) (by omega)).mono ?_; rintro e w' ⟨rfl, rfl⟩))
          go_ret3
          exact ⟨fin3 (by rw [FIN.out]; exact (ret_s3 (orS2 (by omega) (by omega) HVL.out HN.out)).symm), rfl⟩
    · go_wp2
      go_ret3
      have e : k = l.length := by omega
      subst e
      exact ⟨fin3 (by rw [Leb.tk_end HH.out]; rfl), rfl⟩


set_option maxRecDepth 100000 in
theorem TakeU_any (v : Value) (l : List UInt8) (z : Int) (w : World) (hv : IsBs w v l) :
    Calls Try.prog 50 #[v, .int .i64 z] w fun e w' => e = .returned (tkU (Leb.tk false l z)) ∧ w = w' := by
  go_enter Try.func50, Try.ntmps50
  cases ht : Leb.tk false l z
  all_goals
    have HT := Lib.hid ht; clear ht
    go_wp2_with (go_at_call 52; refine (takeU_any v l z _ hv).mono ?_; rw [HT.out]; rintro e w' ⟨rfl, rfl⟩; unfold tkU)
    go_ret3
    exact ⟨rfl, rfl⟩

set_option maxRecDepth 100000 in
theorem TakeS_any (v : Value) (l : List UInt8) (z : Int) (w : World) (hv : IsBs w v l) :
    Calls Try.prog 51 #[v, .int .i64 z] w fun e w' => e = .returned (tkS (Leb.tk true l z)) ∧ w = w' := by
  go_enter Try.func51, Try.ntmps51
  cases ht : Leb.tk true l z
  all_goals
    have HT := Lib.hid ht; clear ht
    go_wp2_with (go_at_call 55; refine (takeS_any v l z _ hv).mono ?_; rw [HT.out]; rintro e w' ⟨rfl, rfl⟩; unfold tkS)
    go_ret3
    exact ⟨rfl, rfl⟩

end Go.Proofs.Ytnjodpgahbpiaaa
