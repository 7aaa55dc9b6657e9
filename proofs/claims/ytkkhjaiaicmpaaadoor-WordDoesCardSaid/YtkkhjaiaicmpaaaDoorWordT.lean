/- Numbers of 32 and 64 bits as bit vectors: what is turned back, laws of and, or, xor, add, sub. No condition. -/
import Derived.Test.YtkkhjaiaicmpaaaDoorWordQ
namespace Go.Proofs.YtkkhjaiaicmpaaaDoor
open Go Go.RowKit
set_option linter.unusedVariables false
set_option linter.unusedSimpArgs false
namespace Wd
theorem nat_and_or (a b : Nat) : (a &&& b) + (a ||| b) = a + b := by
  induction a using Nat.strongRecOn generalizing b with
  | ind a ih =>
    by_cases h : a = 0
    · subst h; simp
    · have h1 := ih (a / 2) (by omega) (b / 2)
      rw [← Nat.and_div_two, ← Nat.or_div_two] at h1
      have e1 : (a &&& b) % 2 = 1 ↔ (a % 2 = 1 ∧ b % 2 = 1) := by
        have := Nat.testBit_and a b 0
        simp only [Nat.testBit_zero] at this
        rw [← Bool.decide_and, decide_eq_decide] at this
        exact this
      have e2 : (a ||| b) % 2 = 1 ↔ (a % 2 = 1 ∨ b % 2 = 1) := by
        have := Nat.testBit_or a b 0
        simp only [Nat.testBit_zero] at this
        rw [← Bool.decide_or, decide_eq_decide] at this
        exact this
      omega
section
variable (k : IntKind)
def Bv (x : Int) : BitVec k.bits := BitVec.ofInt k.bits x
variable {k}
def Tv (X : BitVec k.bits) : Int := (X.toNat : Int)
variable (hw : ∀ x, k.wrap x = x % ((2 ^ k.bits : Nat) : Int))
include hw
theorem wrapB (x : Int) : k.wrap x = Tv (Bv k x) := by
  rw [hw]
  have := Int.emod_nonneg x (show ((2 ^ k.bits : Nat) : Int) ≠ 0 by have := Nat.two_pow_pos k.bits; omega)
  unfold Tv Bv; rw [BitVec.toNat_ofInt]; omega
omit hw in
theorem BT (X : BitVec k.bits) : Bv k (Tv X) = X := by
  unfold Bv Tv; rw [BitVec.ofInt_natCast, BitVec.ofNat_toNat, BitVec.setWidth_eq]
theorem Bwrap (x : Int) : Bv k (k.wrap x) = Bv k x := by rw [wrapB hw, BT]
theorem TB {x : Int} (h0 : 0 ≤ x) (h1 : x < ((2 ^ k.bits : Nat) : Int)) : Tv (Bv k x) = x := by
  rw [← wrapB hw, hw]; exact Int.emod_eq_of_lt h0 h1
theorem addB (a b : Int) : k.wrap (a + b) = Tv (Bv k a + Bv k b) := by
  rw [wrapB hw]; unfold Bv; rw [BitVec.ofInt_add]
theorem subB (a b : Int) : k.wrap (a - b) = Tv (Bv k a - Bv k b) := by
  have e : Bv k (a - b) = Bv k a - Bv k b := by
    have : Bv k a = Bv k (a - b) + Bv k b := by
      unfold Bv; rw [← BitVec.ofInt_add]; congr 1; omega
    rw [this, BitVec.add_sub_cancel]
  rw [wrapB hw, e]
theorem wrapT (X : BitVec k.bits) : k.wrap (X.toNat : Int) = Tv X := by
  rw [show (X.toNat : Int) = Tv X from rfl, wrapB hw, BT]
theorem andB (a b : Int) : bits .and k a b = Tv (Bv k a &&& Bv k b) := wrapT hw _
theorem orB (a b : Int) : bits .or k a b = Tv (Bv k a ||| Bv k b) := wrapT hw _
theorem xorB (a b : Int) : bits .xor k a b = Tv (Bv k a ^^^ Bv k b) := wrapT hw _
theorem rotB {x r : Int} (h0 : 0 ≤ x) (h1 : x < ((2 ^ k.bits : Nat) : Int)) (r0 : 0 ≤ r) (r1 : r < (k.bits : Int)) : rot k (k.bits : Int) x r = Tv ((Bv k x).rotateLeft r.toNat) := by
  obtain ⟨n, rfl⟩ := Int.eq_ofNat_of_zero_le h0
  obtain ⟨m, rfl⟩ := Int.eq_ofNat_of_zero_le r0
  have hn : n < 2 ^ k.bits := by omega
  have hb : Bv k (n : Int) = BitVec.ofNat k.bits n := by unfold Bv; rw [BitVec.ofInt_natCast]
  have hbn : (Bv k (n : Int)).toNat = n := by rw [hb, BitVec.toNat_ofNat, Nat.mod_eq_of_lt hn]
  unfold rot
  rw [orB hw, Bwrap hw, BitVec.rotateLeft_def, Int.toNat_natCast, Nat.mod_eq_of_lt (show m < k.bits by omega), show min m k.bits = m by omega, show min ((k.bits : Int) - (m : Int)).toNat k.bits = k.bits - m by omega]
  congr 2
  · apply BitVec.eq_of_toNat_eq
    rw [BitVec.toNat_shiftLeft, hbn, Nat.shiftLeft_eq]
    have : (n : Int) * 2 ^ m = ((n * 2 ^ m : Nat) : Int) := by simp
    rw [this]; unfold Bv; rw [BitVec.ofInt_natCast, BitVec.toNat_ofNat]
  · apply BitVec.eq_of_toNat_eq
    rw [BitVec.toNat_ushiftRight, hbn, Nat.shiftRight_eq_div_pow]
    have : (n : Int) / 2 ^ (k.bits - m) = ((n / 2 ^ (k.bits - m) : Nat) : Int) := by simp
    rw [this]; unfold Bv; rw [BitVec.ofInt_natCast, BitVec.toNat_ofNat]
    exact Nat.mod_eq_of_lt (Nat.lt_of_le_of_lt (Nat.div_le_self _ _) hn)
end
theorem turn_back {n : Nat} (X : BitVec n) (r : Nat) (hr : r < n) : (X.rotateLeft r).rotateLeft ((n - r) % n) = X := by
  apply BitVec.eq_of_getElem_eq
  intro i hi
  rw [BitVec.getElem_rotateLeft]
  have e : (n - r) % n % n = if r = 0 then 0 else n - r := by
    split
    · subst r; simp
    · rw [Nat.mod_mod, Nat.mod_eq_of_lt (by omega)]
  split
  · rename_i h; rw [e] at h
    split at h
    · omega
    · rename_i hr0
      rw [BitVec.getElem_rotateLeft]
      simp only [e, if_neg hr0, Nat.mod_eq_of_lt hr]
      rw [dif_neg (by omega)]; congr 1; omega
  · rename_i h; rw [e] at h
    rw [BitVec.getElem_rotateLeft]
    simp only [e, Nat.mod_eq_of_lt hr]
    by_cases hr0 : r = 0
    · subst hr0; simp
    · simp only [if_neg hr0] at h ⊢
      rw [dif_pos (by omega)]; congr 1; omega
theorem xor_back {n : Nat} (X Y : BitVec n) : (X ^^^ Y) ^^^ Y = X := by
  rw [BitVec.xor_assoc, BitVec.xor_self, BitVec.xor_zero]
theorem and_or {n : Nat} (X Y : BitVec n) : (X &&& Y) + (X ||| Y) = X + Y := by
  apply BitVec.eq_of_toNat_eq
  rw [BitVec.toNat_add, BitVec.toNat_add, BitVec.toNat_and, BitVec.toNat_or, nat_and_or]
theorem h32 (x : Int) : IntKind.u32.wrap x = x % ((2 ^ IntKind.u32.bits : Nat) : Int) := w32 x
theorem h64 (x : Int) : IntKind.u64.wrap x = x % ((2 ^ IntKind.u64.bits : Nat) : Int) := w64 x
theorem B32 (x : Int) : Bv .u32 (u32 x) = Bv .u32 x := Bwrap h32 x
theorem uT32 (X : BitVec IntKind.u32.bits) : u64 (Tv X) = Tv X := by
  have : X.toNat < 4294967296 := X.isLt
  rw [u64e]; unfold Tv; omega
theorem T32lt (X : BitVec IntKind.u32.bits) : 0 ≤ Tv X ∧ Tv X < 4294967296 := by
  have : X.toNat < 4294967296 := X.isLt
  unfold Tv; omega
def op2 {n : Nat} (i : Int) (X Y : BitVec n) : BitVec n := if i = 0 then X + Y else if i = 1 then X - Y else if i = 7 then X &&& Y else if i = 8 then X ||| Y else X ^^^ Y
theorem plB {k ks : IntKind} {n : Int} (hw : ∀ x, k.wrap x = x % ((2 ^ k.bits : Nat) : Int)) {i a b : Int} (hi : i = 0 ∨ i = 1 ∨ i = 7 ∨ i = 8 ∨ i = 9) : pl k ks n i a b = Tv (op2 i (Bv k a) (Bv k b)) := by
  rcases hi with rfl | rfl | rfl | rfl | rfl
  · exact addB hw a b
  · exact subB hw a b
  · exact andB hw a b
  · exact orB hw a b
  · exact xorB hw a b
theorem p32B {i a b : Int} (hi : i = 0 ∨ i = 1 ∨ i = 7 ∨ i = 8 ∨ i = 9) : p32 i a b = Tv (op2 i (Bv .u32 a) (Bv .u32 b)) := by
  unfold p32; rw [plB h32 hi, uT32, B32, B32]
theorem p64B {i a b : Int} (hi : i = 0 ∨ i = 1 ∨ i = 7 ∨ i = 8 ∨ i = 9) : p64 i a b = Tv (op2 i (Bv .u64 a) (Bv .u64 b)) := plB h64 hi
theorem u32R (x : Int) : 0 ≤ u32 x ∧ u32 x < ((2 ^ IntKind.u32.bits : Nat) : Int) := by
  rw [u32e]; show _ ∧ _ < (4294967296 : Int); omega
theorem p32L (a b : Int) : p32 13 a b = Tv ((Bv .u32 a).rotateLeft (b % 32).toNat) := by
  have e : u32 b % 32 = b % 32 := by rw [u32e]; omega
  have := rotB h32 (x := u32 a) (r := u32 b % 32) (u32R a).1 (u32R a).2 (by omega) (by show _ < (32 : Int); omega)
  show u64 (rot .u32 32 (u32 a) (u32 b % 32)) = _
  rw [show rot .u32 32 (u32 a) (u32 b % 32) = _ from this, uT32, B32, e]
theorem p32Rr (a b : Int) : p32 14 a b = Tv ((Bv .u32 a).rotateLeft ((32 - b % 32) % 32).toNat) := by
  have e : u32 b % 32 = b % 32 := by rw [u32e]; omega
  have := rotB h32 (x := u32 a) (r := (32 - u32 b % 32) % 32) (u32R a).1 (u32R a).2 (by omega) (by show _ < (32 : Int); omega)
  show u64 (rot .u32 32 (u32 a) ((32 - u32 b % 32) % 32)) = _
  rw [show rot .u32 32 (u32 a) ((32 - u32 b % 32) % 32) = _ from this, uT32, B32, e]
theorem p64L {a : Int} (b : Int) (ra : InR .u64 a) : p64 13 a b = Tv ((Bv .u64 a).rotateLeft (b % 64).toNat) := by
  dsimp only [InR] at ra
  exact rotB h64 (x := a) (r := b % 64) ra.1 (by show _ < (18446744073709551616 : Int); omega) (by omega) (by show _ < (64 : Int); omega)
theorem p64Rr {a : Int} (b : Int) (ra : InR .u64 a) : p64 14 a b = Tv ((Bv .u64 a).rotateLeft ((64 - b % 64) % 64).toNat) := by
  dsimp only [InR] at ra
  exact rotB h64 (x := a) (r := (64 - b % 64) % 64) ra.1 (by show _ < (18446744073709551616 : Int); omega) (by omega) (by show _ < (64 : Int); omega)
theorem T64R (X : BitVec IntKind.u64.bits) : InR .u64 (Tv X) := by
  have : X.toNat < 18446744073709551616 := X.isLt
  dsimp only [InR]; unfold Tv; omega
def bas (w : Bool) : Int := if w then 124 else 106
def nn (w : Bool) : Int := if w then 64 else 32
structure Turns (w : Bool) (a b c : Int) : Prop where
  rot : (D (bas w + 14) (D (bas w + 13) a b).1 b).1 = (D (bas w) a 0).1
  sub : (D (bas w + 1) (D (bas w) a b).1 b).1 = (D (bas w) a 0).1
  xor : (D (bas w + 9) (D (bas w + 9) a b).1 b).1 = (D (bas w) a 0).1
  add : (D (bas w) (D (bas w + 7) a b).1 (D (bas w + 8) a b).1).1 = (D (bas w) a b).1
  dis : (D (bas w + 7) a (D (bas w + 8) b c).1).1 = (D (bas w + 8) (D (bas w + 7) a b).1 (D (bas w + 7) a c).1).1
  ass : (D (bas w) a (D (bas w) b c).1).1 = (D (bas w) (D (bas w) a b).1 c).1
  shl : (D (bas w + 10) a (nn w)).1 = (D (bas w) a 0).1
  shr : (D (bas w + 12) a (3 * nn w)).1 = (D (bas w) a 0).1
  tur : (D (bas w + 13) a b).1 = (D (bas w + 14) a (nn w - b % nn w)).1
theorem turns32 (a b c : Int) : Turns false a b c := by
  have E : ∀ (i x y : Int), (i = 0 ∨ i = 1 ∨ i = 7 ∨ i = 8 ∨ i = 9) → (D (106 + i) x y).1 = Tv (op2 i (Bv .u32 x) (Bv .u32 y)) := by
    intro i x y h
    rw [← p32B h]
    rcases h with rfl | rfl | rfl | rfl | rfl <;> rfl
  have E0 : ∀ (x y : Int), (D 106 x y).1 = Tv (op2 0 (Bv .u32 x) (Bv .u32 y)) := fun x y => E 0 x y (by omega)
  have L : ∀ x y, (D (106 + 13) x y).1 = Tv ((Bv .u32 x).rotateLeft (y % 32).toNat) := fun x y => p32L x y
  have Rr : ∀ x y, (D (106 + 14) x y).1 = Tv ((Bv .u32 x).rotateLeft ((32 - y % 32) % 32).toNat) := fun x y => p32Rr x y
  have Z : ∀ x, Bv .u32 x + Bv .u32 0 = Bv .u32 x := fun x => by
    exact (congrArg (Bv .u32 x + ·) (show Bv .u32 0 = 0#IntKind.u32.bits from by decide)).trans (BitVec.add_zero _)
  refine ⟨?_, ?_, ?_, ?_, ?_, ?_, ?_, ?_, ?_⟩
  · show (D (106 + 14) (D (106 + 13) a b).1 b).1 = (D 106 a 0).1
    rw [Rr, L, E0, BT]
    have e : ((32 - b % 32) % 32).toNat = (32 - (b % 32).toNat) % 32 := by omega
    rw [e]
    show Tv _ = Tv (Bv .u32 a + Bv .u32 0)
    rw [Z]; exact congrArg Tv (turn_back (n := 32) _ _ (by omega))
  · show (D (106 + 1) (D 106 a b).1 b).1 = (D 106 a 0).1
    rw [E 1 _ _ (by omega), E0, E0, BT]
    show Tv (Bv .u32 a + Bv .u32 b - Bv .u32 b) = Tv (Bv .u32 a + Bv .u32 0)
    rw [Z, BitVec.add_sub_cancel]
  · show (D (106 + 9) (D (106 + 9) a b).1 b).1 = (D 106 a 0).1
    rw [E 9 _ _ (by omega), E 9 _ _ (by omega), E0, BT]
    show Tv ((Bv .u32 a ^^^ Bv .u32 b) ^^^ Bv .u32 b) = Tv (Bv .u32 a + Bv .u32 0)
    rw [Z, xor_back]
  · show (D 106 (D (106 + 7) a b).1 (D (106 + 8) a b).1).1 = (D 106 a b).1
    rw [E 7 _ _ (by omega), E 8 _ _ (by omega), E0, E0, BT, BT]
    exact congrArg Tv (and_or _ _)
  · show (D (106 + 7) a (D (106 + 8) b c).1).1 = (D (106 + 8) (D (106 + 7) a b).1 (D (106 + 7) a c).1).1
    rw [E 7 a b (by omega), E 7 a c (by omega), E 7 _ _ (by omega), E 8 _ _ (by omega), E 8 _ _ (by omega), BT, BT, BT]
    exact congrArg Tv BitVec.and_or_distrib_left
  · show (D 106 a (D 106 b c).1).1 = (D 106 (D 106 a b).1 c).1
    rw [E0, E0, E0, E0, BT, BT]
    exact congrArg Tv (BitVec.add_assoc _ _ _).symm
  · show u64 (IntKind.u32.wrap (u32 a * 2 ^ (min ((u32 32) % 32).toNat 32))) = p32 0 a 0
    rw [p32_0, show (min ((u32 32) % 32).toNat 32) = 0 by decide +kernel]
    show u64 (u32 (u32 a * 1)) = _
    rw [u64u32, u32e]; omega
  · show u64 (u32 a / 2 ^ (min ((u32 (3 * 32)) % 32).toNat 32)) = p32 0 a 0
    rw [p32_0, show (min ((u32 (3 * 32)) % 32).toNat 32) = 0 by decide +kernel]
    show u64 (u32 a / 1) = _
    rw [Int.ediv_one, u64u32]; omega
  · show (D (106 + 13) a b).1 = (D (106 + 14) a (32 - b % 32)).1
    rw [L, Rr]
    have e : ((32 - (32 - b % 32) % 32) % 32) = b % 32 := by omega
    rw [e]
theorem turns64 {a b c : Int} (ra : InR .u64 a) (rb : InR .u64 b) (rc : InR .u64 c) : Turns true a b c := by
  have E : ∀ (i x y : Int), (i = 0 ∨ i = 1 ∨ i = 7 ∨ i = 8 ∨ i = 9) → (D (124 + i) x y).1 = Tv (op2 i (Bv .u64 x) (Bv .u64 y)) := by
    intro i x y h
    rw [← p64B h]
    rcases h with rfl | rfl | rfl | rfl | rfl <;> rfl
  have E0 : ∀ (x y : Int), (D 124 x y).1 = Tv (op2 0 (Bv .u64 x) (Bv .u64 y)) := fun x y => E 0 x y (by omega)
  have L : ∀ x y, InR .u64 x → (D (124 + 13) x y).1 = Tv ((Bv .u64 x).rotateLeft (y % 64).toNat) := fun x y h => p64L y h
  have Rr : ∀ x y, InR .u64 x → (D (124 + 14) x y).1 = Tv ((Bv .u64 x).rotateLeft ((64 - y % 64) % 64).toNat) := fun x y h => p64Rr y h
  have Z : ∀ x, Bv .u64 x + Bv .u64 0 = Bv .u64 x := fun x => by
    exact (congrArg (Bv .u64 x + ·) (show Bv .u64 0 = 0#IntKind.u64.bits from by decide)).trans (BitVec.add_zero _)
  refine ⟨?_, ?_, ?_, ?_, ?_, ?_, ?_, ?_, ?_⟩
  · show (D (124 + 14) (D (124 + 13) a b).1 b).1 = (D 124 a 0).1
    rw [L _ _ ra, Rr _ _ (T64R _), E0, BT]
    have e : ((64 - b % 64) % 64).toNat = (64 - (b % 64).toNat) % 64 := by omega
    rw [e]
    show Tv _ = Tv (Bv .u64 a + Bv .u64 0)
    rw [Z]; exact congrArg Tv (turn_back (n := 64) _ _ (by omega))
  · show (D (124 + 1) (D 124 a b).1 b).1 = (D 124 a 0).1
    rw [E 1 _ _ (by omega), E0, E0, BT]
    show Tv (Bv .u64 a + Bv .u64 b - Bv .u64 b) = Tv (Bv .u64 a + Bv .u64 0)
    rw [Z, BitVec.add_sub_cancel]
  · show (D (124 + 9) (D (124 + 9) a b).1 b).1 = (D 124 a 0).1
    rw [E 9 _ _ (by omega), E 9 _ _ (by omega), E0, BT]
    show Tv ((Bv .u64 a ^^^ Bv .u64 b) ^^^ Bv .u64 b) = Tv (Bv .u64 a + Bv .u64 0)
    rw [Z, xor_back]
  · show (D 124 (D (124 + 7) a b).1 (D (124 + 8) a b).1).1 = (D 124 a b).1
    rw [E 7 _ _ (by omega), E 8 _ _ (by omega), E0, E0, BT, BT]
    exact congrArg Tv (and_or _ _)
  · show (D (124 + 7) a (D (124 + 8) b c).1).1 = (D (124 + 8) (D (124 + 7) a b).1 (D (124 + 7) a c).1).1
    rw [E 7 a b (by omega), E 7 a c (by omega), E 7 _ _ (by omega), E 8 _ _ (by omega), E 8 _ _ (by omega), BT, BT, BT]
    exact congrArg Tv BitVec.and_or_distrib_left
  · show (D 124 a (D 124 b c).1).1 = (D 124 (D 124 a b).1 c).1
    rw [E0, E0, E0, E0, BT, BT]
    exact congrArg Tv (BitVec.add_assoc _ _ _).symm
  · show IntKind.u64.wrap (a * 2 ^ (min ((64 : Int) % 64).toNat 64)) = p64 0 a 0
    rw [p64_0, w64, show (min ((64 : Int) % 64).toNat 64) = 0 by decide +kernel]
    show a * 1 % _ = _
    omega
  · show a / 2 ^ (min ((3 * 64 : Int) % 64).toNat 64) = p64 0 a 0
    rw [p64_0, show (min ((3 * 64 : Int) % 64).toNat 64) = 0 by decide +kernel]
    show a / 1 = _
    dsimp only [InR] at ra
    omega
  · show (D (124 + 13) a b).1 = (D (124 + 14) a (64 - b % 64)).1
    rw [L _ _ ra, Rr _ _ ra]
    have e : ((64 - (64 - b % 64) % 64) % 64) = b % 64 := by omega
    rw [e]
theorem turns (w : Bool) {a b c : Int} (ra : InR .u64 a) (rb : InR .u64 b) (rc : InR .u64 c) : Turns w a b c := by
  cases w
  · exact turns32 a b c
  · exact turns64 ra rb rc
theorem baseW {k : Nat} (hk : k < 2) : ∃ w, ([106, 124] : List Int).getD k default = bas w ∧ (bas w = 106 ∨ bas w = 124) := by
  rcases (by omega : k = 0 ∨ k = 1) with rfl | rfl
  · exact ⟨false, rfl, .inl rfl⟩
  · exact ⟨true, rfl, .inr rfl⟩
theorem nn64 {w : Bool} (h : bas w = 124) : nn w = 64 := by cases w <;> revert h <;> decide
theorem nn32 {w : Bool} (h : ¬ bas w = 124) : nn w = 32 := by cases w <;> revert h <;> decide
end Wd
end Go.Proofs.YtkkhjaiaicmpaaaDoor
