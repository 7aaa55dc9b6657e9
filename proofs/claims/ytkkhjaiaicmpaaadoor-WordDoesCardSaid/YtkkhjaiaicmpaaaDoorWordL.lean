/- Numbers of 32 bits: what is told of them hangs on the low 32 bits alone, and is below 2^32; what compares is 0 or 1. No condition. -/
import Derived.Test.YtkkhjaiaicmpaaaDoorWordI
import Derived.Test.YtkkhjaiaicmpaaaDoorWordT
namespace Go.Proofs.YtkkhjaiaicmpaaaDoor
open Go Go.RowKit
set_option linter.unusedVariables false
set_option linter.unusedSimpArgs false
namespace Wd
theorem xor_low {a c : Int} (hc : c % 4294967296 = 0) : bits .xor .u64 a c % 4294967296 = a % 4294967296 := by
  rw [show bits .xor .u64 a c = Tv (Bv .u64 a ^^^ Bv .u64 c) from xorB h64 a c]
  unfold Tv
  rw [BitVec.toNat_xor]
  have e1 : ((Bv .u64 a).toNat ^^^ (Bv .u64 c).toNat) % 2 ^ 32 = (Bv .u64 a).toNat % 2 ^ 32 ^^^ (Bv .u64 c).toNat % 2 ^ 32 := Nat.xor_mod_two_pow
  have ea : ((Bv .u64 a).toNat : Int) = a % 18446744073709551616 := by
    have := wrapB h64 a; rw [w64] at this; exact this.symm
  have ec : ((Bv .u64 c).toNat : Int) = c % 18446744073709551616 := by
    have := wrapB h64 c; rw [w64] at this; exact this.symm
  have ec0 : (Bv .u64 c).toNat % 2 ^ 32 = 0 := by have : (2 : Nat) ^ 32 = 4294967296 := by decide
                                                  omega
  rw [ec0, Nat.xor_zero] at e1
  have : (2 : Nat) ^ 32 = 4294967296 := by decide
  rw [this] at e1
  omega
theorem shl_low (h : Int) : IntKind.u64.wrap (h * 2 ^ (min (32 : Int).toNat IntKind.u64.bits)) % 4294967296 = 0 := by
  rw [w64, show (2 : Int) ^ (min (32 : Int).toNat IntKind.u64.bits) = 4294967296 by decide +kernel]; omega
/-- what is told of i32 -/
def Low (op : Int) : Prop := op = 69 ∨ (70 ≤ op ∧ op ≤ 79) ∨ (103 ≤ op ∧ op ≤ 105) ∨ (106 ≤ op ∧ op ≤ 120)
theorem u32c {a c : Int} (h : c % 4294967296 = a % 4294967296) : u32 c = u32 a := by rw [u32e, u32e, h]
theorem i32c {a c : Int} (h : c % 4294967296 = a % 4294967296) : IntKind.i32.wrap c = IntKind.i32.wrap a := by rw [wi32, wi32, h]
theorem E69 (a b : Int) : E 69 a b = (one (decide (u64 (u32 a) = 0)), 0) := rfl
theorem E70 {op : Int} (h : 70 ≤ op ∧ op ≤ 79) (a b : Int) : E op a b = (cmp (op - 70) (i32 a) (i32 b) (u64 (u32 a)) (u64 (u32 b)), 0) := by
  unfold E; rw [if_neg (by omega), if_neg (by omega), if_pos h]
theorem E103 {op : Int} (h : 103 ≤ op ∧ op ≤ 105) (a b : Int) : E op a b = (cnt (op - 103) (u64 (u32 a)) 32, 0) := by
  unfold E; rw [if_neg (by omega), if_neg (by omega), if_neg (by omega), if_neg (by omega), if_pos h]
theorem D109r {op : Int} (h : 109 ≤ op ∧ op ≤ 112) (a b : Int) : D op a b = (u64 (u32 (d32 (op - 109) a b).1), (d32 (op - 109) a b).2) := by
  unfold D; rw [if_neg (by omega), if_neg (by omega), if_pos h]
theorem D106r {op : Int} (h : 106 ≤ op ∧ op ≤ 120) (h2 : ¬ (109 ≤ op ∧ op ≤ 112)) (a b : Int) : D op a b = (p32 (op - 106) a b, 0) := by
  unfold D; rw [if_neg (by omega), if_neg (by omega), if_neg h2, if_pos (by omega)]
theorem E_low {op a b c d : Int} (h : Low op) (ha : c % 4294967296 = a % 4294967296) (hb : d % 4294967296 = b % 4294967296) : E op c d = E op a b := by
  have h1 := u32c ha; have h2 := u32c hb; have h3 := i32c ha; have h4 := i32c hb
  rcases h with rfl | h | h | h
  · rw [E69, E69, h1]
  · rw [E70 h, E70 h]; unfold i32; rw [h1, h2, h3, h4]
  · rw [E103 h, E103 h, h1]
  · rw [E_sup _ _ (.inl h), E_sup _ _ (.inl h)]
    by_cases hd : 109 ≤ op ∧ op ≤ 112
    · rw [D109r hd, D109r hd]; unfold d32; rw [h1, h2, h3, h4]
    · rw [D106r h hd, D106r h hd]; unfold p32; rw [h1, h2]
theorem one01 (b : Bool) : 0 ≤ one b ∧ one b ≤ 1 := by unfold one; split <;> omega
theorem cmp01 (i s t a b : Int) : 0 ≤ cmp i s t a b ∧ cmp i s t a b ≤ 1 := by
  unfold cmp; repeat' (first | exact one01 _ | split)
theorem u64u32R (x : Int) : 0 ≤ u64 (u32 x) ∧ u64 (u32 x) < 4294967296 := by rw [u64u32]; omega
theorem cnt32 (i x : Int) (h : x.toNat < 2 ^ 32) : 0 ≤ cnt i x 32 ∧ cnt i x 32 < 4294967296 := by
  have h1 := bitLen_le h
  have h2 := ones_R x
  unfold cnt; repeat' split
  all_goals omega
theorem or32 (o : BinOp) (a b : Int) : InR .u32 (bits o .u32 a b) := by unfold bits; exact r32 _
theorem pl32R (i : Int) {a b : Int} (ra : InR .u32 a) : InR .u32 (pl .u32 .i32 32 i a b) := by
  unfold pl rot
  repeat' (first | exact r32 _ | exact or32 _ _ _ | split)
  all_goals
    (dsimp only [InR] at ra ⊢
     exact ⟨Int.ediv_nonneg ra.1 (Int.le_of_lt (Int.pow_pos (by omega))), Int.le_trans (Int.ediv_le_self _ ra.1) ra.2⟩)
theorem p32R (i a b : Int) : 0 ≤ p32 i a b ∧ p32 i a b < 4294967296 := by
  have := pl32R i (b := u32 b) (r32 a)
  unfold p32; rw [u64e]; dsimp only [InR] at this; omega
theorem E_lt {op : Int} (a b : Int) (h : Low op) : (E op a b).1 < 4294967296 := by
  rcases h with rfl | h | h | h
  · rw [E69]; have := one01 (decide (u64 (u32 a) = 0)); dsimp only; omega
  · rw [E70 h]; have := cmp01 (op - 70) (i32 a) (i32 b) (u64 (u32 a)) (u64 (u32 b)); dsimp only; omega
  · rw [E103 h]; exact (cnt32 _ _ (lt32 a)).2
  · rw [E_sup _ _ (.inl h)]
    by_cases hd : 109 ≤ op ∧ op ≤ 112
    · rw [D109r hd]; exact (u64u32R _).2
    · rw [D106r h hd]; exact (p32R _ _ _).2
theorem E_cmp {op : Int} (a b : Int) (h : 69 ≤ op ∧ op ≤ 90) : (E op a b).1 ≤ 1 := by
  unfold E
  repeat' (first | exact (one01 _).2 | exact (cmp01 _ _ _ _ _).2 | split)
  all_goals first | (exfalso; omega) | (dsimp only; omega)
theorem dv_trap {k s t a b mn : Int} (h : (dv k s t a b mn).2 ≠ 0) : (dv k s t a b mn).1 = 0 := by
  unfold dv at h ⊢
  repeat' (first | rfl | (exfalso; exact h rfl) | split at h)
  all_goals first | (exfalso; exact h rfl) | simp_all
theorem D_trap {op a b : Int} (h : (D op a b).2 ≠ 0) : (D op a b).1 = 0 := by
  unfold D at h ⊢
  split
  · rfl
  · rename_i h1; rw [if_neg h1] at h
    split
    · rename_i h2; rw [if_pos h2] at h; exact absurd rfl h
    · rename_i h2; rw [if_neg h2] at h
      split
      · rename_i h3; rw [if_pos h3] at h
        have := dv_trap (show (d32 (op - 109) a b).2 ≠ 0 from h)
        show u64 (u32 (d32 (op - 109) a b).1) = 0
        unfold d32; rw [this]; rfl
      · rename_i h3; rw [if_neg h3] at h
        split
        · rename_i h4; rw [if_pos h4] at h; exact absurd rfl h
        · rename_i h4; rw [if_neg h4] at h
          split
          · rename_i h5; rw [if_pos h5] at h
            exact dv_trap (show (d64 (op - 127) a b).2 ≠ 0 from h)
          · rename_i h5; rw [if_neg h5] at h; exact absurd rfl h
theorem E_trap {op a b : Int} (h : (E op a b).2 ≠ 0) : (E op a b).1 = 0 := by
  by_cases h0 : ar op = 0
  · rw [E_none a b h0]
  by_cases h1 : (106 ≤ op ∧ op ≤ 120) ∨ (124 ≤ op ∧ op ≤ 138) ∨ op = 172
  · rw [E_sup a b h1] at h ⊢; exact D_trap h
  · exfalso; apply h
    unfold E
    repeat' (first | rfl | split)
    all_goals (exfalso; apply h0; unfold ar; rw [if_neg (by omega), if_neg (by omega)])
theorem dvR2 (k s t : Int) {a b mn : Int} : InR .u8 (dv k s t a b mn).2 := by
  unfold dv; repeat' split
  all_goals (dsimp only [InR]; omega)
end Wd
end Go.Proofs.YtkkhjaiaicmpaaaDoor
