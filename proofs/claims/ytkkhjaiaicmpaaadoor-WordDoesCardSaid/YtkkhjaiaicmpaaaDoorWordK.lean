/- The document's bits are those of the plain operations: plain laws. No condition. -/
import Derived.Test.YtkkhjaiaicmpaaaDoorWordZ
import Derived.Test.YtkkhjaiaicmpaaaDoorWordT
namespace Go.Proofs.YtkkhjaiaicmpaaaDoor
open Go Go.RowKit
set_option linter.unusedVariables false
set_option linter.unusedSimpArgs false
namespace Wr
def wN : List Nat → Nat
  | [] => 0
  | x :: l => 2 * wN l + x
theorem with_wN : ∀ l : List Nat, with_ (l.map fun x : Nat => (x : Int)) = (wN l : Int)
  | [] => rfl
  | x :: l => by
    simp only [List.map_cons, with_, wN]
    rw [with_wN l]; omega
theorem wN_test : ∀ (l : List Nat), (∀ x ∈ l, x ≤ 1) → ∀ i, (wN l).testBit i = decide (l.getD i 0 = 1)
  | [], _, i => by simp [wN]
  | x :: l, h, 0 => by
    have := h x List.mem_cons_self
    rw [Nat.testBit_zero]
    simp only [wN, List.getD_cons_zero]
    exact decide_eq_decide.2 (by omega)
  | x :: l, h, i + 1 => by
    have := h x List.mem_cons_self
    rw [Nat.testBit_succ, show wN (x :: l) / 2 = wN l by simp only [wN]; omega, wN_test l (fun y hy => h y (List.mem_cons_of_mem _ hy)) i, List.getD_cons_succ]
theorem bitB (a i : Nat) : bit a i = if a.testBit i = true then 1 else 0 := by
  have h := bit_lt a i
  rw [Nat.testBit_eq_decide_div_mod_eq]
  unfold bit at h ⊢
  simp only [decide_eq_true_eq]
  split <;> omega
theorem with_bits {n : Nat} (X : BitVec n) (f : Nat → Nat) (hf : ∀ i, i < n → f i = if X.getLsbD i = true then 1 else 0) : with_ ((List.range n).map fun i => ((f i : Nat) : Int)) = (X.toNat : Int) := by
  have e : (List.range n).map (fun i => ((f i : Nat) : Int)) = ((List.range n).map f).map (fun x : Nat => (x : Int)) := by rw [List.map_map]; rfl
  rw [e, with_wN]
  congr 1
  apply Nat.eq_of_testBit_eq
  intro i
  rw [wN_test]
  · by_cases hi : i < n
    · rw [show ((List.range n).map f).getD i 0 = f i by simp [List.getD_eq_getElem?_getD, hi], hf i hi]
      show _ = X.getLsbD i
      cases X.getLsbD i <;> rfl
    · rw [show ((List.range n).map f).getD i 0 = 0 by simp [List.getD_eq_getElem?_getD, hi]]
      show _ = X.getLsbD i
      rw [BitVec.getLsbD_of_ge X i (by omega)]; rfl
  · intro x hx
    obtain ⟨i, hi, rfl⟩ := List.mem_map.1 hx
    rw [hf i (List.mem_range.1 hi)]
    split <;> omega
def opB {n : Nat} (kd : Nat) (X : BitVec n) (b : Nat) (Y : BitVec n) : BitVec n :=
  if kd = 0 then X &&& Y else if kd = 1 then X ||| Y else if kd = 2 then X ^^^ Y else if kd = 3 then X <<< (b % n) else if kd = 4 then X.sshiftRight (b % n) else if kd = 5 then X >>> (b % n)
  else if kd = 6 then X.rotateLeft (b % n) else X.rotateLeft ((n - b % n) % n)
theorem bitN {n a : Nat} (ha : a < 2 ^ n) (i : Nat) : bit a i = if (BitVec.ofNat n a).getLsbD i = true then 1 else 0 := by
  rw [bitB]
  show _ = if ((BitVec.ofNat n a).toNat.testBit i) = true then 1 else 0
  rw [BitVec.toNat_ofNat, Nat.mod_eq_of_lt ha]
theorem ifs {p q : Bool} (h : p = q) : (if p = true then 1 else 0) = (if q = true then 1 else 0) := by rw [h]
theorem bitF_op {n a b kd : Nat} (hn : 0 < n) (hk : kd < 8) (ha : a < 2 ^ n) (hb : b < 2 ^ n) {i : Nat} (hi : i < n) : bitF kd a b n i = if (opB kd (BitVec.ofNat n a) b (BitVec.ofNat n b)).getLsbD i = true then 1 else 0 := by
  have hm := Nat.mod_lt b hn
  unfold bitF opB
  rcases (by omega : kd = 0 ∨ kd = 1 ∨ kd = 2 ∨ kd = 3 ∨ kd = 4 ∨ kd = 5 ∨ kd = 6 ∨ kd = 7) with rfl | rfl | rfl | rfl | rfl | rfl | rfl | rfl
  · simp only [if_true]
    rw [bitN ha, bitN hb, BitVec.getLsbD_and]
    cases (BitVec.ofNat n a).getLsbD i <;> cases (BitVec.ofNat n b).getLsbD i <;> rfl
  · simp only [show ¬ (1 : Nat) = 0 by decide, if_false, if_true]
    rw [bitN ha, bitN hb, BitVec.getLsbD_or]
    cases (BitVec.ofNat n a).getLsbD i <;> cases (BitVec.ofNat n b).getLsbD i <;> rfl
  · simp only [show ¬ (2 : Nat) = 0 by decide, show ¬ (2 : Nat) = 1 by decide, if_false, if_true]
    rw [bitN ha, bitN hb, BitVec.getLsbD_xor]
    cases (BitVec.ofNat n a).getLsbD i <;> cases (BitVec.ofNat n b).getLsbD i <;> rfl
  · simp only [show ¬ (3 : Nat) = 0 by decide, show ¬ (3 : Nat) = 1 by decide, show ¬ (3 : Nat) = 2 by decide, if_false, if_true]
    rw [BitVec.getLsbD_shiftLeft]
    split
    · rename_i h
      rw [bitN ha]
      exact ifs (by simp [hi, show ¬ i < b % n by omega])
    · rename_i h
      simp [show i < b % n by omega]
  · simp only [show ¬ (4 : Nat) = 0 by decide, show ¬ (4 : Nat) = 1 by decide, show ¬ (4 : Nat) = 2 by decide, show ¬ (4 : Nat) = 3 by decide, if_false, if_true]
    rw [BitVec.getLsbD_sshiftRight]
    split
    · rename_i h
      rw [bitN ha]
      exact ifs (by rw [Nat.add_comm i]; simp [show ¬ n ≤ i by omega, show b % n + i < n by omega])
    · rename_i h
      rw [bitN ha]
      exact ifs (by simp [show ¬ n ≤ i by omega, show ¬ b % n + i < n by omega, BitVec.msb_eq_getLsbD_last])
  · simp only [show ¬ (5 : Nat) = 0 by decide, show ¬ (5 : Nat) = 1 by decide, show ¬ (5 : Nat) = 2 by decide, show ¬ (5 : Nat) = 3 by decide, show ¬ (5 : Nat) = 4 by decide, if_false, if_true]
    rw [BitVec.getLsbD_ushiftRight]
    split
    · rename_i h
      rw [bitN ha, Nat.add_comm]
    · rename_i h
      rw [BitVec.getLsbD_of_ge _ _ (by omega)]; rfl
  · simp only [show ¬ (6 : Nat) = 0 by decide, show ¬ (6 : Nat) = 1 by decide, show ¬ (6 : Nat) = 2 by decide, show ¬ (6 : Nat) = 3 by decide, show ¬ (6 : Nat) = 4 by decide, show ¬ (6 : Nat) = 5 by decide, if_false, if_true]
    rw [BitVec.getLsbD_rotateLeft, Nat.mod_mod, bitN ha]
    by_cases h : i < b % n
    · rw [Nat.mod_eq_of_lt (show i + n - b % n < n by omega), show i + n - b % n = n - b % n + i by omega]
      exact ifs (by simp [h])
    · rw [show i + n - b % n = (i - b % n) + n by omega, Nat.add_mod_right, Nat.mod_eq_of_lt (show i - b % n < n by omega)]
      exact ifs (by simp [hi, h])
  · simp only [show ¬ (7 : Nat) = 0 by decide, show ¬ (7 : Nat) = 1 by decide, show ¬ (7 : Nat) = 2 by decide, show ¬ (7 : Nat) = 3 by decide, show ¬ (7 : Nat) = 4 by decide, show ¬ (7 : Nat) = 5 by decide, show ¬ (7 : Nat) = 6 by decide, if_false]
    rw [BitVec.getLsbD_rotateLeft, Nat.mod_mod, bitN ha]
    by_cases h0 : b % n = 0
    · rw [h0, Nat.sub_zero, Nat.mod_self, Nat.add_zero, Nat.mod_eq_of_lt hi]
      exact ifs (by simp [hi])
    · rw [Nat.mod_eq_of_lt (show n - b % n < n by omega)]
      by_cases h : i < n - b % n
      · rw [Nat.mod_eq_of_lt (show i + b % n < n by omega), show i + b % n = n - (n - b % n) + i by omega]
        exact ifs (by simp [h])
      · rw [show i + b % n = (i - (n - b % n)) + n by omega, Nat.add_mod_right, Nat.mod_eq_of_lt (show i - (n - b % n) < n by omega)]
        exact ifs (by simp [hi, h])
/-- the document's bits together -/
theorem rows_op {n a b kd : Nat} (hn : 0 < n) (hk : kd < 8) (ha : a < 2 ^ n) (hb : b < 2 ^ n) : with_ (rows kd a b n n) = ((opB kd (BitVec.ofNat n a) b (BitVec.ofNat n b)).toNat : Int) :=
  with_bits _ _ fun i hi => bitF_op hn hk ha hb hi
end Wr
namespace Wd
section
variable {k : IntKind} (hw : ∀ x, k.wrap x = x % ((2 ^ k.bits : Nat) : Int))
include hw
omit hw in
theorem BvN (n : Nat) : Bv k (n : Int) = BitVec.ofNat k.bits n := by unfold Bv; rw [BitVec.ofInt_natCast]
theorem shlB {n m : Nat} (hn : n < 2 ^ k.bits) : k.wrap ((n : Int) * 2 ^ m) = Tv (BitVec.ofNat k.bits n <<< m) := by
  rw [wrapB hw]; unfold Tv; congr 2
  apply BitVec.eq_of_toNat_eq
  rw [BitVec.toNat_shiftLeft, BitVec.toNat_ofNat, Nat.mod_eq_of_lt hn, Nat.shiftLeft_eq]
  have : (n : Int) * 2 ^ m = ((n * 2 ^ m : Nat) : Int) := by simp
  rw [this, BvN, BitVec.toNat_ofNat]
omit hw in
theorem shrB {n m : Nat} (hn : n < 2 ^ k.bits) : (n : Int) / 2 ^ m = Tv (BitVec.ofNat k.bits n >>> m) := by
  unfold Tv
  rw [BitVec.toNat_ushiftRight, BitVec.toNat_ofNat, Nat.mod_eq_of_lt hn, Nat.shiftRight_eq_div_pow]
  simp
theorem sshrB {m : Nat} (X : BitVec k.bits) : k.wrap (X.toInt / 2 ^ m) = Tv (X.sshiftRight m) := by
  rw [wrapB hw]; unfold Tv Bv
  rw [BitVec.sshiftRight_eq, Int.shiftRight_eq_div_pow]
  simp
end
end Wd
end Go.Proofs.YtkkhjaiaicmpaaaDoor
