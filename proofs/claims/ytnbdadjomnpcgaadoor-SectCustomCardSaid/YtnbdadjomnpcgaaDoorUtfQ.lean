/- Texts (UTF-8), in plain Lean: a character's bytes in numbers. No condition. -/
import Derived.Test.YtnbdadjomnpcgaaDoorUtfP
namespace Go.Proofs.YtnbdadjomnpcgaaDoor
open Go Go.RowKit
set_option linter.unusedVariables false
set_option linter.unusedSimpArgs false
namespace Utf
theorem tabx : ∀ c : Fin 256, (128 ≤ c.1 ∧ c.1 < 194 → Lib.firstT c.1 % 8 = 1) ∧ (194 ≤ c.1 ∧ c.1 < 224 → Lib.firstT c.1 % 8 = 2 ∧ Lib.accLo (Lib.firstT c.1 / 16) = 128 ∧ Lib.accHi (Lib.firstT c.1 / 16) = 191) ∧
    (224 ≤ c.1 ∧ c.1 < 240 → Lib.firstT c.1 % 8 = 3 ∧ Lib.accLo (Lib.firstT c.1 / 16) = (if c.1 = 224 then 160 else 128) ∧ Lib.accHi (Lib.firstT c.1 / 16) = (if c.1 = 237 then 159 else 191)) ∧
    (240 ≤ c.1 ∧ c.1 < 245 → Lib.firstT c.1 % 8 = 4 ∧ Lib.accLo (Lib.firstT c.1 / 16) = (if c.1 = 240 then 144 else 128) ∧ Lib.accHi (Lib.firstT c.1 / 16) = (if c.1 = 244 then 143 else 191)) ∧ (245 ≤ c.1 → Lib.firstT c.1 % 8 = 1) := by decide +kernel
section
variable {l : List Int} (r : InR .u8 (l.getD 0 default))
include r
omit r in
theorem chr1 (h : l.getD 0 default < 128) : chr l = 1 := by
  have e : sz (l.getD 0 default) = 1 := by unfold sz; rw [if_pos h]
  unfold chr; rw [e]; rfl
theorem chr0 (h : 128 ≤ l.getD 0 default ∧ l.getD 0 default < 192 ∨ 248 ≤ l.getD 0 default) : chr l = 0 := by
  dsimp only [InR] at r
  have t := tabx ⟨(l.getD 0 default).toNat, by omega⟩
  have e : sz (l.getD 0 default) = 0 := by
    unfold sz ft; rw [if_neg (by omega), if_pos]
    rcases h with h | h
    · exact t.1 (by constructor <;> (dsimp only; omega))
    · exact t.2.2.2.2 (by dsimp only; omega)
  unfold chr; rw [e]; rfl
theorem chr2 (h : 192 ≤ l.getD 0 default ∧ l.getD 0 default < 224) : chr l = if l.getD 0 default < 194 ∨ l.length < 2 ∨ l.getD 1 default < 128 ∨ 191 < l.getD 1 default then 0 else 2 := by
  dsimp only [InR] at r
  have t := tabx ⟨(l.getD 0 default).toNat, by omega⟩
  by_cases h4 : l.getD 0 default < 194
  · have e : sz (l.getD 0 default) = 0 := by
      unfold sz ft; rw [if_neg (by omega), if_pos (t.1 (by constructor <;> (dsimp only; omega)))]
    rw [if_pos (.inl h4)]; unfold chr; rw [e]; rfl
  · obtain ⟨t1, t2, t3⟩ := t.2.1 (by constructor <;> (dsimp only; omega))
    have e : sz (l.getD 0 default) = 2 := by unfold sz ft; rw [if_neg (by omega), t1]; rfl
    have e2 : lo (l.getD 0 default) = 128 := by unfold lo ft; rw [t2]; rfl
    have e3 : hi (l.getD 0 default) = 191 := by unfold hi ft; rw [t3]; rfl
    unfold chr; rw [e, e2, e3, if_neg (by omega)]
    split
    · rw [if_pos (by omega)]
    · rw [if_neg (by omega)]
theorem chr3 (h : 224 ≤ l.getD 0 default ∧ l.getD 0 default < 240) : chr l = if l.length < 3 ∨ (l.getD 0 default = 224 ∧ l.getD 1 default < 160) ∨ l.getD 1 default < 128 ∨ (l.getD 0 default = 237 ∧ 159 < l.getD 1 default) ∨ 191 < l.getD 1 default ∨ l.getD 2 default < 128 ∨ 191 < l.getD 2 default then 0 else 3 := by
  dsimp only [InR] at r
  have t := tabx ⟨(l.getD 0 default).toNat, by omega⟩
  obtain ⟨t1, t2, t3⟩ := t.2.2.1 (by constructor <;> (dsimp only; omega))
  have e : sz (l.getD 0 default) = 3 := by unfold sz ft; rw [if_neg (by omega), t1]; rfl
  have e2 : lo (l.getD 0 default) = if l.getD 0 default = 224 then 160 else 128 := by
    unfold lo ft; rw [t2]; dsimp only; split <;> split <;> omega
  have e3 : hi (l.getD 0 default) = if l.getD 0 default = 237 then 159 else 191 := by
    unfold hi ft; rw [t3]; dsimp only; split <;> split <;> omega
  unfold chr; rw [e, e2, e3, if_neg (by omega)]
  by_cases h1 : l.getD 0 default = 224
  · rw [if_pos h1, if_neg (show ¬ l.getD 0 default = 237 by omega)]
    split
    · rw [if_pos (by omega)]
    · rw [if_neg (by omega)]
  · rw [if_neg h1]
    by_cases h2 : l.getD 0 default = 237
    · rw [if_pos h2]
      split
      · rw [if_pos (by omega)]
      · rw [if_neg (by omega)]
    · rw [if_neg h2]
      split
      · rw [if_pos (by omega)]
      · rw [if_neg (by omega)]
theorem chr4 (h : 240 ≤ l.getD 0 default ∧ l.getD 0 default < 248) : chr l = if 244 < l.getD 0 default ∨ l.length < 4 ∨ (l.getD 0 default = 240 ∧ l.getD 1 default < 144) ∨ l.getD 1 default < 128 ∨ (l.getD 0 default = 244 ∧ 143 < l.getD 1 default) ∨ 191 < l.getD 1 default ∨ l.getD 2 default < 128 ∨ 191 < l.getD 2 default ∨ l.getD 3 default < 128 ∨ 191 < l.getD 3 default then 0 else 4 := by
  dsimp only [InR] at r
  have t := tabx ⟨(l.getD 0 default).toNat, by omega⟩
  by_cases h5 : 244 < l.getD 0 default
  · have e : sz (l.getD 0 default) = 0 := by
      unfold sz ft; rw [if_neg (by omega), if_pos (t.2.2.2.2 (by dsimp only; omega))]
    rw [if_pos (.inl h5)]; unfold chr; rw [e]; rfl
  · obtain ⟨t1, t2, t3⟩ := t.2.2.2.1 (by constructor <;> (dsimp only; omega))
    have e : sz (l.getD 0 default) = 4 := by unfold sz ft; rw [if_neg (by omega), t1]; rfl
    have e2 : lo (l.getD 0 default) = if l.getD 0 default = 240 then 144 else 128 := by
      unfold lo ft; rw [t2]; dsimp only; split <;> split <;> omega
    have e3 : hi (l.getD 0 default) = if l.getD 0 default = 244 then 143 else 191 := by
      unfold hi ft; rw [t3]; dsimp only; split <;> split <;> omega
    unfold chr; rw [e, e2, e3, if_neg (by omega)]
    by_cases h1 : l.getD 0 default = 240
    · rw [if_pos h1, if_neg (show ¬ l.getD 0 default = 244 by omega)]
      split
      · rw [if_pos (by omega)]
      · rw [if_neg (by omega)]
    · rw [if_neg h1]
      by_cases h2 : l.getD 0 default = 244
      · rw [if_pos h2]
        split
        · rw [if_pos (by omega)]
        · rw [if_neg (by omega)]
      · rw [if_neg h2]
        split
        · rw [if_pos (by omega)]
        · rw [if_neg (by omega)]
end
/-- the number of a character -/
def cp (c : Int) (l : List Int) : Nat → Int
  | 0 => c
  | 1 => c
  | k + 2 => 64 * cp c l (k + 1) + l.getD (k + 1) default - 128
theorem cp_succ (c : Int) (l : List Int) {k : Nat} (h : 1 ≤ k) : cp c l (k + 1) = 64 * cp c l k + l.getD k default - 128 := by
  obtain ⟨j, rfl⟩ : ∃ j, k = j + 1 := ⟨k - 1, by omega⟩
  rfl
def bd : Nat → Int
  | 0 => 32
  | 1 => 32
  | 2 => 2048
  | 3 => 131072
  | _ => 8388608
theorem bd_succ {k : Nat} (h1 : 1 ≤ k) (h : k < 4) : bd (k + 1) = 64 * bd k ∧ 0 ≤ bd k ∧ bd k ≤ 131072 := by
  rcases (by omega : k = 1 ∨ k = 2 ∨ k = 3) with rfl | rfl | rfl <;> decide
theorem bad_at {l : List Int} {k : Nat} (h1 : 1 ≤ k) (h4 : k < 4) (h : l.getD k default < 128 ∨ 191 < l.getD k default) :
    (k = 1 ∧ (l.getD 1 default < 128 ∨ 191 < l.getD 1 default)) ∨ (k = 2 ∧ (l.getD 2 default < 128 ∨ 191 < l.getD 2 default)) ∨ (k = 3 ∧ (l.getD 3 default < 128 ∨ 191 < l.getD 3 default)) := by
  rcases (by omega : k = 1 ∨ k = 2 ∨ k = 3) with rfl | rfl | rfl
  · exact .inl ⟨rfl, h⟩
  · exact .inr (.inl ⟨rfl, h⟩)
  · exact .inr (.inr ⟨rfl, h⟩)
end Utf
end Go.Proofs.YtnbdadjomnpcgaaDoor
