/- The document's compares are those of signed numbers: plain laws. No condition. -/
import Derived.Test.YtkkhjaiaicmpaaaDoorWordY
namespace Go.Proofs.YtkkhjaiaicmpaaaDoor
open Go Go.RowKit
set_option linter.unusedVariables false
set_option linter.unusedSimpArgs false
namespace Wr
theorem sg32 {a : Nat} (h : a < 4294967296) : IntKind.i64.wrap (IntKind.i32.wrap (a : Int)) = if neg a 32 = true then -((mag a 32 : Nat) : Int) else ((mag a 32 : Nat) : Int) := by
  have e1 : (2 : Nat) ^ (32 - 1) = 2147483648 := by decide
  unfold neg mag
  rw [e1, e32, Wd.wi64, Wd.wi32]
  simp only [decide_eq_true_eq]
  repeat' split
  all_goals omega
theorem sg64 {a : Nat} (h : a < 18446744073709551616) : IntKind.i64.wrap (a : Int) = if neg a 64 = true then -((mag a 64 : Nat) : Int) else ((mag a 64 : Nat) : Int) := by
  have e1 : (2 : Nat) ^ (64 - 1) = 9223372036854775808 := by decide
  unfold neg mag
  rw [e1, e64, Wd.wi64]
  simp only [decide_eq_true_eq]
  repeat' split
  all_goals omega
theorem below_lt {a b n : Nat} {s t : Int} (hs : s = if neg a n = true then -((mag a n : Nat) : Int) else ((mag a n : Nat) : Int)) (ht : t = if neg b n = true then -((mag b n : Nat) : Int) else ((mag b n : Nat) : Int)) (ha : neg a n = true → 0 < mag a n) (hb : neg b n = true → 0 < mag b n) : below a b n = decide (s < t) := by
  unfold below
  subst hs ht
  cases h1 : neg a n <;> cases h2 : neg b n <;> simp [h1, h2] at ha hb ⊢ <;> omega
end Wr
end Go.Proofs.YtkkhjaiaicmpaaaDoor
