/- Numbers of 32 and 64 bits: quotients and rests of signed ones in the logic; what the plain operations come to. No condition. -/
import Derived.Test.YtkkhjaiaicmpaaaDoorKArr
import Derived.Test.YtkkhjaiaicmpaaaDoorKAny
import Derived.Lib.EndianBits
namespace Go.Proofs.YtkkhjaiaicmpaaaDoor
open Go Go.RowKit
set_option linter.unusedVariables false
set_option linter.unusedSimpArgs false
section
variable {P : Program} {E : Env} {H : Heap} {o : Oper}
theorem R.quoZ {T T' : TypeId} {x y : Operand} {k : IntKind} {a b : Int} (ho : o.op = .binOp .quo T x y T') (hx : ev E x = some (.int k a)) (hy : ev E y = some (.int k b)) (h1 : b ≠ 0) : Run P E H o (.int k (k.wrap (a.tdiv b))) :=
  bin_run ho hx hy fun w => by simp [binOp, Op.intDiv, Sem.run_pure, h1]
theorem R.remZ {T T' : TypeId} {x y : Operand} {k : IntKind} {a b : Int} (ho : o.op = .binOp .rem T x y T') (hx : ev E x = some (.int k a)) (hy : ev E y = some (.int k b)) (h1 : b ≠ 0) : Run P E H o (.int k (a.tmod b)) :=
  bin_run ho hx hy fun w => by simp [binOp, Op.intDiv, Sem.run_pure, h1]
end
namespace Wd
def M32 : Int := 4294967296
def M64 : Int := 18446744073709551616
theorem w32 (x : Int) : IntKind.u32.wrap x = x % 4294967296 := by simp [IntKind.wrap, IntKind.bits, IntKind.signed]
theorem w64 (x : Int) : IntKind.u64.wrap x = x % 18446744073709551616 := IntKind.wrap_u64 x
theorem wi32 (x : Int) : IntKind.i32.wrap x = if x % 4294967296 < 2147483648 then x % 4294967296 else x % 4294967296 - 4294967296 := by
  simp [IntKind.wrap, IntKind.bits, IntKind.signed]; split <;> split <;> omega
theorem wi64 (x : Int) : IntKind.i64.wrap x = if x % 18446744073709551616 < 9223372036854775808 then x % 18446744073709551616 else x % 18446744073709551616 - 18446744073709551616 := by
  simp [IntKind.wrap, IntKind.bits, IntKind.signed]; split <;> split <;> omega
/-- turned left by r -/
def rot (k : IntKind) (n x r : Int) : Int := bits .or k (k.wrap (x * 2 ^ (min r.toNat k.bits))) (x / 2 ^ (min (n - r).toNat k.bits))
/-- the plain operations of a kind k, of n bits; ks: signed -/
def pl (k ks : IntKind) (n i a b : Int) : Int :=
  if i = 0 then k.wrap (a + b) else if i = 1 then k.wrap (a - b) else if i = 2 then k.wrap (a * b) else if i = 7 then bits .and k a b else if i = 8 then bits .or k a b else if i = 9 then bits .xor k a b
  else if i = 10 then k.wrap (a * 2 ^ (min (b % n).toNat k.bits)) else if i = 11 then k.wrap (ks.wrap a / 2 ^ (min (b % n).toNat ks.bits)) else if i = 12 then a / 2 ^ (min (b % n).toNat k.bits)
  else if i = 13 then rot k n a (b % n) else rot k n a ((n - b % n) % n)
theorem rot_and32 : ∀ j : Fin 32, bits .and .u64 (j.1 : Int) 31 = (j.1 : Int) ∧ bits .and .u64 (IntKind.u64.wrap (-(j.1 : Int))) 31 = (32 - (j.1 : Int)) % 32 := by decide +kernel
theorem rot_and64 : ∀ j : Fin 64, bits .and .u64 (j.1 : Int) 63 = (j.1 : Int) ∧ bits .and .u64 (IntKind.u64.wrap (-(j.1 : Int))) 63 = (64 - (j.1 : Int)) % 64 := by decide +kernel
theorem neg64 {a : Int} (h : 0 ≤ a ∧ a < 64) : IntKind.i64.wrap (0 - a) = -a := by rw [wi64]; split <;> omega
theorem u64nn {a : Int} (h : 0 ≤ a ∧ a < 64) : IntKind.u64.wrap a = a := by rw [w64]; omega
end Wd
end Go.Proofs.YtkkhjaiaicmpaaaDoor
