/- Contracts of functions of the standard library at this program, laid by the kit. No condition but those that each states. -/
import Derived.Shelf.Strings.Fields
import Derived.Shelf.Unicode.Latin
import Derived.Shelf.Unicode.Is16White
import Derived.Shelf.Unicode.IsSpaceAny
import Derived.Shelf.Unicode.Is16Any
import Derived.Shelf.Unicode.Is32Any
import Derived.Shelf.Unicode.ExclAny
import Derived.Test.YthgdaacbhcondaaDoorProg
namespace Go.Proofs
open Go.Shelf
def Tryd.lays157_ren : Go.Shelf.Ren := ⟨fun | 157 => 28 | 229 => 29 | 199 => 30 | 261 => 31 | 311 => 32 | 312 => 33 | n => n, fun | 9 => 9 | 31 => 46 | 3 => 3 | 5 => 5 | 4 => 4 | 119 => 49 | 0 => 0 | 40 => 51 | 152 => 52 | 21 => 21 | 154 => 54 | 51 => 55 | 141 => 57 | 196 => 61 | 193 => 58 | 198 => 64 | 49 => 62 | 194 => 59 | 201 => 67 | 226 => 69 | 46 => 70 | 227 => 71 | n => n, fun | 0 => 0 | 6 => 1 | n => n⟩
theorem Tryd.lays157 : Go.Proofs.Lays.n157 Tryd.prog Tryd.lays157_ren := {
  mixed := by kernel_rfl
  f157 := Tryd.func28.trans (congrArg some (by kernel_rfl))
  f199 := Tryd.func30.trans (congrArg some (by kernel_rfl))
  f229 := Tryd.func29.trans (congrArg some (by kernel_rfl))
  f261 := Tryd.func31.trans (congrArg some (by kernel_rfl))
  f311 := Tryd.func32.trans (congrArg some (by kernel_rfl))
  f312 := Tryd.func33.trans (congrArg some (by kernel_rfl))
  t0 := Tryd.underlying0
  a0 := Tryd.isAgg0
  z0 := Tryd.sizeOf0
  v0 := Tryd.zeroValue0
  t3 := Tryd.underlying3
  a3 := Tryd.isAgg3
  z3 := Tryd.sizeOf3
  v3 := Tryd.zeroValue3
  t4 := Tryd.underlying4
  a4 := Tryd.isAgg4
  z4 := Tryd.sizeOf4
  v4 := Tryd.zeroValue4
  t5 := Tryd.underlying5
  a5 := Tryd.isAgg5
  z5 := Tryd.sizeOf5
  v5 := Tryd.zeroValue5
  t9 := Tryd.underlying9
  a9 := Tryd.isAgg9
  z9 := Tryd.sizeOf9
  v9 := Tryd.zeroValue9
  t21 := Tryd.underlying21
  a21 := Tryd.isAgg21
  z21 := Tryd.sizeOf21
  v21 := Tryd.zeroValue21
  t31 := Tryd.underlying46
  a31 := Tryd.isAgg46
  z31 := Tryd.sizeOf46
  v31 := Tryd.zeroValue46
  t40 := Tryd.underlying51
  a40 := Tryd.isAgg51
  z40 := Tryd.sizeOf51
  v40 := Tryd.zeroValue51
  t46 := Tryd.underlying70
  a46 := Tryd.isAgg70
  z46 := Tryd.sizeOf70
  v46 := Tryd.zeroValue70
  t49 := Tryd.underlying62
  a49 := Tryd.isAgg62
  z49 := Tryd.sizeOf62
  v49 := Tryd.zeroValue62
  t51 := Tryd.underlying55
  a51 := Tryd.isAgg55
  z51 := Tryd.sizeOf55
  v51 := Tryd.zeroValue55
  t119 := Tryd.underlying49
  a119 := Tryd.isAgg49
  z119 := Tryd.sizeOf49
  t141 := Tryd.underlying57
  a141 := Tryd.isAgg57
  z141 := Tryd.sizeOf57
  v141 := Tryd.zeroValue57
  t152 := Tryd.underlying52
  a152 := Tryd.isAgg52
  z152 := Tryd.sizeOf52
  v152 := Tryd.zeroValue52
  t154 := Tryd.underlying54
  a154 := Tryd.isAgg54
  z154 := Tryd.sizeOf54
  v154 := Tryd.zeroValue54
  t193 := Tryd.underlying58
  a193 := Tryd.isAgg58
  z193 := Tryd.sizeOf58
  v193 := Tryd.zeroValue58
  t194 := Tryd.underlying59
  a194 := Tryd.isAgg59
  z194 := Tryd.sizeOf59
  v194 := Tryd.zeroValue59
  t196 := Tryd.underlying61
  a196 := Tryd.isAgg61
  z196 := Tryd.sizeOf61
  v196 := Tryd.zeroValue61
  t198 := Tryd.underlying64
  a198 := Tryd.isAgg64
  z198 := Tryd.sizeOf64
  v198 := Tryd.zeroValue64
  t201 := Tryd.underlying67
  a201 := Tryd.isAgg67
  z201 := Tryd.sizeOf67
  v201 := Tryd.zeroValue67
  t226 := Tryd.underlying69
  a226 := Tryd.isAgg69
  z226 := Tryd.sizeOf69
  v226 := Tryd.zeroValue69
  t227 := Tryd.underlying71
  a227 := Tryd.isAgg71
  z227 := Tryd.sizeOf71
  v227 := Tryd.zeroValue71
  g0 := by kernel_rfl
  g6 := by kernel_rfl }
open Go.RowKit Go.Lib in
/-- strings.Fields, the table by 'Lib.TabIs' (as strings.TrimSpace's contract). 'hg': the table's number, by its name: at a dump 'by kernel_rfl'. (LAID: no walk: one application.) -/
theorem Tryd.strings_Fields (s : ByteArray) (w : World) (hs : s.size < 4294967281) (hascii : ∀ (j : Nat) b, s.data.toList[j]? = some b → b.toNat < 128) (htab : Lib.TabIs Tryd.prog w "strings.asciiSpace" .u8 Lib.asciiSpaceTab) :
    Calls Tryd.prog 28 #[.string s] w fun e w' =>
      e = .returned (.slice (some ⟨w.heap.size, 0, none⟩) (Lib.fields s.data.toList).length (Lib.fields s.data.toList).length) ∧ w' = w.alloc (.cells ((Lib.fields s.data.toList).map fun l => Value.string ⟨l.toArray⟩).toArray 9) := Any.strings_Fields Tryd.lays157 (by kernel_rfl) (by kernel_rfl) s w hs hascii htab
def Tryd.lays199_ren : Go.Shelf.Ren := ⟨fun | 199 => 30 | 261 => 31 | 311 => 32 | 312 => 33 | n => n, fun | 21 => 21 | 4 => 4 | 51 => 55 | 141 => 57 | 0 => 0 | 196 => 61 | 193 => 58 | 3 => 3 | 198 => 64 | 49 => 62 | 194 => 59 | 201 => 67 | 226 => 69 | 46 => 70 | 227 => 71 | n => n, fun | 6 => 1 | n => n⟩
theorem Tryd.lays199 : Go.Proofs.Lays.n199 Tryd.prog Tryd.lays199_ren := {
  mixed := by kernel_rfl
  f199 := Tryd.func30.trans (congrArg some (by kernel_rfl))
  f261 := Tryd.func31.trans (congrArg some (by kernel_rfl))
  f311 := Tryd.func32.trans (congrArg some (by kernel_rfl))
  f312 := Tryd.func33.trans (congrArg some (by kernel_rfl))
  t0 := Tryd.underlying0
  a0 := Tryd.isAgg0
  z0 := Tryd.sizeOf0
  v0 := Tryd.zeroValue0
  t3 := Tryd.underlying3
  a3 := Tryd.isAgg3
  z3 := Tryd.sizeOf3
  v3 := Tryd.zeroValue3
  t4 := Tryd.underlying4
  a4 := Tryd.isAgg4
  z4 := Tryd.sizeOf4
  v4 := Tryd.zeroValue4
  t21 := Tryd.underlying21
  a21 := Tryd.isAgg21
  z21 := Tryd.sizeOf21
  v21 := Tryd.zeroValue21
  t46 := Tryd.underlying70
  a46 := Tryd.isAgg70
  z46 := Tryd.sizeOf70
  v46 := Tryd.zeroValue70
  t49 := Tryd.underlying62
  a49 := Tryd.isAgg62
  z49 := Tryd.sizeOf62
  v49 := Tryd.zeroValue62
  t51 := Tryd.underlying55
  a51 := Tryd.isAgg55
  z51 := Tryd.sizeOf55
  v51 := Tryd.zeroValue55
  t141 := Tryd.underlying57
  a141 := Tryd.isAgg57
  z141 := Tryd.sizeOf57
  v141 := Tryd.zeroValue57
  t193 := Tryd.underlying58
  a193 := Tryd.isAgg58
  z193 := Tryd.sizeOf58
  v193 := Tryd.zeroValue58
  t194 := Tryd.underlying59
  a194 := Tryd.isAgg59
  z194 := Tryd.sizeOf59
  v194 := Tryd.zeroValue59
  t196 := Tryd.underlying61
  a196 := Tryd.isAgg61
  z196 := Tryd.sizeOf61
  v196 := Tryd.zeroValue61
  t198 := Tryd.underlying64
  a198 := Tryd.isAgg64
  z198 := Tryd.sizeOf64
  v198 := Tryd.zeroValue64
  t201 := Tryd.underlying67
  a201 := Tryd.isAgg67
  z201 := Tryd.sizeOf67
  v201 := Tryd.zeroValue67
  t226 := Tryd.underlying69
  a226 := Tryd.isAgg69
  z226 := Tryd.sizeOf69
  v226 := Tryd.zeroValue69
  t227 := Tryd.underlying71
  a227 := Tryd.isAgg71
  z227 := Tryd.sizeOf71
  v227 := Tryd.zeroValue71
  g6 := by kernel_rfl }
open Go.RowKit Go.Lib in
theorem Tryd.unicode_IsSpace (r : Int) (w : World) (h0 : 0 ≤ r) (h : r ≤ 255) :
    Calls Tryd.prog 30 #[.int .i32 r] w fun e w' => e = .returned (.bool (Lib.isSpaceL r)) ∧ w' = w := Any.unicode_IsSpace Tryd.lays199 r w h0 h
def Tryd.lays311_ren : Go.Shelf.Ren := ⟨fun | 311 => 32 | n => n, fun | 193 => 58 | 49 => 62 | 4 => 4 | 3 => 3 | 0 => 0 | 226 => 69 | 198 => 64 | 46 => 70 | n => n, fun | n => n⟩
theorem Tryd.lays311 : Go.Proofs.Lays.n311 Tryd.prog Tryd.lays311_ren := {
  mixed := by kernel_rfl
  f311 := Tryd.func32.trans (congrArg some (by kernel_rfl))
  t0 := Tryd.underlying0
  a0 := Tryd.isAgg0
  z0 := Tryd.sizeOf0
  v0 := Tryd.zeroValue0
  t3 := Tryd.underlying3
  a3 := Tryd.isAgg3
  z3 := Tryd.sizeOf3
  v3 := Tryd.zeroValue3
  t4 := Tryd.underlying4
  a4 := Tryd.isAgg4
  z4 := Tryd.sizeOf4
  v4 := Tryd.zeroValue4
  t46 := Tryd.underlying70
  a46 := Tryd.isAgg70
  z46 := Tryd.sizeOf70
  v46 := Tryd.zeroValue70
  t49 := Tryd.underlying62
  a49 := Tryd.isAgg62
  z49 := Tryd.sizeOf62
  v49 := Tryd.zeroValue62
  t193 := Tryd.underlying58
  a193 := Tryd.isAgg58
  z193 := Tryd.sizeOf58
  v193 := Tryd.zeroValue58
  t198 := Tryd.underlying64
  a198 := Tryd.isAgg64
  z198 := Tryd.sizeOf64
  v198 := Tryd.zeroValue64
  t226 := Tryd.underlying69
  a226 := Tryd.isAgg69
  z226 := Tryd.sizeOf69
  v226 := Tryd.zeroValue69 }
open Go.RowKit Go.Lib in
theorem Tryd.unicode_is16_white (R oR : Nat) (z : Nat) (w : World) (hz : z < 65536) (hz0 : 255 < z) (c6 : w.cell? ⟨R, oR + 6, none⟩ = some (.int .u16 160)) (c7 : w.cell? ⟨R, oR + 7, none⟩ = some (.int .u16 5760)) (c8 : w.cell? ⟨R, oR + 8, none⟩ = some (.int .u16 5600)) (c9 : w.cell? ⟨R, oR + 9, none⟩ = some (.int .u16 8192)) (c10 : w.cell? ⟨R, oR + 10, none⟩ = some (.int .u16 8202)) (c11 : w.cell? ⟨R, oR + 11, none⟩ = some (.int .u16 1)) (c12 : w.cell? ⟨R, oR + 12, none⟩ = some (.int .u16 8232)) (c13 : w.cell? ⟨R, oR + 13, none⟩ = some (.int .u16 8233)) (c14 : w.cell? ⟨R, oR + 14, none⟩ = some (.int .u16 1)) (c15 : w.cell? ⟨R, oR + 15, none⟩ = some (.int .u16 8239)) (c16 : w.cell? ⟨R, oR + 16, none⟩ = some (.int .u16 8287)) (c17 : w.cell? ⟨R, oR + 17, none⟩ = some (.int .u16 48)) (c18 : w.cell? ⟨R, oR + 18, none⟩ = some (.int .u16 12288)) (c19 : w.cell? ⟨R, oR + 19, none⟩ = some (.int .u16 12288)) (c20 : w.cell? ⟨R, oR + 20, none⟩ = some (.int .u16 1)) :
    Calls Tryd.prog 32 #[.slice (some ⟨R, oR + 6, none⟩) 5 5, .int .u16 z] w fun e w' => e = .returned (.bool (Lib.isSpaceR z)) ∧ Below w.heap.size w w' := Any.unicode_is16_white Tryd.lays311 R oR z w hz hz0 c6 c7 c8 c9 c10 c11 c12 c13 c14 c15 c16 c17 c18 c19 c20
def Tryd.lays261_ren : Go.Shelf.Ren := ⟨fun | 261 => 31 | 311 => 32 | 312 => 33 | n => n, fun | 141 => 57 | 21 => 21 | 4 => 4 | 0 => 0 | 196 => 61 | 193 => 58 | 3 => 3 | 51 => 55 | 198 => 64 | 49 => 62 | 194 => 59 | 201 => 67 | 226 => 69 | 46 => 70 | 227 => 71 | n => n, fun | n => n⟩
theorem Tryd.lays261 : Go.Proofs.Lays.n261 Tryd.prog Tryd.lays261_ren := {
  mixed := by kernel_rfl
  f261 := Tryd.func31.trans (congrArg some (by kernel_rfl))
  f311 := Tryd.func32.trans (congrArg some (by kernel_rfl))
  f312 := Tryd.func33.trans (congrArg some (by kernel_rfl))
  t0 := Tryd.underlying0
  a0 := Tryd.isAgg0
  z0 := Tryd.sizeOf0
  v0 := Tryd.zeroValue0
  t3 := Tryd.underlying3
  a3 := Tryd.isAgg3
  z3 := Tryd.sizeOf3
  v3 := Tryd.zeroValue3
  t4 := Tryd.underlying4
  a4 := Tryd.isAgg4
  z4 := Tryd.sizeOf4
  v4 := Tryd.zeroValue4
  t21 := Tryd.underlying21
  a21 := Tryd.isAgg21
  z21 := Tryd.sizeOf21
  v21 := Tryd.zeroValue21
  t46 := Tryd.underlying70
  a46 := Tryd.isAgg70
  z46 := Tryd.sizeOf70
  v46 := Tryd.zeroValue70
  t49 := Tryd.underlying62
  a49 := Tryd.isAgg62
  z49 := Tryd.sizeOf62
  v49 := Tryd.zeroValue62
  t51 := Tryd.underlying55
  a51 := Tryd.isAgg55
  z51 := Tryd.sizeOf55
  v51 := Tryd.zeroValue55
  t141 := Tryd.underlying57
  a141 := Tryd.isAgg57
  z141 := Tryd.sizeOf57
  v141 := Tryd.zeroValue57
  t193 := Tryd.underlying58
  a193 := Tryd.isAgg58
  z193 := Tryd.sizeOf58
  v193 := Tryd.zeroValue58
  t194 := Tryd.underlying59
  a194 := Tryd.isAgg59
  z194 := Tryd.sizeOf59
  v194 := Tryd.zeroValue59
  t196 := Tryd.underlying61
  a196 := Tryd.isAgg61
  z196 := Tryd.sizeOf61
  v196 := Tryd.zeroValue61
  t198 := Tryd.underlying64
  a198 := Tryd.isAgg64
  z198 := Tryd.sizeOf64
  v198 := Tryd.zeroValue64
  t201 := Tryd.underlying67
  a201 := Tryd.isAgg67
  z201 := Tryd.sizeOf67
  v201 := Tryd.zeroValue67
  t226 := Tryd.underlying69
  a226 := Tryd.isAgg69
  z226 := Tryd.sizeOf69
  v226 := Tryd.zeroValue69
  t227 := Tryd.underlying71
  a227 := Tryd.isAgg71
  z227 := Tryd.sizeOf71
  v227 := Tryd.zeroValue71 }
open Go.RowKit Go.Lib in
/-- unicode.isExcludingLatin(White_Space, r), r beyond U+00FF or negative. (LAID: no walk: one application.) -/
theorem Tryd.unicode_isExcludingLatin_white (T oT R oR : Nat) (r : Int) (w : World) (hlo : -2147483648 ≤ r) (hhi : r ≤ 2147483647) (hr : r < 0 ∨ 255 < r) (h2 : w.cell? ⟨T, oT, none⟩ = some (.slice (some ⟨R, oR, none⟩) 7 7)) (h3 : w.cell? ⟨T, oT + 1, none⟩ = some (.slice none 0 0)) (h4 : w.cell? ⟨T, oT + 2, none⟩ = some (.int .i64 2)) (h5 : ∀ i, i < 21 → w.cell? ⟨R, oR + i, none⟩ = some (.int .u16 (whiteT.getD i 0))) :
    Calls Tryd.prog 31 #[.pointer (some ⟨T, oT, none⟩), .int .i32 r] w fun e w' => e = .returned (.bool (Lib.isSpaceZ r)) ∧ Below w.heap.size w w' := Any.unicode_isExcludingLatin_white Tryd.lays261 T oT R oR r w hlo hhi hr h2 h3 h4 h5
open Go.RowKit Go.Lib in
/-- **unicode.IsSpace AT EVERY int32.** (LAID: no walk: one application.) -/
theorem Tryd.unicode_IsSpace_any (r : Int) (w : World) (hlo : -2147483648 ≤ r) (hhi : r ≤ 2147483647) (hW : Lib.WhiteTab 1 w) :
    Calls Tryd.prog 30 #[.int .i32 r] w fun e w' => e = .returned (.bool (Lib.isSpaceZ r)) ∧ Below w.heap.size w w' := Any.unicode_IsSpace_any Tryd.lays199 r w hlo hhi hW
open Go.RowKit Go.Lib in
theorem Tryd.unicode_is16_any (T : Array Rg) (R oR cap : Nat) (z : Nat) (w : World) (hz : z < 65536) (hT : RgTab .u16 R oR T w) (hok : RgOk 65536 T) (hn : T.size ≤ 1000000000) :
    Calls Tryd.prog 32 #[.slice (some ⟨R, oR, none⟩) T.size cap, .int .u16 z] w fun e w' => e = .returned (.bool (is16Go T z)) ∧ ∃ q, w' = w.drewN q := Any.unicode_is16_any Tryd.lays311 T R oR cap z w hz hT hok hn
def Tryd.lays312_ren : Go.Shelf.Ren := ⟨fun | 312 => 33 | n => n, fun | 194 => 59 | 51 => 55 | 4 => 4 | 3 => 3 | 0 => 0 | 227 => 71 | 201 => 67 | 46 => 70 | n => n, fun | n => n⟩
theorem Tryd.lays312 : Go.Proofs.Lays.n312 Tryd.prog Tryd.lays312_ren := {
  mixed := by kernel_rfl
  f312 := Tryd.func33.trans (congrArg some (by kernel_rfl))
  t0 := Tryd.underlying0
  a0 := Tryd.isAgg0
  z0 := Tryd.sizeOf0
  v0 := Tryd.zeroValue0
  t3 := Tryd.underlying3
  a3 := Tryd.isAgg3
  z3 := Tryd.sizeOf3
  v3 := Tryd.zeroValue3
  t4 := Tryd.underlying4
  a4 := Tryd.isAgg4
  z4 := Tryd.sizeOf4
  v4 := Tryd.zeroValue4
  t46 := Tryd.underlying70
  a46 := Tryd.isAgg70
  z46 := Tryd.sizeOf70
  v46 := Tryd.zeroValue70
  t51 := Tryd.underlying55
  a51 := Tryd.isAgg55
  z51 := Tryd.sizeOf55
  v51 := Tryd.zeroValue55
  t194 := Tryd.underlying59
  a194 := Tryd.isAgg59
  z194 := Tryd.sizeOf59
  v194 := Tryd.zeroValue59
  t201 := Tryd.underlying67
  a201 := Tryd.isAgg67
  z201 := Tryd.sizeOf67
  v201 := Tryd.zeroValue67
  t227 := Tryd.underlying71
  a227 := Tryd.isAgg71
  z227 := Tryd.sizeOf71
  v227 := Tryd.zeroValue71 }
open Go.RowKit Go.Lib in
theorem Tryd.unicode_is32_any (T : Array Rg) (R oR cap : Nat) (z : Nat) (w : World) (hz : z < 4294967296) (hT : RgTab .u32 R oR T w) (hok : RgOk 4294967296 T) (hn : T.size ≤ 1000000000) :
    Calls Tryd.prog 33 #[.slice (some ⟨R, oR, none⟩) T.size cap, .int .u32 z] w fun e w' => e = .returned (.bool (is32Go T z)) ∧ Below w.heap.size w w' := Any.unicode_is32_any Tryd.lays312 T R oR cap z w hz hT hok hn
open Go.RowKit Go.Lib in
theorem Tryd.unicode_isExcludingLatin_any (Tb oT : Nat) (T : RTab) (r : Int) (w : World) (hlo : -2147483648 ≤ r) (hhi : r ≤ 2147483647) (hA : RTabAt Tb oT T w) (hok : RTabOk T) :
    Calls Tryd.prog 31 #[.pointer (some ⟨Tb, oT, none⟩), .int .i32 r] w fun e w' => e = .returned (.bool (exclGo T r)) ∧ Below w.heap.size w w' := Any.unicode_isExcludingLatin_any Tryd.lays261 Tb oT T r w hlo hhi hA hok
end Go.Proofs
