/- What the proof of EncBack leans on, part 1. No condition but those that each law states. -/
import Derived.Test.YtldmfchamcpmmaaGreatDoorRows
import Derived.WalkKit
import Derived.Deep.Quiet
import Derived.Below
import Derived.WalkLawsBesides
import Derived.Lib.Hide
import Derived.Laws.AppendOwnNone
import Derived.Laws.CopyRow
import Derived.Laws.Tables
import Derived.Orders
import Derived.Deep.Slices
import Derived.Deep.Fields
import Derived.OpenShut
import Derived.ProofKit
import Derived.Lib.AppendZerosOnto
import Derived.Laws.BytesString
import Derived.Lib.SlBytesConst
import Derived.Laws.IdiomStrings
import Derived.Lib.AppendStr
import Derived.Lib.EndianZ
import Derived.Lib.DecodeN
import Derived.Lib.ValidLaws
import Derived.Lib.EndianBits
import Derived.Maps.AppendAt
import Derived.ChangeKeysEq
import Derived.Lib.LaidTab
import Derived.Lib.LaidU8
import Derived.LaidMore
set_option maxHeartbeats 10000000
set_option maxRecDepth 100000
set_option linter.unusedVariables false
set_option linter.unusedSimpArgs false
set_option linter.unnecessarySimpa false
namespace Go.Proofs.YtldmfchamcpmmaaGreatDoor
theorem K21 : type_of% Tryz.call21 := Tryz.call21
theorem K46 : type_of% Tryz.call46 := Tryz.call46
theorem K57 : type_of% Tryz.call57 := Tryz.call57
theorem K61 : type_of% Tryz.call61 := Tryz.call61
theorem K62 : type_of% Tryz.call62 := Tryz.call62
theorem K80 : type_of% Tryz.call80 := Tryz.call80
theorem K120 : type_of% Tryz.call120 := Tryz.call120
theorem K121 : type_of% Tryz.call121 := Tryz.call121
theorem K122 : type_of% Tryz.call122 := Tryz.call122
theorem K123 : type_of% Tryz.call123 := Tryz.call123
theorem K133 : type_of% Tryz.call133 := Tryz.call133
theorem V7 : type_of% Tryz.results7 := Tryz.results7
theorem V8 : type_of% Tryz.results8 := Tryz.results8
theorem V10 : type_of% Tryz.results10 := Tryz.results10
theorem V45 : type_of% Tryz.results45 := Tryz.results45
theorem V115 : type_of% Tryz.results115 := Tryz.results115
theorem V116 : type_of% Tryz.results116 := Tryz.results116
theorem V117 : type_of% Tryz.results117 := Tryz.results117
theorem V118 : type_of% Tryz.results118 := Tryz.results118
theorem V130 : type_of% Tryz.results130 := Tryz.results130
theorem U2 : type_of% Tryz.underlying2 := Tryz.underlying2
theorem U3 : type_of% Tryz.underlying3 := Tryz.underlying3
theorem U4 : type_of% Tryz.underlying4 := Tryz.underlying4
theorem U5 : type_of% Tryz.underlying5 := Tryz.underlying5
theorem U9 : type_of% Tryz.underlying9 := Tryz.underlying9
theorem U22 : type_of% Tryz.underlying22 := Tryz.underlying22
theorem U23 : type_of% Tryz.underlying23 := Tryz.underlying23
theorem U24 : type_of% Tryz.underlying24 := Tryz.underlying24
theorem U25 : type_of% Tryz.underlying25 := Tryz.underlying25
theorem U26 : type_of% Tryz.underlying26 := Tryz.underlying26
theorem U27 : type_of% Tryz.underlying27 := Tryz.underlying27
theorem U28 : type_of% Tryz.underlying28 := Tryz.underlying28
theorem U29 : type_of% Tryz.underlying29 := Tryz.underlying29
theorem U30 : type_of% Tryz.underlying30 := Tryz.underlying30
theorem U31 : type_of% Tryz.underlying31 := Tryz.underlying31
theorem U33 : type_of% Tryz.underlying33 := Tryz.underlying33
theorem U34 : type_of% Tryz.underlying34 := Tryz.underlying34
theorem U37 : type_of% Tryz.underlying37 := Tryz.underlying37
theorem U44 : type_of% Tryz.underlying44 := Tryz.underlying44
theorem U48 : type_of% Tryz.underlying48 := Tryz.underlying48
theorem U50 : type_of% Tryz.underlying50 := Tryz.underlying50
theorem U51 : type_of% Tryz.underlying51 := Tryz.underlying51
theorem U52 : type_of% Tryz.underlying52 := Tryz.underlying52
theorem U54 : type_of% Tryz.underlying54 := Tryz.underlying54
theorem U57 : type_of% Tryz.underlying57 := Tryz.underlying57
theorem U59 : type_of% Tryz.underlying59 := Tryz.underlying59
theorem U61 : type_of% Tryz.underlying61 := Tryz.underlying61
theorem U63 : type_of% Tryz.underlying63 := Tryz.underlying63
theorem U66 : type_of% Tryz.underlying66 := Tryz.underlying66
theorem U69 : type_of% Tryz.underlying69 := Tryz.underlying69
theorem U71 : type_of% Tryz.underlying71 := Tryz.underlying71
theorem U95 : type_of% Tryz.underlying95 := Tryz.underlying95
theorem U107 : type_of% Tryz.underlying107 := Tryz.underlying107
theorem U126 : type_of% Tryz.underlying126 := Tryz.underlying126
theorem U146 : type_of% Tryz.underlying146 := Tryz.underlying146
theorem U198 : type_of% Tryz.underlying198 := Tryz.underlying198
theorem U211 : type_of% Tryz.underlying211 := Tryz.underlying211
theorem U219 : type_of% Tryz.underlying219 := Tryz.underlying219
end Go.Proofs.YtldmfchamcpmmaaGreatDoor
namespace Go.Proofs.YtldmfchamcpmmaaGreatDoor
open Go
theorem inf5 : (Tryz.prog.info? 5).map (fun i => (i.zero, i.size, i.bytes)) = some (some (.int .u8 0), 1, 1) := by kernel_rfl
theorem inf28 : (Tryz.prog.info? 28).map (fun i => (i.zero, i.size, i.bytes)) = some (some (.int .u32 0), 1, 4) := by kernel_rfl
theorem inf48 : (Tryz.prog.info? 48).map (fun i => (i.zero, i.size, i.bytes)) = some (some (.agg #[(.int .u8 0), (.slice none 0 0)]), 2, 32) := by kernel_rfl
theorem inf50 : (Tryz.prog.info? 50).map (fun i => (i.zero, i.size, i.bytes)) = some (some (.agg #[(.slice none 0 0), (.slice none 0 0)]), 2, 48) := by kernel_rfl
theorem inf54 : (Tryz.prog.info? 54).map (fun i => (i.zero, i.size, i.bytes)) = some (some (.agg #[(.slice none 0 0), (.slice none 0 0)]), 2, 48) := by kernel_rfl
theorem inf57 : (Tryz.prog.info? 57).map (fun i => (i.zero, i.size, i.bytes)) = some (some (.agg #[(.int .u32 0), (.int .i64 0)]), 2, 16) := by kernel_rfl
theorem inf61 : (Tryz.prog.info? 61).map (fun i => (i.zero, i.size, i.bytes)) = some (some (.agg #[(.string ⟨#[]⟩), (.string ⟨#[]⟩), (.int .u8 0), (.int .u32 0), (.int .u32 0), (.int .i64 0), (.int .u8 0), (.bool false)]), 8, 64) := by kernel_rfl
theorem inf63 : (Tryz.prog.info? 63).map (fun i => (i.zero, i.size, i.bytes)) = some (some (.agg #[(.int .u8 0), (.bool false), (.slice none 0 0)]), 3, 32) := by kernel_rfl
theorem inf66 : (Tryz.prog.info? 66).map (fun i => (i.zero, i.size, i.bytes)) = some (some (.agg #[(.string ⟨#[]⟩), (.int .u8 0), (.int .u32 0)]), 3, 24) := by kernel_rfl
theorem inf69 : (Tryz.prog.info? 69).map (fun i => (i.zero, i.size, i.bytes)) = some (some (.agg #[(.int .u32 0), (.slice none 0 0), (.slice none 0 0)]), 3, 56) := by kernel_rfl
theorem inf71 : (Tryz.prog.info? 71).map (fun i => (i.zero, i.size, i.bytes)) = some (some (.agg #[(.int .u32 0), (.slice none 0 0), (.slice none 0 0)]), 3, 56) := by kernel_rfl
theorem inf126 : (Tryz.prog.info? 126).map (fun i => (i.zero, i.size, i.bytes)) = some (some (.agg #[(.int .u8 0), (.int .u32 0), (.int .u32 0), (.int .i64 0), (.slice none 0 0)]), 5, 48) := by kernel_rfl
theorem inf146 : (Tryz.prog.info? 146).map (fun i => (i.zero, i.size, i.bytes)) = some (some (.agg #[(.int .u32 0), (.int .u8 0)]), 2, 8) := by kernel_rfl
theorem sz2 : (Tryz.prog.info? 2).map (·.size) = some 1 := by kernel_rfl
theorem sz3 : (Tryz.prog.info? 3).map (·.size) = some 1 := by kernel_rfl
theorem sz4 : (Tryz.prog.info? 4).map (·.size) = some 1 := by kernel_rfl
theorem sz5 : (Tryz.prog.info? 5).map (·.size) = some 1 := by kernel_rfl
theorem sz9 : (Tryz.prog.info? 9).map (·.size) = some 1 := by kernel_rfl
theorem sz22 : (Tryz.prog.info? 22).map (·.size) = some 1 := by kernel_rfl
theorem sz23 : (Tryz.prog.info? 23).map (·.size) = some 1 := by kernel_rfl
theorem sz24 : (Tryz.prog.info? 24).map (·.size) = some 1 := by kernel_rfl
theorem sz25 : (Tryz.prog.info? 25).map (·.size) = some 1 := by kernel_rfl
theorem sz26 : (Tryz.prog.info? 26).map (·.size) = some 1 := by kernel_rfl
theorem sz27 : (Tryz.prog.info? 27).map (·.size) = some 1 := by kernel_rfl
theorem sz28 : (Tryz.prog.info? 28).map (·.size) = some 1 := by kernel_rfl
theorem sz29 : (Tryz.prog.info? 29).map (·.size) = some 1 := by kernel_rfl
theorem sz30 : (Tryz.prog.info? 30).map (·.size) = some 1 := by kernel_rfl
theorem sz31 : (Tryz.prog.info? 31).map (·.size) = some 1 := by kernel_rfl
theorem sz33 : (Tryz.prog.info? 33).map (·.size) = some 12 := by kernel_rfl
theorem sz34 : (Tryz.prog.info? 34).map (·.size) = some 1 := by kernel_rfl
theorem sz37 : (Tryz.prog.info? 37).map (·.size) = some 1 := by kernel_rfl
theorem sz44 : (Tryz.prog.info? 44).map (·.size) = some 1 := by kernel_rfl
theorem sz48 : (Tryz.prog.info? 48).map (·.size) = some 2 := by kernel_rfl
theorem sz50 : (Tryz.prog.info? 50).map (·.size) = some 2 := by kernel_rfl
theorem sz51 : (Tryz.prog.info? 51).map (·.size) = some 1 := by kernel_rfl
theorem sz52 : (Tryz.prog.info? 52).map (·.size) = some 1 := by kernel_rfl
theorem sz54 : (Tryz.prog.info? 54).map (·.size) = some 2 := by kernel_rfl
theorem sz57 : (Tryz.prog.info? 57).map (·.size) = some 2 := by kernel_rfl
theorem sz59 : (Tryz.prog.info? 59).map (·.size) = some 2 := by kernel_rfl
theorem sz61 : (Tryz.prog.info? 61).map (·.size) = some 8 := by kernel_rfl
theorem sz63 : (Tryz.prog.info? 63).map (·.size) = some 3 := by kernel_rfl
theorem sz66 : (Tryz.prog.info? 66).map (·.size) = some 3 := by kernel_rfl
theorem sz69 : (Tryz.prog.info? 69).map (·.size) = some 3 := by kernel_rfl
theorem sz71 : (Tryz.prog.info? 71).map (·.size) = some 3 := by kernel_rfl
theorem sz107 : (Tryz.prog.info? 107).map (·.size) = some 1 := by kernel_rfl
theorem sz126 : (Tryz.prog.info? 126).map (·.size) = some 5 := by kernel_rfl
theorem sz146 : (Tryz.prog.info? 146).map (·.size) = some 2 := by kernel_rfl
theorem sz198 : (Tryz.prog.info? 198).map (·.size) = some 1 := by kernel_rfl
theorem sz208 : (Tryz.prog.info? 208).map (·.size) = some 2 := by kernel_rfl
theorem sz211 : (Tryz.prog.info? 211).map (·.size) = some 4 := by kernel_rfl
theorem sz219 : (Tryz.prog.info? 219).map (·.size) = some 1 := by kernel_rfl
theorem zr3 : (Tryz.prog.info? 3).map (·.zero) = some (some (.int .i64 0)) := by kernel_rfl
theorem zr5 : (Tryz.prog.info? 5).map (·.zero) = some (some (.int .u8 0)) := by kernel_rfl
theorem zr33 : (Tryz.prog.info? 33).map (·.zero) = some (some (.agg #[(.slice none 0 0), (.slice none 0 0), (.slice none 0 0), (.slice none 0 0), (.slice none 0 0), (.slice none 0 0), (.slice none 0 0), (.bool false), (.int .u32 0), (.slice none 0 0), (.slice none 0 0), (.slice none 0 0)])) := by kernel_rfl
theorem zr37 : (Tryz.prog.info? 37).map (·.zero) = some (some (.int .i64 0)) := by kernel_rfl
theorem zr48 : (Tryz.prog.info? 48).map (·.zero) = some (some (.agg #[(.int .u8 0), (.slice none 0 0)])) := by kernel_rfl
theorem zr50 : (Tryz.prog.info? 50).map (·.zero) = some (some (.agg #[(.slice none 0 0), (.slice none 0 0)])) := by kernel_rfl
theorem zr52 : (Tryz.prog.info? 52).map (·.zero) = some (some (.slice none 0 0)) := by kernel_rfl
theorem zr54 : (Tryz.prog.info? 54).map (·.zero) = some (some (.agg #[(.slice none 0 0), (.slice none 0 0)])) := by kernel_rfl
theorem zr57 : (Tryz.prog.info? 57).map (·.zero) = some (some (.agg #[(.int .u32 0), (.int .i64 0)])) := by kernel_rfl
theorem zr59 : (Tryz.prog.info? 59).map (·.zero) = some (some (.agg #[(.int .u8 0), (.bool false)])) := by kernel_rfl
theorem zr61 : (Tryz.prog.info? 61).map (·.zero) = some (some (.agg #[(.string ⟨#[]⟩), (.string ⟨#[]⟩), (.int .u8 0), (.int .u32 0), (.int .u32 0), (.int .i64 0), (.int .u8 0), (.bool false)])) := by kernel_rfl
theorem zr63 : (Tryz.prog.info? 63).map (·.zero) = some (some (.agg #[(.int .u8 0), (.bool false), (.slice none 0 0)])) := by kernel_rfl
theorem zr66 : (Tryz.prog.info? 66).map (·.zero) = some (some (.agg #[(.string ⟨#[]⟩), (.int .u8 0), (.int .u32 0)])) := by kernel_rfl
theorem zr69 : (Tryz.prog.info? 69).map (·.zero) = some (some (.agg #[(.int .u32 0), (.slice none 0 0), (.slice none 0 0)])) := by kernel_rfl
theorem zr71 : (Tryz.prog.info? 71).map (·.zero) = some (some (.agg #[(.int .u32 0), (.slice none 0 0), (.slice none 0 0)])) := by kernel_rfl
theorem zr74 : (Tryz.prog.info? 74).map (·.zero) = some (some (.agg #[(.slice none 0 0), (.bool false)])) := by kernel_rfl
theorem zr107 : (Tryz.prog.info? 107).map (·.zero) = some (some (.agg #[(.int .i64 0)])) := by kernel_rfl
theorem zr126 : (Tryz.prog.info? 126).map (·.zero) = some (some (.agg #[(.int .u8 0), (.int .u32 0), (.int .u32 0), (.int .i64 0), (.slice none 0 0)])) := by kernel_rfl
theorem zr128 : (Tryz.prog.info? 128).map (·.zero) = some (some (.agg #[(.slice none 0 0), (.bool false)])) := by kernel_rfl
theorem zr146 : (Tryz.prog.info? 146).map (·.zero) = some (some (.agg #[(.int .u32 0), (.int .u8 0)])) := by kernel_rfl
theorem zr152 : (Tryz.prog.info? 152).map (·.zero) = some (some (.agg #[(.slice none 0 0)])) := by kernel_rfl
theorem zr198 : (Tryz.prog.info? 198).map (·.zero) = some (some (.slice none 0 0)) := by kernel_rfl
theorem zr208 : (Tryz.prog.info? 208).map (·.zero) = some (some (.agg #[(.int .u8 0), (.int .u8 0)])) := by kernel_rfl
theorem zr211 : (Tryz.prog.info? 211).map (·.zero) = some (some (.agg #[(.bool false), (.bool false), (.bool false), (.bool false)])) := by kernel_rfl
theorem zr219 : (Tryz.prog.info? 219).map (·.zero) = some (some (.agg #[(.int .i64 0)])) := by kernel_rfl
theorem zr222 : (Tryz.prog.info? 222).map (·.zero) = some (some (.agg #[(.slice none 0 0), (.int .i64 0)])) := by kernel_rfl
theorem zs5 : (Tryz.prog.info? 5).map (fun i => (i.zero, i.size)) = some (some (.int .u8 0), 1) := by kernel_rfl
theorem zs28 : (Tryz.prog.info? 28).map (fun i => (i.zero, i.size)) = some (some (.int .u32 0), 1) := by kernel_rfl
theorem zs33 : (Tryz.prog.info? 33).map (fun i => (i.zero, i.size)) = some (some (.agg #[(.slice none 0 0), (.slice none 0 0), (.slice none 0 0), (.slice none 0 0), (.slice none 0 0), (.slice none 0 0), (.slice none 0 0), (.bool false), (.int .u32 0), (.slice none 0 0), (.slice none 0 0), (.slice none 0 0)]), 12) := by kernel_rfl
theorem zs48 : (Tryz.prog.info? 48).map (fun i => (i.zero, i.size)) = some (some (.agg #[(.int .u8 0), (.slice none 0 0)]), 2) := by kernel_rfl
theorem zs50 : (Tryz.prog.info? 50).map (fun i => (i.zero, i.size)) = some (some (.agg #[(.slice none 0 0), (.slice none 0 0)]), 2) := by kernel_rfl
theorem zs54 : (Tryz.prog.info? 54).map (fun i => (i.zero, i.size)) = some (some (.agg #[(.slice none 0 0), (.slice none 0 0)]), 2) := by kernel_rfl
theorem zs57 : (Tryz.prog.info? 57).map (fun i => (i.zero, i.size)) = some (some (.agg #[(.int .u32 0), (.int .i64 0)]), 2) := by kernel_rfl
theorem zs61 : (Tryz.prog.info? 61).map (fun i => (i.zero, i.size)) = some (some (.agg #[(.string ⟨#[]⟩), (.string ⟨#[]⟩), (.int .u8 0), (.int .u32 0), (.int .u32 0), (.int .i64 0), (.int .u8 0), (.bool false)]), 8) := by kernel_rfl
theorem zs63 : (Tryz.prog.info? 63).map (fun i => (i.zero, i.size)) = some (some (.agg #[(.int .u8 0), (.bool false), (.slice none 0 0)]), 3) := by kernel_rfl
theorem zs66 : (Tryz.prog.info? 66).map (fun i => (i.zero, i.size)) = some (some (.agg #[(.string ⟨#[]⟩), (.int .u8 0), (.int .u32 0)]), 3) := by kernel_rfl
theorem zs69 : (Tryz.prog.info? 69).map (fun i => (i.zero, i.size)) = some (some (.agg #[(.int .u32 0), (.slice none 0 0), (.slice none 0 0)]), 3) := by kernel_rfl
theorem zs71 : (Tryz.prog.info? 71).map (fun i => (i.zero, i.size)) = some (some (.agg #[(.int .u32 0), (.slice none 0 0), (.slice none 0 0)]), 3) := by kernel_rfl
theorem zs126 : (Tryz.prog.info? 126).map (fun i => (i.zero, i.size)) = some (some (.agg #[(.int .u8 0), (.int .u32 0), (.int .u32 0), (.int .i64 0), (.slice none 0 0)]), 5) := by kernel_rfl
theorem zs146 : (Tryz.prog.info? 146).map (fun i => (i.zero, i.size)) = some (some (.agg #[(.int .u32 0), (.int .u8 0)]), 2) := by kernel_rfl
end Go.Proofs.YtldmfchamcpmmaaGreatDoor
namespace Go.Proofs.YtldmfchamcpmmaaGreatDoor
open Go Go.RowKit
abbrev Heap := Array Obj
abbrev Env := List (Nat × Value)
def get : Env → Nat → Option Value
  | [], _ => none
  | (d, v) :: E, t => bif Nat.beq d t then some v else get E t
def nth {α : Type} : List α → Nat → Option α
  | [], _ => none
  | x :: _, 0 => some x
  | _ :: l, n + 1 => nth l n
theorem nth_eq {α : Type} (l : List α) (n : Nat) : nth l n = l[n]? := by
  induction l generalizing n with
  | nil => rfl
  | cons x l ih => cases n <;> simp [nth, ih]
def ev (E : Env) : Operand → Option Value
  | .tmp t => get E t
  | .const v => some v
  | .global g => some (.pointer (some ⟨g, 0, none⟩))
  | .func f => some (.func (.func f) #[] #[])
def evs (E : Env) : List Operand → Option (List Value)
  | [] => some []
  | x :: l => match ev E x, evs E l with
    | some v, some vs => some (v :: vs)
    | _, _ => none
structure Rep (n : Nat) (E : Env) (a : Act) : Prop where
  defers : a.defers = []
  size : a.tmps.size = n
  val : ∀ t v, get E t = some v → a.tmps[t]? = some v
structure St (W0 : World) (H : Heap) (w : World) : Prop where
  heap : w.heap = H
  os : w.os = W0.os
  tape : w.tape = W0.tape
  output : w.output = W0.output
theorem St.refl (w : World) : St w w.heap w := ⟨rfl, rfl, rfl, rfl⟩
theorem St.trans {W0 w w' : World} {H H' : Heap} (h : St W0 H w) (k : St w H' w') : St W0 H' w' := ⟨k.heap, k.os.trans h.os, k.tape.trans h.tape, k.output.trans h.output⟩
def KC (P : Program) (n : Nat) (W0 : World) (Q : Exit → Act → World → Prop) (c : Code) (E : Env) (H : Heap) : Prop := ∀ a w, Rep n E a → St W0 H w → c.wp P Q a w
def KL (P : Program) (n : Nat) (W0 : World) (Q : Exit → Act → World → Prop) (ops l : List Oper) (E : Env) (H : Heap) : Prop := ∀ a w, Rep n E a → St W0 H w → wpList P ops.toArray Q l a w
def KQ (n : Nat) (W0 : World) (Q : Exit → Act → World → Prop) (e : Exit) (E : Env) (H : Heap) : Prop := ∀ a w, Rep n E a → St W0 H w → Q e a w
/-- what was there is there -/
def Old (H H' : Heap) : Prop := H.size ≤ H'.size ∧ ∀ k, k < H.size → H'[k]? = H[k]?
theorem Old.refl (H : Heap) : Old H H := ⟨Nat.le_refl _, fun _ _ => rfl⟩
theorem Old.trans {A B C : Heap} (h : Old A B) (k : Old B C) : Old A C := ⟨Nat.le_trans h.1 k.1, fun i hi => (k.2 i (Nat.lt_of_lt_of_le hi h.1)).trans (h.2 i hi)⟩
/-- block g alone is written -/
def Upd (g : Nat) (H H' : Heap) : Prop := H'.size = H.size ∧ ∀ k, k ≠ g → H'[k]? = H[k]?
theorem Old.upd {A B C : Heap} {g : Nat} (h : Old A B) (k : Upd g B C) (hg : A.size ≤ g) : Old A C :=
  ⟨by have := h.1; have := k.1; omega, fun i hi => (k.2 i (by omega)).trans (h.2 i hi)⟩
theorem Old.blk {A B : Heap} (h : Old A B) {g : Nat} {o : Obj} (hg : A[g]? = some o) : B[g]? = some o := by
  rw [h.2 g (Array.getElem?_eq_some_iff.1 hg).1]; exact hg
theorem Old.le {A B : Heap} (h : Old A B) : A.size ≤ B.size := h.1
theorem blk_lt {A : Heap} {g : Nat} {o : Obj} (hg : A[g]? = some o) : g < A.size := (Array.getElem?_eq_some_iff.1 hg).1
/-- below block B all is as it was -/
def OldB (B : Nat) (H H' : Heap) : Prop := H.size ≤ H'.size ∧ ∀ k, k < B → H'[k]? = H[k]?
theorem OldB.refl (B : Nat) (H : Heap) : OldB B H H := ⟨Nat.le_refl _, fun _ _ => rfl⟩
theorem OldB.trans {B : Nat} {X Y Z : Heap} (h : OldB B X Y) (k : OldB B Y Z) : OldB B X Z := ⟨Nat.le_trans h.1 k.1, fun i hi => (k.2 i hi).trans (h.2 i hi)⟩
theorem OldB.mono {B B' : Nat} {X Y : Heap} (h : OldB B X Y) (hB : B' ≤ B) : OldB B' X Y := ⟨h.1, fun i hi => h.2 i (by omega)⟩
theorem OldB.upd {B g : Nat} {X Y : Heap} (h : Upd g X Y) (hg : B ≤ g) : OldB B X Y := ⟨by have := h.1; omega, fun i hi => h.2 i (by omega)⟩
theorem Old.b {B : Nat} {X Y : Heap} (h : Old X Y) (hB : B ≤ X.size) : OldB B X Y := ⟨h.1, fun i hi => h.2 i (by omega)⟩
theorem Old.then {B : Nat} {X Y Z : Heap} (h : Old X Y) (k : OldB B Y Z) (hB : X.size ≤ B) : Old X Z := ⟨Nat.le_trans h.1 k.1, fun i hi => (k.2 i (by omega)).trans (h.2 i hi)⟩
theorem OldB.old {X Y : Heap} (h : OldB X.size X Y) : Old X Y := h
/-- a cell -/
def cellH (H : Heap) (a : Addr) : Option Value := match H[a.block]? with
  | some (.cells c _ _) => if a.spot.isSome then none else c[a.off]?
  | _ => none
theorem cell_of {H : Heap} {g i : Nat} {cs : List Value} {t : TypeId} {z : Nat × Nat} {v : Value} (hb : H[g]? = some (.cells cs.toArray t z)) (hv : nth cs i = some v) : cellH H ⟨g, i, none⟩ = some v := by
  rw [nth_eq] at hv
  simp [cellH, hb, hv]
theorem cell_lt {H : Heap} {a : Addr} {v : Value} (h : cellH H a = some v) : a.block < H.size := by
  unfold cellH at h
  cases hq : H[a.block]? with
  | none => rw [hq] at h; cases h
  | some o => exact blk_lt hq
theorem Old.cell {A B : Heap} (h : Old A B) {a : Addr} {v : Value} (hc : cellH A a = some v) : cellH B a = some v := by
  have := h.2 a.block (cell_lt hc)
  unfold cellH at *
  rw [this]; exact hc
/-- A function's contract: what it hands back, and memory behind it. -/
def Ct (P : Program) (f : FuncId) (args : List Value) (H : Heap) (R : Value → Heap → Prop) : Prop :=
  ∀ w, w.heap = H → Calls P f args.toArray w fun e w' => ∃ v, e = .returned v ∧ St w w'.heap w' ∧ R v w'.heap
theorem Ct.mono {P : Program} {f : FuncId} {args : List Value} {H : Heap} {R R' : Value → Heap → Prop} (h : Ct P f args H R) (hr : ∀ v H', R v H' → R' v H') : Ct P f args H R' :=
  fun w hw => (h w hw).mono fun _ _ ⟨v, he, hs, hR⟩ => ⟨v, he, hs, hr _ _ hR⟩
/-! ### the frame -/
theorem Rep.put {n d : Nat} {E : Env} {a : Act} (h : Rep n E a) (hd : Nat.blt d n = true) (v : Value) : Rep n ((d, v) :: E) (a.put (some d) v) := by
  have hd' : d < n := by simpa using hd
  refine ⟨h.defers, by simp [Act.put, h.size], fun t u ht => ?_⟩
  simp only [get] at ht
  cases hb : Nat.beq d t with
  | true =>
    rw [hb] at ht
    have e : d = t := Nat.eq_of_beq_eq_true hb
    subst e
    simp at ht; subst ht
    simp [Act.put, h.size, hd']
  | false =>
    rw [hb] at ht
    have e : d ≠ t := fun e => by rw [e, Nat.beq_refl] at hb; cases hb
    simp only [Act.put]
    rw [Array.getElem?_setIfInBounds_ne e]
    exact h.val t u ht
theorem Rep.eval {n : Nat} {E : Env} {a : Act} (h : Rep n E a) {x : Operand} {v : Value} (hx : ev E x = some v) : a.eval x = v := by
  cases x with
  | tmp t =>
    have := h.val t v hx
    simp [Act.eval, Array.getD_eq_getD_getElem?, this]
  | const c => simpa [ev, Act.eval] using hx
  | global g => simpa [ev, Act.eval] using hx
  | func f => simpa [ev, Act.eval] using hx
def Sub (E' E : Env) : Prop := ∀ t v, get E' t = some v → get E t = some v
theorem Rep.sub {n : Nat} {E E' : Env} {a : Act} (h : Rep n E a) (hs : Sub E' E) : Rep n E' a := ⟨h.defers, h.size, fun t v ht => h.val t v (hs t v ht)⟩
theorem Sub.nil (E : Env) : Sub [] E := fun _ _ h => by cases h
theorem Sub.cons {d : Nat} {v : Value} {L E : Env} (h : get E d = some v) (hs : Sub L E) : Sub ((d, v) :: L) E := by
  intro t u ht
  simp only [get] at ht
  cases hb : Nat.beq d t with
  | true => rw [hb] at ht; have e := Nat.eq_of_beq_eq_true hb; subst e; simp at ht; subst ht; exact h
  | false => rw [hb] at ht; exact hs t u ht
/-- what is known of the other slots -/
def drop (m : List Nat) : Env → Env
  | [] => []
  | (d, v) :: E => bif m.elem d then drop m E else (d, v) :: drop m E
theorem get_drop (m : List Nat) (E : Env) (t : Nat) : get (drop m E) t = bif m.elem t then none else get E t := by
  induction E with
  | nil => simp [drop, get]
  | cons p E ih =>
    obtain ⟨d, v⟩ := p
    simp only [drop]
    cases hb : Nat.beq d t with
    | true =>
      have e := Nat.eq_of_beq_eq_true hb; subst e
      cases hm : m.elem d with
      | true => simp only [cond_true]; rw [ih, hm]; rfl
      | false => simp only [cond_false, get, hb, cond_true]
    | false =>
      cases hm : m.elem d with
      | true => simp only [cond_true]; rw [ih]; simp [get, hb]
      | false => simp only [cond_false, get, hb]; exact ih
/-- outside m both know the same -/
def Ext (m : List Nat) (E E' : Env) : Prop := ∀ t, m.elem t = false → get E' t = get E t
theorem Ext.refl (m : List Nat) (E : Env) : Ext m E E := fun _ _ => rfl
theorem Ext.put {m : List Nat} {E E' : Env} {d : Nat} {v : Value} (hd : m.elem d = true) (h : Ext m E E') : Ext m E ((d, v) :: E') := by
  intro t ht
  simp only [get]
  cases hb : Nat.beq d t with
  | true => have e := Nat.eq_of_beq_eq_true hb; subst e; rw [hd] at ht; cases ht
  | false => exact h t ht
theorem Ext.drop {m m' : List Nat} {E E' : Env} (hm : (m'.all fun d => m.elem d) = true) (h : Ext m E E') : Ext m E (drop m' E') := by
  intro t ht
  rw [get_drop]
  cases hq : m'.elem t with
  | true =>
    have := List.all_eq_true.1 hm t (by simpa using hq)
    rw [ht] at this; cases this
  | false => exact h t ht
theorem Ext.sub {m : List Nat} {E E' : Env} (h : Ext m E E') : Sub (Go.Proofs.YtldmfchamcpmmaaGreatDoor.drop m E) E' := by
  intro t v ht
  rw [get_drop] at ht
  cases hm : m.elem t with
  | true => rw [hm] at ht; cases ht
  | false => rw [h t hm]; rw [hm] at ht; exact ht
/-! ### control -/
section
variable {P : Program} {n : Nat} {W0 : World} {Q : Exit → Act → World → Prop} {E : Env} {H : Heap}
theorem KC.seq {x y : Code} (h : KC P n W0 (Exit.then (y.wp P Q) Q) x E H) : KC P n W0 Q (.seq x y) E H := fun a w ha hw => wp_seq (h a w ha hw)
theorem KQ.seq {y : Code} (h : KC P n W0 Q y E H) : KQ n W0 (Exit.then (y.wp P Q) Q) .normal E H := h
theorem KC.skip (h : KQ n W0 Q .normal E H) : KC P n W0 Q .skip E H := fun a w ha hw => wp_skip (h a w ha hw)
theorem KC.exit {id : Nat} (h : KQ n W0 Q (.exit id) E H) : KC P n W0 Q (.exit id) E H := fun a w ha hw => wp_exit (h a w ha hw)
theorem KC.ret (h : KQ n W0 Q .ret E H) : KC P n W0 Q .ret E H := fun a w ha hw => wp_ret (h a w ha hw)
theorem KQ.exitThen {id : Nat} {N : Act → World → Prop} (h : KQ n W0 Q (.exit id) E H) : KQ n W0 (Exit.then N Q) (.exit id) E H := h
theorem KQ.retThen {N : Act → World → Prop} (h : KQ n W0 Q .ret E H) : KQ n W0 (Exit.then N Q) .ret E H := h
theorem KQ.retBlock {id : Nat} (h : KQ n W0 Q .ret E H) : KQ n W0 (Exit.inBlock id Q) .ret E H := h
theorem KQ.normBlock {id : Nat} (h : KQ n W0 Q .normal E H) : KQ n W0 (Exit.inBlock id Q) .normal E H := h
theorem KQ.hit {id : Nat} (h : KQ n W0 Q .normal E H) : KQ n W0 (Exit.inBlock id Q) (.exit id) E H := fun a w ha hw => by
  show (if id = id then _ else _); rw [if_pos rfl]; exact h a w ha hw
theorem KC.block {id : Nat} {c : Code} (h : KC P n W0 (Exit.inBlock id Q) c E H) : KC P n W0 Q (.block id c) E H := fun a w ha hw => wp_block (h a w ha hw)
theorem KC.condT {c : Operand} {x y : Code} (hc : ev E c = some (.bool true)) (h : KC P n W0 Q x E H) : KC P n W0 Q (.cond c x y) E H := fun a w ha hw => wp_cond_true (ha.eval hc) (h a w ha hw)
theorem KC.condF {c : Operand} {x y : Code} (hc : ev E c = some (.bool false)) (h : KC P n W0 Q y E H) : KC P n W0 Q (.cond c x y) E H := fun a w ha hw => wp_cond_false (ha.eval hc) (h a w ha hw)
theorem KC.condIs {c : Operand} {x y : Code} {b : Bool} (t : Bool) (hc : ev E c = some (.bool b)) (ht : b = t) (h : KC P n W0 Q (bif t then x else y) E H) : KC P n W0 Q (.cond c x y) E H := by
  subst ht
  cases b
  · exact KC.condF hc h
  exact KC.condT hc h
theorem KC.ite {c : Operand} {x y : Code} {b : Bool} (hc : ev E c = some (.bool b)) (ht : b = true → KC P n W0 Q x E H) (hf : b = false → KC P n W0 Q y E H) : KC P n W0 Q (.cond c x y) E H := by
  cases b
  · exact KC.condF hc (hf rfl)
  exact KC.condT hc (ht rfl)
theorem KC.dec {c : Operand} {x y : Code} {p : Prop} [Decidable p] (hc : ev E c = some (.bool (decide p))) (ht : p → KC P n W0 Q x E H) (hf : ¬ p → KC P n W0 Q y E H) : KC P n W0 Q (.cond c x y) E H :=
  KC.ite hc (fun h => ht (of_decide_eq_true h)) (fun h => hf (of_decide_eq_false h))
theorem KC.sub {c : Code} {E' : Env} (hs : Sub E' E) (h : KC P n W0 Q c E' H) : KC P n W0 Q c E H := fun a w ha hw => h a w (ha.sub hs) hw
theorem KQ.sub {e : Exit} {E' : Env} (hs : Sub E' E) (h : KQ n W0 Q e E' H) : KQ n W0 Q e E H := fun a w ha hw => h a w (ha.sub hs) hw
theorem KC.region {id : Nat} {l : List Oper} (h : KL P n W0 Q l l E H) : KC P n W0 Q (.region id l.toArray false) E H := fun a w ha hw => wp_region_lit (h a w ha hw)
theorem KL.nil {ops : List Oper} (h : KQ n W0 Q .normal E H) : KL P n W0 Q ops [] E H := h
/-- what holds where ways meet again -/
def Meets (n : Nat) (W0 : World) {κ : Type} (Ek : κ → Env) (I : κ → Heap → Prop) (a : Act) (w : World) : Prop := ∃ k H, I k H ∧ Rep n (Ek k) a ∧ St W0 H w
theorem KC.cut {κ : Type} {c : Code} (Ek : κ → Env) (I : κ → Heap → Prop) (h : KC P n W0 (Exit.then (Meets n W0 Ek I) Q) c E H) (k : ∀ x H', I x H' → KQ n W0 Q .normal (Ek x) H') : KC P n W0 Q c E H :=
  fun a w ha hw => wp_mono (h a w ha hw) fun e a' w' hq => by
    cases e with
    | normal => obtain ⟨x, H', hI, hr, hs⟩ := hq; exact k x H' hI a' w' hr hs
    | _ => exact hq
theorem KQ.meet {κ : Type} {Ek : κ → Env} {I : κ → Heap → Prop} (x : κ) (hs : Sub (Ek x) E) (hI : I x H) : KQ n W0 (Exit.then (Meets n W0 Ek I) Q) .normal E H := fun a w ha hw => ⟨x, H, hI, ha.sub hs, hw⟩
theorem wp_loop_at {c : Code} {a : Act} {w : World} (I : Nat → Act → World → Prop) (h₀ : ∃ m, I m a w)
    (round : ∀ m a w, I m a w → c.wp P (Exit.then (fun a' w' => ∃ m', m' < m ∧ I m' a' w') Q) a w) : (Code.loop c).wp P Q a w := by
  intro b k cs
  have key : ∀ n a w, I n a w → ∃ e a' w', Q e a' w' ∧ Arrives P (lone (b.at a (.code c :: .inLoop c :: k)) cs w) b k cs e a' w' := by
    intro n
    induction n using Nat.strongRecOn with
    | _ n ih =>
      intro a w hI
      obtain ⟨e, a₁, w₁, hq, harr⟩ := round n a w hI b (.inLoop c :: k) cs
      cases e with
      | normal =>
        obtain ⟨m', hlt, hI₁⟩ := hq
        obtain ⟨e₂, a₂, w₂, hq₂, harr₂⟩ := ih m' hlt a₁ w₁ hI₁
        exact ⟨e₂, a₂, w₂, hq₂, .of_steps (Steps.trans harr (.one step_inLoop)) harr₂⟩
      | exit id => exact ⟨_, a₁, w₁, hq, .pass (x := .inLoop c) rfl (fun _ _ => .inl (by simp)) harr⟩
      | goto l => exact ⟨_, a₁, w₁, hq, .pass (x := .inLoop c) rfl (fun _ _ => .inl (by simp)) harr⟩
      | ret => exact ⟨_, a₁, w₁, hq, .pass (x := .inLoop c) rfl (fun _ _ => .inl (by simp)) harr⟩
      | panic ch => exact ⟨_, a₁, w₁, hq, .pass (x := .inLoop c) rfl (fun _ _ => .inl (by simp)) harr⟩
      | outgrown => exact ⟨_, a₁, w₁, hq, .pass (x := .inLoop c) rfl (fun _ _ => .inl (by simp)) harr⟩
  obtain ⟨m, h₀⟩ := h₀
  obtain ⟨e, a', w', hq, harr⟩ := key m a w h₀
  exact ⟨e, a', w', hq, .of_steps (.one step_loop) harr⟩
/-- a loop's round is done -/
def Again (n : Nat) (W0 : World) {κ : Type} (Ek : κ → Env) (I : κ → Heap → Prop) (μ : κ → Nat) (m : Nat) (a : Act) (w : World) : Prop := ∃ k H, μ k < m ∧ I k H ∧ Rep n (Ek k) a ∧ St W0 H w
theorem KC.loop {κ : Type} {c : Code} (Ek : κ → Env) (I : κ → Heap → Prop) (μ : κ → Nat) (k0 : κ) (hs : Sub (Ek k0) E) (h0 : I k0 H)
    (round : ∀ k H', I k H' → KC P n W0 (Exit.then (Again n W0 Ek I μ (μ k)) Q) c (Ek k) H') : KC P n W0 Q (.loop c) E H := by
  intro a w ha hw
  refine wp_loop_at (fun m a w => ∃ k H, μ k = m ∧ I k H ∧ Rep n (Ek k) a ∧ St W0 H w) ⟨_, k0, H, rfl, h0, ha.sub hs, hw⟩ ?_
  rintro m a w ⟨k, H', rfl, hI, hr, hst⟩
  refine wp_mono (round k H' hI a w hr hst) fun e a' w' hq => ?_
  cases e with
  | normal =>
    obtain ⟨k', H'', hlt, hI', hr', hst'⟩ := hq
    exact ⟨_, hlt, k', H'', rfl, hI', hr', hst'⟩
  | _ => exact hq
theorem KQ.again {κ : Type} {Ek : κ → Env} {I : κ → Heap → Prop} {μ : κ → Nat} {m : Nat} (k : κ) (hs : Sub (Ek k) E) (hμ : μ k < m) (hI : I k H) : KQ n W0 (Exit.then (Again n W0 Ek I μ m) Q) .normal E H :=
  fun a w ha hw => ⟨k, H, hμ, hI, ha.sub hs, hw⟩
/-- .. with the slots that the body writes and that are read later told by L, the others dropped -/
theorem KC.loopD {κ : Type} {c : Code} (m : List Nat) (L : κ → Env) (I : κ → Heap → Prop) (μ : κ → Nat) (k0 : κ) (hs : Sub (L k0 ++ drop m E) E) (h0 : I k0 H)
    (round : ∀ k H', I k H' → KC P n W0 (Exit.then (Again n W0 (fun k => L k ++ drop m E) I μ (μ k)) Q) c (L k ++ drop m E) H') : KC P n W0 Q (.loop c) E H :=
  KC.loop (fun k => L k ++ drop m E) I μ k0 hs h0 round
theorem KC.cutD {κ : Type} {c : Code} (m : List Nat) (L : κ → Env) (I : κ → Heap → Prop) (h : KC P n W0 (Exit.then (Meets n W0 (fun k => L k ++ drop m E) I) Q) c E H) (k : ∀ x H', I x H' → KQ n W0 Q .normal (L x ++ drop m E) H') : KC P n W0 Q c E H :=
  KC.cut (fun k => L k ++ drop m E) I h k
/-! ### a function's beginning and end -/
/-- what is asked at a function's end -/
def Post (P : Program) (fn : Func) (W0 : World) (R : Value → Heap → Prop) : Exit → Act → World → Prop := bodyPost P fn (fun e w' => ∃ v, e = .returned v ∧ St W0 w'.heap w' ∧ R v w'.heap)
def argEnv : Nat → List Value → Env
  | _, [] => []
  | i, v :: l => (i, v) :: argEnv (i + 1) l
theorem get_argEnv (l : List Value) (i t : Nat) : get (argEnv i l) t = if t < i then none else l[t - i]? := by
  induction l generalizing i with
  | nil => simp [argEnv, get]
  | cons v l ih =>
    simp only [argEnv, get]
    cases hb : Nat.beq i t with
    | true => have e := Nat.eq_of_beq_eq_true hb; subst e; simp
    | false =>
      have hne : i ≠ t := fun e => by rw [e, Nat.beq_refl] at hb; cases hb
      simp only [cond_false]
      rw [ih]
      by_cases h : t < i
      · rw [if_pos (by omega), if_pos h]
      rw [if_neg (by omega), if_neg h]
      rw [show t - i = (t - (i + 1)) + 1 by omega]; rfl
theorem Ct.mk {f : FuncId} {fn : Func} {c : Code} {args : List Value} {R : Value → Heap → Prop} (hf : P.funcs[f]? = some fn) (hb : fn.body = some c) (hn : fn.ntmps = n) (hle : Nat.ble args.length n = true)
    (h : ∀ W0 : World, W0.heap = H → KC P n W0 (Post P fn W0 R) c (argEnv 0 args) H) : Ct P f args H R := by
  intro w hw
  have hle' : args.length ≤ n := by simpa using hle
  refine calls_of_wp hf hb (h w hw _ w ⟨rfl, by simp [hn]; omega, ?_⟩ ⟨hw, rfl, rfl, rfl⟩)
  intro t v ht
  rw [get_argEnv] at ht
  simp only [Nat.not_lt_zero, if_false, Nat.sub_zero] at ht
  have hlt := (List.getElem?_eq_some_iff.1 ht).1
  rw [Array.getElem?_append_left (by simpa using hlt)]
  simpa using ht
theorem KQ.ofRet {fn : Func} {R : Value → Heap → Prop} (h : KQ n W0 (Post P fn W0 R) .normal E H) : KQ n W0 (Post P fn W0 R) .ret E H := h
theorem KQ.fin {fn : Func} {R : Value → Heap → Prop} (v : Value) (hr : ∀ a w, Rep n E a → w.heap = H → (results fn a.tmps).run P w = .ok v w) (hR : R v H) : KQ n W0 (Post P fn W0 R) .normal E H := by
  intro a w ha hw
  refine ⟨ha.defers, v, hr a w ha hw.heap, v, rfl, ⟨rfl, hw.os, hw.tape, hw.output⟩, ?_⟩
  rw [hw.heap]; exact hR
theorem KQ.fin0 {fn : Func} {R : Value → Heap → Prop} (hr : fn.results = #[]) (hR : R (.tuple #[]) H) : KQ n W0 (Post P fn W0 R) .normal E H :=
  KQ.fin _ (fun a w ha hw => by simp [results, hr, go_sem]) hR
theorem KQ.fin1 {fn : Func} {R : Value → Heap → Prop} {t : Nat} {v : Value} (hr : fn.results = #[.tmp t]) (ht : get E t = some v) (hR : R v H) : KQ n W0 (Post P fn W0 R) .normal E H :=
  KQ.fin _ (fun a w ha hw => by have := ha.val t v ht; simp [results, hr, go_sem, Array.getD_eq_getD_getElem?, this]) hR
theorem KQ.fin2 {fn : Func} {R : Value → Heap → Prop} {t u : Nat} {v x : Value} (hr : fn.results = #[.tmp t, .tmp u]) (ht : get E t = some v) (hu : get E u = some x) (hR : R (.tuple #[v, x]) H) : KQ n W0 (Post P fn W0 R) .normal E H :=
  KQ.fin _ (fun a w ha hw => by have h1 := ha.val t v ht; have h2 := ha.val u x hu; simp [results, hr, go_sem, Array.getD_eq_getD_getElem?, h1, h2]) hR
theorem KQ.fin3 {fn : Func} {R : Value → Heap → Prop} {t u s : Nat} {v x y : Value} (hr : fn.results = #[.tmp t, .tmp u, .tmp s]) (ht : get E t = some v) (hu : get E u = some x) (hs : get E s = some y) (hR : R (.tuple #[v, x, y]) H) : KQ n W0 (Post P fn W0 R) .normal E H :=
  KQ.fin _ (fun a w ha hw => by have h1 := ha.val t v ht; have h2 := ha.val u x hu; have h3 := ha.val s y hs; simp [results, hr, go_sem, Array.getD_eq_getD_getElem?, h1, h2, h3]) hR
end
def want (ops : List Oper) (E : Env) : Option (Nat × Bool) → Option Bool
  | none => some true
  | some (j, b) => match ((nth ops j).bind (·.dst)).bind (get E) with
    | some (.bool c) => some (c == b)
    | some (.tuple _) => some false
    | _ => none
def Agree (E : Env) (ρ : Operand → Value) : Prop := ∀ x v, ev E x = some v → ρ x = v
theorem Rep.agree {n : Nat} {E : Env} {a : Act} (h : Rep n E a) : Agree E a.eval := fun _ _ hx => h.eval hx
/-- an operation that hands back a value and leaves memory alone -/
def Run (P : Program) (E : Env) (H : Heap) (o : Oper) (v : Value) : Prop := ∀ ρ w, Agree E ρ → w.heap = H → (execOp ρ o).run P w = .ok (.value v) w
theorem want_wanted {n : Nat} {ops : List Oper} {E : Env} {a : Act} {o : Oper} {b : Bool} (h : Rep n E a) (hw : want ops E o.guard = some b) : Region.wanted o (yielded ops.toArray a.tmps) = b := by
  unfold Region.wanted
  cases hg : o.guard with
  | none => rw [hg] at hw; simp [want] at hw; simp [hw]
  | some p =>
    obtain ⟨j, t⟩ := p
    rw [hg] at hw
    simp only [want] at hw
    cases h1 : (nth ops j).bind (·.dst) with
    | none => rw [h1] at hw; cases hw
    | some d =>
      rw [h1] at hw
      simp only [Option.bind_some] at hw
      cases h2 : get E d with
      | none => rw [h2] at hw; cases hw
      | some v =>
        rw [h2] at hw
        have hv := h.val d v h2
        rw [nth_eq] at h1
        have h1' : (ops.toArray[j]?).bind (·.dst) = some d := by simpa using h1
        cases v <;> simp at hw
        · rename_i c
          simp only [yielded, h1', Option.bind_some, hv]
          subst hw
          cases c <;> cases t <;> rfl
        simp only [yielded, h1', Option.bind_some, hv]
        subst hw
        rfl
section
variable {P : Program} {n d : Nat} {W0 : World} {Q : Exit → Act → World → Prop} {ops rest : List Oper} {o : Oper} {E : Env} {H : Heap} {v : Value}
theorem KL.op (hr : Run P E H o v) (hd : o.dst = some d) (hn : Nat.blt d n = true) (hg : want ops E o.guard = some true) (h : KL P n W0 Q ops rest ((d, v) :: E) H) : KL P n W0 Q ops (o :: rest) E H := by
  intro a w ha hw
  refine wpList_step fun K hK => ?_
  rw [if_pos (want_wanted ha hg)]
  unfold Oper.wp
  rw [hr a.eval w ha.agree hw.heap]
  show K (a.put o.dst v) w
  rw [hd]
  exact hK _ _ (h _ _ (ha.put hn v) hw)
theorem KL.skip (hd : o.dst = some d) (hn : Nat.blt d n = true) (hg : want ops E o.guard = some false) (h : KL P n W0 Q ops rest ((d, undef) :: E) H) : KL P n W0 Q ops (o :: rest) E H := by
  intro a w ha hw
  refine wpList_step fun K hK => ?_
  rw [if_neg (by rw [want_wanted ha hg]; simp)]
  rw [hd]
  exact hK _ _ (h _ _ (ha.put hn _) hw)
theorem KL.skip0 (hd : o.dst = none) (hg : want ops E o.guard = some false) (h : KL P n W0 Q ops rest E H) : KL P n W0 Q ops (o :: rest) E H := by
  intro a w ha hw
  refine wpList_step fun K hK => ?_
  rw [if_neg (by rw [want_wanted ha hg]; simp)]
  rw [hd]
  exact hK _ _ (h _ _ ha hw)
/-- a value where a guard lets one be -/
def gval (c : Bool) (v : Value) : Value := bif c then v else undef
theorem KL.opG {c : Bool} (hr : c = true → Run P E H o v) (hd : o.dst = some d) (hn : Nat.blt d n = true) (hg : want ops E o.guard = some c) (h : KL P n W0 Q ops rest ((d, gval c v) :: E) H) : KL P n W0 Q ops (o :: rest) E H := by
  cases c with
  | true => exact KL.op (hr rfl) hd hn hg h
  | false => exact KL.skip hd hn hg h
theorem Run.mono {E' : Env} (hs : Sub E' E) (h : Run P E' H o v) : Run P E H o v := fun ρ w ha hw => h ρ w (fun x u hx => ha x u (by
  cases x with
  | tmp t => exact hs t u hx
  | const c => exact hx
  | global g => exact hx
  | func f => exact hx)) hw
theorem Run.val {u : Value} (h : Run P E H o v) (e : v = u) : Run P E H o u := e ▸ h
theorem sub_case {c : Bool} (hget : get E d = some (.bool c)) (b : Bool) (hc : c = b) : Sub ((d, .bool b) :: E) E := by
  subst hc; exact Sub.cons hget (fun _ _ h => h)
theorem KC.iteL {x y : Code} {b : Bool} (hc : get E d = some (.bool b)) (ht : b = true → KC P n W0 Q x ((d, .bool true) :: E) H) (hf : b = false → KC P n W0 Q y ((d, .bool false) :: E) H) : KC P n W0 Q (.cond (.tmp d) x y) E H := by
  cases hb : b with
  | true => exact KC.sub (sub_case hc true hb) (KC.condT (by simp [ev, get]) (ht hb))
  | false => exact KC.sub (sub_case hc false hb) (KC.condF (by simp [ev, get]) (hf hb))
theorem KL.case {c : Bool} (hget : get E d = some (.bool c)) (ht : c = true → KL P n W0 Q ops rest ((d, .bool true) :: E) H) (hf : c = false → KL P n W0 Q ops rest ((d, .bool false) :: E) H) : KL P n W0 Q ops rest E H := by
  intro a w ha hw
  cases hc : c with
  | true => exact ht hc a w (ha.sub (sub_case hget true hc)) hw
  | false => exact hf hc a w (ha.sub (sub_case hget false hc)) hw
theorem R.move {x : Operand} (ho : o.op = .move x) (hx : ev E x = some v) : Run P E H o v := by
  intro ρ w ha hw; simp [execOp, ho, ha x v hx, go_sem]
theorem R.assign {x : Operand} (ho : o.op = .assign x) (hx : ev E x = some v) : Run P E H o v := by
  intro ρ w ha hw; simp [execOp, ho, ha x v hx, go_sem]
theorem R.pick {c x y : Operand} {t : Bool} (ho : o.op = .pick c x y) (hc : ev E c = some (.bool t)) (hv : ev E (bif t then x else y) = some v) : Run P E H o v := by
  intro ρ w ha hw
  cases t <;> simp only [cond_true, cond_false] at hv <;> simp [execOp, ho, ha c _ hc, ha _ v hv, go_sem]
theorem R.and {c x : Operand} {t s : Bool} (ho : o.op = .pick c x (.const (.bool false))) (hc : ev E c = some (.bool t)) (hx : t = true → ev E x = some (.bool s)) : Run P E H o (.bool (t && s)) := by
  intro ρ w ha hw
  cases t with
  | true => simp [execOp, ho, ha c _ hc, ha _ _ (hx rfl), go_sem]
  | false => simp [execOp, ho, ha c _ hc, ha (.const (.bool false)) _ rfl, go_sem]
theorem R.or {c x : Operand} {t s : Bool} (ho : o.op = .pick c (.const (.bool true)) x) (hc : ev E c = some (.bool t)) (hx : t = false → ev E x = some (.bool s)) : Run P E H o (.bool (t || s)) := by
  intro ρ w ha hw
  cases t with
  | false => simp [execOp, ho, ha c _ hc, ha _ _ (hx rfl), go_sem]
  | true => simp [execOp, ho, ha c _ hc, ha (.const (.bool true)) _ rfl, go_sem]
theorem R.not {T : TypeId} {x : Operand} {b : Bool} (ho : o.op = .unOp .not T x) (hx : ev E x = some (.bool b)) : Run P E H o (.bool (!b)) := by
  intro ρ w ha hw; simp [execOp, ho, ha x _ hx, go_sem]
theorem R.nilCheck {x : Operand} {p : Addr} (ho : o.op = .nilCheck x) (hx : ev E x = some (.pointer (some p))) : Run P E H o (.pointer (some p)) := by
  intro ρ w ha hw; simp [execOp, ho, ha x _ hx, go_sem]
theorem R.extract {x : Operand} {i : Nat} {vs : Array Value} (ho : o.op = .extract x i) (hx : ev E x = some (.tuple vs)) (hv : nth vs.toList i = some v) : Run P E H o v := by
  intro ρ w ha hw
  rw [nth_eq] at hv
  have hv' : vs[i]? = some v := by simpa using hv
  simp [execOp, ho, ha x _ hx, Instr.extract, hv', Sem.run_bind, Sem.run_pure, Result.andThen]
theorem R.makeFunc {f : Fn} {xs ys : Array Operand} {us vs : List Value} (ho : o.op = .makeFunc f xs ys) (hx : evs E xs.toList = some us) (hy : evs E ys.toList = some vs) : Run P E H o (.func f us.toArray vs.toArray) := by
  have key : ∀ (l : List Operand) (us : List Value) (ρ : Operand → Value), Agree E ρ → evs E l = some us → l.map ρ = us := by
    intro l
    induction l with
    | nil => intro us ρ _ h; simp [evs] at h; subst h; rfl
    | cons x l ih =>
      intro us ρ ha h
      simp only [evs] at h
      cases h1 : ev E x with
      | none => rw [h1] at h; simp at h
      | some u =>
        cases h2 : evs E l with
        | none => rw [h1, h2] at h; simp at h
        | some ul => rw [h1, h2] at h; simp at h; subst h; simp [ha x u h1, ih ul ρ ha h2]
  intro ρ w ha hw
  have e1 : xs.map ρ = us.toArray := by apply Array.ext'; simpa using key xs.toList us ρ ha hx
  have e2 : ys.map ρ = vs.toArray := by apply Array.ext'; simpa using key ys.toList vs ρ ha hy
  simp [execOp, ho, Instr.makeFunc, e1, e2, Sem.run_bind, Sem.run_pure, Result.andThen]
/-! ### whole numbers -/
def InR : IntKind → Int → Prop
  | .i8, z => -128 ≤ z ∧ z ≤ 127
  | .i16, z => -32768 ≤ z ∧ z ≤ 32767
  | .i32, z => -2147483648 ≤ z ∧ z ≤ 2147483647
  | .i64, z => -9223372036854775808 ≤ z ∧ z ≤ 9223372036854775807
  | .u8, z => 0 ≤ z ∧ z ≤ 255
  | .u16, z => 0 ≤ z ∧ z ≤ 65535
  | .u32, z => 0 ≤ z ∧ z ≤ 4294967295
  | .u64, z => 0 ≤ z ∧ z ≤ 18446744073709551615
instance (k : IntKind) (z : Int) : Decidable (InR k z) := by cases k <;> unfold InR <;> infer_instance
theorem inR_wf {k : IntKind} {z : Int} : (Lit.int k z).wf = true ↔ InR k z := by
  cases k <;> simp [Lit.wf, InR, IntKind.min, IntKind.max, IntKind.signed, IntKind.bits]
theorem wrap_in {k : IntKind} {z : Int} (h : InR k z) : k.wrap z = z := by
  cases k <;> simp only [InR] at h <;> simp only [IntKind.wrap, IntKind.signed, IntKind.bits] <;> simp <;> omega
theorem inR_wrap (k : IntKind) (z : Int) : InR k (k.wrap z) := by
  cases k <;> simp only [InR, IntKind.wrap, IntKind.signed, IntKind.bits] <;> simp <;> omega
theorem bin_run {op : BinOp} {T T' : TypeId} {x y : Operand} {k k' : IntKind} {a b : Int} {r : Value} (ho : o.op = .binOp op T x y T') (hx : ev E x = some (.int k a)) (hy : ev E y = some (.int k' b))
    (hr : ∀ w, (binOp op T (.int k a) (.int k' b)).run P w = .ok r w) : Run P E H o r := by
  intro ρ w ha hw
  have hg : (eqGuard op T x y (.int k a) (.int k' b)).run P w = .ok () w := by
    cases op <;> simp [eqGuard, Sem.run_pure] <;> rfl
  simp [execOp, ho, ha x _ hx, ha y _ hy, Sem.run_bind, Sem.run_pure, Result.andThen, hg, hr]
theorem R.add {T T' : TypeId} {x y : Operand} {k : IntKind} {a b : Int} (ho : o.op = .binOp .add T x y T') (hx : ev E x = some (.int k a)) (hy : ev E y = some (.int k b)) (h : InR k (a + b)) : Run P E H o (.int k (a + b)) :=
  bin_run ho hx hy fun w => by simp [binOp, Op.intArith, Sem.run_pure, wrap_in h]
theorem R.sub {T T' : TypeId} {x y : Operand} {k : IntKind} {a b : Int} (ho : o.op = .binOp .sub T x y T') (hx : ev E x = some (.int k a)) (hy : ev E y = some (.int k b)) (h : InR k (a - b)) : Run P E H o (.int k (a - b)) :=
  bin_run ho hx hy fun w => by simp [binOp, Op.intArith, Sem.run_pure, wrap_in h]
theorem R.quo {T T' : TypeId} {x y : Operand} {k : IntKind} {a b : Int} (ho : o.op = .binOp .quo T x y T') (hx : ev E x = some (.int k a)) (hy : ev E y = some (.int k b)) (h0 : 0 ≤ a) (h1 : 0 < b) (h : InR k a) : Run P E H o (.int k (a / b)) :=
  bin_run ho hx hy fun w => by
    have e : a.tdiv b = a / b := Int.tdiv_eq_ediv_of_nonneg h0
    have hle : a / b ≤ a := Int.ediv_le_self _ h0
    have hge : 0 ≤ a / b := Int.ediv_nonneg h0 (by omega)
    have hi : InR k (a / b) := by cases k <;> simp only [InR] at h ⊢ <;> omega
    simp [binOp, Op.intDiv, Sem.run_pure, e, wrap_in hi, show ¬ b = 0 by omega]
/-- &, |, ^, &^ -/
theorem R.bits {op : BinOp} {T T' : TypeId} {x y : Operand} {k : IntKind} {a b : Int} (ho : o.op = .binOp op T x y T') (hop : (match op with | .and | .or | .xor | .andNot => true | _ => false) = true) (hx : ev E x = some (.int k a)) (hy : ev E y = some (.int k b)) : Run P E H o (.int k (bits op k a b)) :=
  bin_run ho hx hy fun w => by
    cases op <;> simp at hop <;> (simp only [binOp, ne_eq, not_true_eq_false, if_false]; rfl)
theorem R.shl {T T' : TypeId} {x y : Operand} {k k' : IntKind} {a b : Int} (ho : o.op = .binOp .shl T x y T') (hx : ev E x = some (.int k a)) (hy : ev E y = some (.int k' b)) (h : 0 ≤ b) : Run P E H o (.int k (k.wrap (a * 2 ^ (min b.toNat k.bits)))) :=
  bin_run ho hx hy fun w => by simp [binOp, Op.shift, Sem.run_pure, show ¬ b < 0 by omega]
theorem R.shr {T T' : TypeId} {x y : Operand} {k k' : IntKind} {a b : Int} (ho : o.op = .binOp .shr T x y T') (hx : ev E x = some (.int k a)) (hy : ev E y = some (.int k' b)) (h : 0 ≤ b) : Run P E H o (.int k (a / 2 ^ (min b.toNat k.bits))) :=
  bin_run ho hx hy fun w => by
    have : a.fdiv (2 ^ (min b.toNat k.bits)) = a / 2 ^ (min b.toNat k.bits) := Int.fdiv_eq_ediv_of_nonneg _ (by exact Int.le_of_lt (Int.pow_pos (by omega)))
    simp [binOp, Op.shift, Sem.run_pure, show ¬ b < 0 by omega, this]
theorem R.lss {T T' : TypeId} {x y : Operand} {k : IntKind} {a b : Int} (ho : o.op = .binOp .lss T x y T') (hx : ev E x = some (.int k a)) (hy : ev E y = some (.int k b)) : Run P E H o (.bool (decide (a < b))) :=
  bin_run ho hx hy fun w => by simp [binOp, Op.intCmp, Sem.run_pure]
theorem R.leq {T T' : TypeId} {x y : Operand} {k : IntKind} {a b : Int} (ho : o.op = .binOp .leq T x y T') (hx : ev E x = some (.int k a)) (hy : ev E y = some (.int k b)) : Run P E H o (.bool (decide (a ≤ b))) :=
  bin_run ho hx hy fun w => by simp [binOp, Op.intCmp, Sem.run_pure]
theorem R.gtr {T T' : TypeId} {x y : Operand} {k : IntKind} {a b : Int} (ho : o.op = .binOp .gtr T x y T') (hx : ev E x = some (.int k a)) (hy : ev E y = some (.int k b)) : Run P E H o (.bool (decide (b < a))) :=
  bin_run ho hx hy fun w => by simp [binOp, Op.intCmp, Sem.run_pure]
theorem R.geq {T T' : TypeId} {x y : Operand} {k : IntKind} {a b : Int} (ho : o.op = .binOp .geq T x y T') (hx : ev E x = some (.int k a)) (hy : ev E y = some (.int k b)) : Run P E H o (.bool (decide (b ≤ a))) :=
  bin_run ho hx hy fun w => by simp [binOp, Op.intCmp, Sem.run_pure]
theorem R.eql {T T' : TypeId} {x y : Operand} {k : IntKind} {a b : Int} (ho : o.op = .binOp .eql T x y T') (hx : ev E x = some (.int k a)) (hy : ev E y = some (.int k b)) : Run P E H o (.bool (decide (a = b))) :=
  bin_run ho hx hy fun w => by
    have : (a == b) = decide (a = b) := by cases h : decide (a = b) <;> simp at h <;> simp [h]
    simp [binOp, Op.intCmp, Sem.run_pure, this]
theorem R.neq {T T' : TypeId} {x y : Operand} {k : IntKind} {a b : Int} (ho : o.op = .binOp .neq T x y T') (hx : ev E x = some (.int k a)) (hy : ev E y = some (.int k b)) : Run P E H o (.bool (!decide (a = b))) :=
  bin_run ho hx hy fun w => by
    have : (a != b) = !decide (a = b) := by cases h : decide (a = b) <;> simp at h <;> simp [h]
    simp [binOp, Op.intCmp, Sem.run_pure, this]
theorem bin_run2 {op : BinOp} {T T' : TypeId} {x y : Operand} {a b r : Value} (ho : o.op = .binOp op T x y T') (hx : ev E x = some a) (hy : ev E y = some b)
    (hg : ∀ w, (eqGuard op T x y a b).run P w = .ok () w) (hr : ∀ w, (binOp op T a b).run P w = .ok r w) : Run P E H o r := by
  intro ρ w ha hw
  simp [execOp, ho, ha x _ hx, ha y _ hy, Sem.run_bind, Sem.run_pure, Result.andThen, hg, hr]
theorem run_equal {T : TypeId} {a b : Value} {r : Bool} {w : World} (h : (Op.equalIn (9999 + 1) T a b).run P w = .ok r w) : (Op.equal T a b).run P w = .ok r w := h
theorem R.eqlB {T T' : TypeId} {x y : Operand} {a b : Bool} (ho : o.op = .binOp .eql T x y T') (ht : P.underlying T = some .bool) (hx : ev E x = some (.bool a)) (hy : ev E y = some (.bool b)) : Run P E H o (.bool (a == b)) :=
  bin_run2 ho hx hy (fun w => by simp [eqGuard, Sem.run_pure]) fun w => by
    have h : (Op.equal T (.bool a) (.bool b)).run P w = .ok (a == b) w := run_equal (by rw [Op.equalIn]; simp [underlying, program, ht, Sem.run_bind, Sem.run_pure, Result.andThen, Sem.run])
    simp [binOp, h, Sem.run_bind, Sem.run_pure, Result.andThen]
/-- a slice against nil -/
theorem R.eqlS {T T' e : TypeId} {x y : Operand} {a : Option Addr} {n c : Nat} (ho : o.op = .binOp .eql T x y T') (ht : P.underlying T = some (.slice e)) (hx : ev E x = some (.slice a n c)) (hy : ev E y = some (.slice none 0 0)) : Run P E H o (.bool a.isNone) :=
  bin_run2 ho hx hy (fun w => by simp [eqGuard, Sem.run_pure]) fun w => by
    have h : (Op.equal T (.slice a n c) (.slice none 0 0)).run P w = .ok a.isNone w := run_equal (by rw [Op.equalIn]; cases a <;> simp [underlying, program, ht, Sem.run_bind, Sem.run_pure, Result.andThen, Sem.run])
    simp [binOp, h, Sem.run_bind, Sem.run_pure, Result.andThen]
theorem R.eqlStr {T T' : TypeId} {x y : Operand} {a b : ByteArray} (ho : o.op = .binOp .eql T x y T') (hx : ev E x = some (.string a)) (hy : ev E y = some (.string b)) : Run P E H o (.bool (a.toList == b.toList)) :=
  bin_run2 ho hx hy (fun w => by simp [eqGuard, Sem.run_pure]) fun w => by simp [binOp, Op.stringOp, Sem.run_pure]
theorem R.neqStr {T T' : TypeId} {x y : Operand} {a b : ByteArray} (ho : o.op = .binOp .neq T x y T') (hx : ev E x = some (.string a)) (hy : ev E y = some (.string b)) : Run P E H o (.bool (!(a.toList == b.toList))) :=
  bin_run2 ho hx hy (fun w => by simp [eqGuard, Sem.run_pure]) fun w => by simp [binOp, Op.stringOp, Sem.run_pure]
theorem R.convI {S D : TypeId} {x : Operand} {k k' : IntKind} {a : Int} {ds : TypeDesc} (ho : o.op = .convert S D x) (hs : P.underlying S = some ds) (hd : P.underlying D = some (.int k')) (hx : ev E x = some (.int k a)) (h : InR k' a) : Run P E H o (.int k' a) := by
  intro ρ w ha hw
  simp [execOp, ho, ha x _ hx, convert, underlying, program, hs, hd, Conv.intToInt, Sem.run_bind, Sem.run_pure, Result.andThen, Sem.run, wrap_in h]
theorem R.convW {S D : TypeId} {x : Operand} {k k' : IntKind} {a : Int} {ds : TypeDesc} (ho : o.op = .convert S D x) (hs : P.underlying S = some ds) (hd : P.underlying D = some (.int k')) (hx : ev E x = some (.int k a)) : Run P E H o (.int k' (k'.wrap a)) := by
  intro ρ w ha hw
  simp [execOp, ho, ha x _ hx, convert, underlying, program, hs, hd, Conv.intToInt, Sem.run_bind, Sem.run_pure, Result.andThen, Sem.run]
/-! ### memory that is read -/
def isAggD : TypeDesc → Bool
  | .struct _ | .array _ _ => true
  | _ => false
theorem cell_w {w : World} {H : Heap} (hw : w.heap = H) (p : Addr) : w.cell? p = cellH H p := by subst hw; rfl
theorem R.load {T : TypeId} {x : Operand} {p : Addr} {ds : TypeDesc} (ho : o.op = .load T x) (ht : P.underlying T = some ds) (hd : isAggD ds = false) (hx : ev E x = some (.pointer (some p))) (hc : cellH H p = some v) : Run P E H o v := by
  intro ρ w ha hw
  have h1 : w.cell? p = some v := by rw [cell_w hw]; exact hc
  have h2 : (isAgg T).run P w = .ok false w := by
    cases ds <;> simp [isAggD] at hd <;> simp [isAgg, underlying, program, ht, Sem.run_bind, Sem.run_pure, Result.andThen, Sem.run]
  simp [execOp, ho, ha x _ hx, Instr.loadAt, Instr.sureAddr, loadVar, Sem.run_bind, Sem.run_pure, Result.andThen, h2, load, Sem.run, h1]
/-- the cells from a place on -/
def CellsH (H : Heap) (p : Addr) (cs : List Value) : Prop := ∀ i v, nth cs i = some v → cellH H (p.add i) = some v
theorem cells_of {H : Heap} {g : Nat} {cs : List Value} {t : TypeId} {z : Nat × Nat} (hb : H[g]? = some (.cells cs.toArray t z)) : CellsH H ⟨g, 0, none⟩ cs := by
  intro i v hv
  have h := cell_of (i := i) hb hv
  unfold Addr.add
  split
  · next h0 => subst h0; exact h
  simpa using h
theorem Old.cells {A B : Heap} (h : Old A B) {a : Addr} {cs : List Value} (hc : CellsH A a cs) : CellsH B a cs := fun i v hv => h.cell (hc i v hv)
theorem R.loadAgg {T : TypeId} {x : Operand} {p : Addr} {ds : TypeDesc} {cs : List Value} {m : Nat} (ho : o.op = .load T x) (ht : P.underlying T = some ds) (hd : isAggD ds = true) (hs : (P.info? T).map (·.size) = some m) (hx : ev E x = some (.pointer (some p))) (hc : CellsH H p cs) (hm : cs.length = m) : Run P E H o (.agg cs.toArray) := by
  subst hm
  intro ρ w ha hw
  have h2 : (isAgg T).run P w = .ok true w := by
    cases ds <;> simp [isAggD] at hd <;> simp [isAgg, underlying, program, ht, Sem.run_bind, Sem.run_pure, Result.andThen, Sem.run]
  have h3 := run_loadCells_list (P := P) (w := w) p cs (fun j u hj => by rw [cell_w hw]; exact hc j u (by rw [nth_eq]; exact hj))
  cases hq : P.info? T with
  | none => simp [hq] at hs
  | some i =>
    simp [hq] at hs
    simp [execOp, ho, ha x _ hx, Instr.loadAt, Instr.sureAddr, loadVar, Sem.run_bind, Sem.run_pure, Result.andThen, h2, sizeOf, typeInfo, program, Sem.run, hq, hs, h3]
theorem R.fieldAddr {S : TypeId} {x : Operand} {f g off k sz : Nat} {fields : Array Field} {fd : Field} (ho : o.op = .fieldAddr S x f) (ht : P.underlying S = some (.struct fields)) (hf : nth fields.toList f = some fd) (hk : fd.offset = k) (hs : (P.info? fd.type).map (·.size) = some (sz + 1)) (hx : ev E x = some (.pointer (some ⟨g, off, none⟩))) : Run P E H o (.pointer (some ⟨g, off + k, none⟩)) := by
  intro ρ w ha hw
  subst hk
  rw [nth_eq] at hf
  have hf' : fields[f]? = some fd := by simpa using hf
  cases hq : P.info? fd.type with
  | none => simp [hq] at hs
  | some i =>
    simp [hq] at hs
    have : (Addr.mk g off none).add fd.offset = ⟨g, off + fd.offset, none⟩ := by unfold Addr.add; split <;> simp_all
    simp [execOp, ho, ha x _ hx, Instr.fieldAt, Instr.sureAddr, underlying, program, ht, hf', fieldPlace, sizeOf, typeInfo, hq, hs, Sem.run_bind, Sem.run_pure, Result.andThen, Sem.run, this]
theorem R.fieldAddrP {S : TypeId} {x : Operand} {f k sz : Nat} {p : Addr} {fields : Array Field} {fd : Field} (ho : o.op = .fieldAddr S x f) (ht : P.underlying S = some (.struct fields)) (hf : nth fields.toList f = some fd) (hk : fd.offset = k) (hs : (P.info? fd.type).map (·.size) = some (sz + 1)) (hx : ev E x = some (.pointer (some p))) : Run P E H o (.pointer (some (p.add k))) := by
  intro ρ w ha hw
  subst hk
  rw [nth_eq] at hf
  have hf' : fields[f]? = some fd := by simpa using hf
  cases hq : P.info? fd.type with
  | none => simp [hq] at hs
  | some i =>
    simp [hq] at hs
    simp [execOp, ho, ha x _ hx, Instr.fieldAt, Instr.sureAddr, underlying, program, ht, hf', fieldPlace, sizeOf, typeInfo, hq, hs, Sem.run_bind, Sem.run_pure, Result.andThen, Sem.run]
/-! ### slices and strings -/
theorem R.len {T e ty : TypeId} {x : Operand} {a : Option Addr} {l c : Nat} (ho : o.op = .call { callee := .builtin .len, args := #[x], argTypes := #[T] }) (ht : P.underlying T = some (.slice e)) (hx : ev E x = some (.slice a l c)) : Run P E H o (.int .i64 l) := by
  intro ρ w ha hw
  simp [execOp, ho, resolve, invoke, builtin, Builtin.len_, ha x _ hx, underlying, program, ht, goInt, Sem.run_bind, Sem.run_pure, Result.andThen, Sem.run]
theorem R.lenStr {T ty : TypeId} {x : Operand} {s : ByteArray} (ho : o.op = .call { callee := .builtin .len, args := #[x], argTypes := #[T] }) (ht : P.underlying T = some .string) (hx : ev E x = some (.string s)) : Run P E H o (.int .i64 s.size) := by
  intro ρ w ha hw
  simp [execOp, ho, resolve, invoke, builtin, Builtin.len_, ha x _ hx, underlying, program, ht, goInt, Sem.run_bind, Sem.run_pure, Result.andThen, Sem.run]
theorem R.max {T T' : TypeId} {x y : Operand} {k k' : IntKind} {a b : Int} (ho : o.op = .call { callee := .builtin .max, args := #[x, y], argTypes := #[T, T'] }) (hx : ev E x = some (.int k a)) (hy : ev E y = some (.int k' b)) : Run P E H o (.int k (Max.max a b)) := by
  intro ρ w ha hw
  have : (if a < b then b else a) = Max.max a b := by rw [Int.max_def]; split <;> split <;> omega
  simp [execOp, ho, resolve, invoke, builtin, Builtin.max_, Builtin.max2, ha x _ hx, ha y _ hy, Sem.run_bind, Sem.run_pure, Result.andThen, Sem.run, List.foldlM, this]
theorem R.min {T T' : TypeId} {x y : Operand} {k k' : IntKind} {a b : Int} (ho : o.op = .call { callee := .builtin .min, args := #[x, y], argTypes := #[T, T'] }) (hx : ev E x = some (.int k a)) (hy : ev E y = some (.int k' b)) : Run P E H o (.int k (Min.min a b)) := by
  intro ρ w ha hw
  have : (if b < a then b else a) = Min.min a b := by rw [Int.min_def]; split <;> split <;> omega
  simp [execOp, ho, resolve, invoke, builtin, Builtin.min_, Builtin.min2, ha x _ hx, ha y _ hy, Sem.run_bind, Sem.run_pure, Result.andThen, Sem.run, List.foldlM, this]
end
/-- an operation that hands back a value and may change memory -/
def RunM (P : Program) (E : Env) (H : Heap) (o : Oper) (R : Value → Heap → Prop) : Prop := ∀ ρ w, Agree E ρ → w.heap = H → ∃ v w', (execOp ρ o).run P w = .ok (.value v) w' ∧ St w w'.heap w' ∧ R v w'.heap
/-- one that hands back nothing -/
def RunS (P : Program) (E : Env) (H : Heap) (o : Oper) (R : Heap → Prop) : Prop := ∀ ρ w, Agree E ρ → w.heap = H → ∃ w', (execOp ρ o).run P w = .ok .skip w' ∧ St w w'.heap w' ∧ R w'.heap
/-- a new block -/
def New (H : Heap) (cs : List Value) (t : TypeId) (H' : Heap) : Prop := Old H H' ∧ H'.size = H.size + 1 ∧ H'[H.size]? = some (.cells cs.toArray t (0, 0))
theorem New.push (H : Heap) (cs : List Value) (t : TypeId) : New H cs t (H.push (.cells cs.toArray t)) :=
  ⟨⟨by simp, fun k hk => by rw [Array.getElem?_push, if_neg (by omega)]⟩, by simp, by simp⟩
section
variable {P : Program} {n d : Nat} {W0 : World} {Q : Exit → Act → World → Prop} {ops rest : List Oper} {o : Oper} {E : Env} {H : Heap} {v : Value}
theorem KL.opM {R : Value → Heap → Prop} (hr : RunM P E H o R) (hd : o.dst = some d) (hn : Nat.blt d n = true) (hg : want ops E o.guard = some true) (h : ∀ v H', R v H' → KL P n W0 Q ops rest ((d, v) :: E) H') : KL P n W0 Q ops (o :: rest) E H := by
  intro a w ha hw
  refine wpList_step fun K hK => ?_
  rw [if_pos (want_wanted ha hg)]
  obtain ⟨v, w', hrun, hst, hR⟩ := hr a.eval w ha.agree hw.heap
  unfold Oper.wp
  rw [hrun]
  show K (a.put o.dst v) w'
  rw [hd]
  exact hK _ _ (h v _ hR _ _ (ha.put hn v) (hw.trans hst))
theorem KL.opS {R : Heap → Prop} (hr : RunS P E H o R) (hd : o.dst = none) (hg : want ops E o.guard = some true) (h : ∀ H', R H' → KL P n W0 Q ops rest E H') : KL P n W0 Q ops (o :: rest) E H := by
  intro a w ha hw
  refine wpList_step fun K hK => ?_
  rw [if_pos (want_wanted ha hg)]
  obtain ⟨w', hrun, hst, hR⟩ := hr a.eval w ha.agree hw.heap
  unfold Oper.wp
  rw [hrun]
  show K (a.put o.dst undef) w'
  rw [hd]
  exact hK _ _ (h _ hR _ _ ha (hw.trans hst))
theorem Agree.evs {ρ : Operand → Value} (ha : Agree E ρ) : ∀ {l : List Operand} {vs : List Value}, evs E l = some vs → l.map ρ = vs := by
  intro l
  induction l with
  | nil => intro vs h; simp [Go.Proofs.YtldmfchamcpmmaaGreatDoor.evs] at h; subst h; rfl
  | cons x l ih =>
    intro vs h
    simp only [Go.Proofs.YtldmfchamcpmmaaGreatDoor.evs] at h
    cases h1 : ev E x with
    | none => rw [h1] at h; simp at h
    | some u =>
      cases h2 : Go.Proofs.YtldmfchamcpmmaaGreatDoor.evs E l with
      | none => rw [h1, h2] at h; simp at h
      | some ul => rw [h1, h2] at h; simp at h; subst h; simp [ha x u h1, ih h2]
/-- that a function can be entered -/
def Enters (P : Program) (f : FuncId) : Prop := ∀ args w, (callFunc f args).run P w = .ok (.enter f args) w
theorem run_call {f : FuncId} {fo : Operand} {xs : Array Operand} {ts : Array TypeId} {first cap : Array Value} {vs args : List Value} {ρ : Operand → Value} {w : World} (ha : Agree E ρ) (ho : o.op = .call { callee := .value fo, args := xs, argTypes := ts })
    (hf : ev E fo = some (.func (.func f) first cap)) (has : evs E xs.toList = some vs) (hl : first.toList ++ vs ++ cap.toList = args) (hcall : Enters P f) : (execOp ρ o).run P w = .ok (.enter f args.toArray) w := by
  have e1 : xs.map ρ = vs.toArray := by apply Array.ext'; simpa using ha.evs has
  have e2 : first ++ (vs.toArray ++ cap) = args.toArray := by apply Array.ext'; simp [← hl]
  have := hcall args.toArray w
  simp [execOp, ho, resolve, ha fo _ hf, Deferred.ofValue, invoke, e1, Sem.run_bind, Sem.run_pure, Result.andThen]
  rw [e2]; exact this
theorem KL.call {f : FuncId} {fo : Operand} {xs : Array Operand} {ts : Array TypeId} {first cap : Array Value} {vs args : List Value} {R : Value → Heap → Prop} (ho : o.op = .call { callee := .value fo, args := xs, argTypes := ts })
    (hf : ev E fo = some (.func (.func f) first cap)) (has : evs E xs.toList = some vs) (hl : first.toList ++ vs ++ cap.toList = args) (hcall : Enters P f) (hd : o.dst = some d) (hn : Nat.blt d n = true) (hg : want ops E o.guard = some true)
    (hc : Ct P f args H R) (h : ∀ v H', R v H' → KL P n W0 Q ops rest ((d, v) :: E) H') : KL P n W0 Q ops (o :: rest) E H := by
  intro a w ha hw
  refine wpList_step fun K hK => ?_
  rw [if_pos (want_wanted ha hg)]
  unfold Oper.wp
  rw [run_call ha.agree ho hf has hl hcall]
  refine (hc w hw.heap).mono ?_
  rintro e w' ⟨v, rfl, hst, hR⟩
  show K (a.put o.dst v) w'
  rw [hd]
  exact hK _ _ (h v _ hR _ _ (ha.put hn v) (hw.trans hst))
/-! ### new blocks -/
theorem M.box {T : TypeId} {x : Operand} {cs : List Value} (ho : o.op = .box T x) (hx : ev E x = some v) (hc : v.cells = cs.toArray) : RunM P E H o (fun u H' => u = .pointer (some ⟨H.size, 0, none⟩) ∧ New H cs T H') := by
  intro ρ w ha hw
  refine ⟨_, w.alloc (.cells cs.toArray T), ?_, ⟨rfl, rfl, rfl, rfl⟩, rfl, ?_⟩
  · subst hw
    simp [execOp, ho, ha x v hx, Instr.box, newVar, newRow, newObj, hc, Sem.run_bind, Sem.run_pure, Result.andThen, Sem.run]
  subst hw; exact New.push _ _ _
theorem M.alloc {T : TypeId} {z : Value} {cs : List Value} (ho : o.op = .alloc T) (hz : (P.info? T).map (·.zero) = some (some z)) (hc : z.cells = cs.toArray) : RunM P E H o (fun u H' => u = .pointer (some ⟨H.size, 0, none⟩) ∧ New H cs T H') := by
  intro ρ w ha hw
  refine ⟨_, w.alloc (.cells cs.toArray T), ?_, ⟨rfl, rfl, rfl, rfl⟩, rfl, ?_⟩
  · subst hw
    cases hq : P.info? T with
    | none => simp [hq] at hz
    | some i =>
      simp [hq] at hz
      simp [execOp, ho, Instr.alloc, zeroValue, typeInfo, program, hq, hz, newVar, newRow, newObj, hc, Sem.run_bind, Sem.run_pure, Result.andThen, Sem.run]
  subst hw; exact New.push _ _ _
def partsOf (E : Env) : List (Nat × Operand) → Option (List (Nat × Value))
  | [] => some []
  | (i, x) :: l => match ev E x, partsOf E l with
    | some v, some vs => some ((i, v) :: vs)
    | _, _ => none
theorem Agree.parts {ρ : Operand → Value} (ha : Agree E ρ) : ∀ {l : List (Nat × Operand)} {vs : List (Nat × Value)}, partsOf E l = some vs → l.map (fun p => (p.1, ρ p.2)) = vs := by
  intro l
  induction l with
  | nil => intro vs h; simp [partsOf] at h; subst h; rfl
  | cons p l ih =>
    obtain ⟨i, x⟩ := p
    intro vs h
    simp only [partsOf] at h
    cases h1 : ev E x with
    | none => rw [h1] at h; simp at h
    | some u =>
      cases h2 : partsOf E l with
      | none => rw [h1, h2] at h; simp at h
      | some ul => rw [h1, h2] at h; simp at h; subst h; simp [ha x u h1, ih h2]
/-- a slice literal whose elements are of one cell -/
theorem M.buildSlice {T e : TypeId} {len : Nat} {parts : Array (Nat × Operand)} {vs : List (Nat × Value)} {z : Value} {cs : Array Value} (ho : o.op = .buildSlice T len parts) (ht : P.underlying T = some (.slice e)) {size : Nat} (hi : (P.info? e).map (fun i => (i.zero, i.size)) = some (some z, size)) (hlen : len * size ≤ 16777216)
    (hp : partsOf E parts.toList = some vs) (hfill : Instr.fill (fun i => some (i * size, size)) ((Array.range (len * size)).map (z.cells[· % z.cells.size]!)) vs = some cs) :
    RunM P E H o (fun u H' => u = .slice (some ⟨H.size, 0, none⟩) len len ∧ New H cs.toList e H') := by
  intro ρ w ha hw
  refine ⟨_, w.alloc (.cells cs e), ?_, ⟨rfl, rfl, rfl, rfl⟩, rfl, ?_⟩
  · subst hw
    cases hq : P.info? e with
    | none => simp [hq] at hi
    | some i =>
      simp [hq] at hi
      obtain ⟨hi1, hi2⟩ := hi
      have e1 : List.map (fun p => (p.1, ρ p.2)) parts.toList = vs := ha.parts hp
      by_cases h0 : len * size = 0
      · have hf : Instr.fill (fun i => some (i * size, size)) #[] vs = some cs := by rw [h0] at hfill; simpa [Array.range_zero'] using hfill
        simp [execOp, ho, Instr.buildSlice, underlying, sizeOf, typeInfo, program, ht, hq, hi2, h0, e1, hf, newRow, newObj, Array.range_zero', Sem.run_bind, Sem.run_pure, Result.andThen, Sem.run]
      simp [execOp, ho, Instr.buildSlice, underlying, sizeOf, typeInfo, zeroValue, program, ht, hq, hi1, hi2, h0, e1, show ¬ 16777216 < len * size by omega, newRow, newObj, Sem.run_bind, Sem.run_pure, Result.andThen, Sem.run]
      simp [hfill, Sem.run_bind, Sem.run_pure, Result.andThen, Sem.run]
  subst hw
  exact New.push _ _ _
/-- the parts of a literal that gives each element, in their order -/
def evsI (E : Env) : Nat → List (Nat × Operand) → Option (List Value)
  | _, [] => some []
  | k, (i, x) :: l => bif Nat.beq i k then (match ev E x, evsI E (k + 1) l with
    | some v, some vs => some (v :: vs)
    | _, _ => none) else none
def enumV : Nat → List Value → List (Nat × Value)
  | _, [] => []
  | k, v :: l => (k, v) :: enumV (k + 1) l
theorem partsOf_evsI : ∀ {l : List (Nat × Operand)} {k : Nat} {us : List Value}, evsI E k l = some us → partsOf E l = some (enumV k us) := by
  intro l
  induction l with
  | nil => intro k us h; simp [evsI] at h; subst h; rfl
  | cons p l ih =>
    obtain ⟨i, x⟩ := p
    intro k us h
    simp only [evsI] at h
    cases hb : Nat.beq i k with
    | false => rw [hb] at h; cases h
    | true =>
      have e := Nat.eq_of_beq_eq_true hb
      subst e
      rw [hb] at h
      simp only [cond_true] at h
      cases h1 : ev E x with
      | none => rw [h1] at h; simp at h
      | some u =>
        cases h2 : evsI E (i + 1) l with
        | none => rw [h1, h2] at h; simp at h
        | some ul => rw [h1, h2] at h; simp at h; subst h; simp [partsOf, h1, ih h2, enumV]
def szd (sz : Nat) : List Value → Bool
  | [] => true
  | v :: l => Nat.beq v.cells.size sz && szd sz l
def flatV : List Value → List Value
  | [] => []
  | v :: l => v.cells.toList ++ flatV l
theorem foldl_put (vs : List Value) : ∀ (off i : Nat) (cells : Array Value), off + i + vs.length ≤ cells.size →
    ((vs.zipIdx i).foldl (fun cs (c : Value × Nat) => cs.setIfInBounds (off + c.2) c.1) cells).toList = cells.toList.take (off + i) ++ vs ++ cells.toList.drop (off + i + vs.length) := by
  induction vs with
  | nil => intro off i cells h; simp
  | cons v vs ih =>
    intro off i cells h
    simp only [List.length_cons] at h
    simp only [List.zipIdx_cons, List.foldl_cons]
    rw [ih _ _ _ (by simp; omega)]
    simp only [Array.toList_setIfInBounds, List.length_cons]
    have hlt : off + i < cells.toList.length := by simp; omega
    rw [List.set_eq_take_append_cons_drop, if_pos hlt]
    have e1 : (cells.toList.take (off + i)).length = off + i := by simp; omega
    rw [show off + (i + 1) = off + i + 1 by omega]
    have t1 : List.take (off + i + 1) (List.take (off + i) cells.toList ++ v :: List.drop (off + i + 1) cells.toList) = List.take (off + i) cells.toList ++ [v] := by
      rw [List.take_append, e1, List.take_of_length_le (by omega)]
      simp
    have t2 : List.drop (off + i + 1 + vs.length) (List.take (off + i) cells.toList ++ v :: List.drop (off + i + 1) cells.toList) = List.drop (off + i + (vs.length + 1)) cells.toList := by
      rw [List.drop_append, e1, List.drop_of_length_le (by omega)]
      rw [show off + i + 1 + vs.length - (off + i) = vs.length + 1 by omega]
      simp only [List.nil_append, List.drop_succ_cons, List.drop_drop]
      congr 1; omega
    rw [t1, t2]
    simp
theorem fill_enum {sz : Nat} : ∀ (us : List Value) (k : Nat) (cells : Array Value), szd sz us = true → (k + us.length) * sz ≤ cells.size →
    Instr.fill (fun i => some (i * sz, sz)) cells (enumV k us) = some (cells.toList.take (k * sz) ++ flatV us ++ cells.toList.drop ((k + us.length) * sz)).toArray := by
  intro us
  induction us with
  | nil => intro k cells _ _; simp [enumV, Instr.fill, flatV]
  | cons v us ih =>
    intro k cells h hle
    simp only [szd, Bool.and_eq_true] at h
    obtain ⟨h1, h2⟩ := h
    have h1 := Nat.eq_of_beq_eq_true h1
    have hk : k * sz + sz + us.length * sz = (k + (us.length + 1)) * sz := by rw [Nat.add_mul, Nat.add_mul]; omega
    simp only [List.length_cons] at hle
    rw [← hk] at hle
    simp only [enumV, Instr.fill, h1]
    rw [if_neg (by simp; omega)]
    have hf := foldl_put v.cells.toList (k * sz) 0 cells (by simp; omega)
    have e0 : (Array.foldl (fun cs (x : Value × Nat) => match x with | (c, j) => cs.setIfInBounds (k * sz + j) c) cells v.cells.zipIdx) = ((v.cells.toList.zipIdx 0).foldl (fun cs (c : Value × Nat) => cs.setIfInBounds (k * sz + c.2) c.1) cells) := by
      rw [← Array.foldl_toList]; simp
    rw [e0]
    rw [ih (k + 1) _ h2 (by
      have : ((v.cells.toList.zipIdx 0).foldl (fun cs (c : Value × Nat) => cs.setIfInBounds (k * sz + c.2) c.1) cells).size = cells.size := by
        have hz : ∀ (l : List (Value × Nat)) (c : Array Value), (l.foldl (fun cs (c : Value × Nat) => cs.setIfInBounds (k * sz + c.2) c.1) c).size = c.size := by
          intro l; induction l with
          | nil => intro c; rfl
          | cons a l ih => intro c; simp only [List.foldl_cons]; rw [ih]; simp
        exact hz _ _
      rw [this, show (k + 1 + us.length) * sz = k * sz + sz + us.length * sz by rw [Nat.add_mul, Nat.add_mul]; omega]; omega), hf]
    simp only [Nat.add_zero, Array.length_toList, h1, flatV, List.length_cons]
    have e1 : (cells.toList.take (k * sz)).length = k * sz := by simp; omega
    have e2 : (List.take (k * sz) cells.toList ++ v.cells.toList).length = k * sz + sz := by simp [h1]; omega
    congr 2
    rw [show (k + 1) * sz = k * sz + sz by rw [Nat.add_mul]; omega]
    rw [List.take_append_of_le_length (by rw [e2]; omega), List.take_of_length_le (by rw [e2]; omega)]
    rw [show (k + 1 + us.length) * sz = (k * sz + sz) + us.length * sz by rw [Nat.add_mul, Nat.add_mul]; omega]
    rw [List.drop_append, e2, List.drop_of_length_le (by rw [e2]; omega)]
    rw [← hk]
    simp only [List.nil_append, List.drop_drop, List.append_assoc]
    congr 4; omega
theorem M.lit {T e : TypeId} {len : Nat} {parts : Array (Nat × Operand)} {us : List Value} {z : Value} {size : Nat} (ho : o.op = .buildSlice T len parts) (ht : P.underlying T = some (.slice e)) (hi : (P.info? e).map (fun i => (i.zero, i.size)) = some (some z, size)) (hlen : len * size ≤ 16777216)
    (hp : evsI E 0 parts.toList = some us) (hl : us.length = len) (hs : szd size us = true) :
    RunM P E H o (fun u H' => u = .slice (some ⟨H.size, 0, none⟩) len len ∧ New H (flatV us) e H') := by
  have h1 := partsOf_evsI hp
  have hsz : ((Array.range (len * size)).map (z.cells[· % z.cells.size]!)).size = len * size := by simp
  have h2 := fill_enum us 0 ((Array.range (len * size)).map (z.cells[· % z.cells.size]!)) hs (by rw [hsz, Nat.zero_add, hl]; omega)
  have h3 := M.buildSlice (H := H) ho ht hi hlen h1 h2
  have e : (((Array.range (len * size)).map (z.cells[· % z.cells.size]!)).toList.take (0 * size) ++ flatV us ++ ((Array.range (len * size)).map (z.cells[· % z.cells.size]!)).toList.drop ((0 + us.length) * size)).toArray.toList = flatV us := by
    have hd : ((Array.range (len * size)).map (z.cells[· % z.cells.size]!)).toList.drop ((0 + us.length) * size) = [] := by
      rw [List.drop_eq_nil_iff, Array.length_toList, hsz, Nat.zero_add, hl]; omega
    simp only [Nat.zero_mul, List.take_zero, hd, List.nil_append, List.append_nil]
  rw [e] at h3
  exact h3
/-- a struct's value -/
theorem R.build {T : TypeId} {parts : Array (Nat × Operand)} {vs : List (Nat × Value)} {z : Value} {cs : Array Value} {fields : Array Field} {places : Array (Nat × Nat)} (ho : o.op = .build T parts) (ht : P.underlying T = some (.struct fields)) (hz : (P.info? T).map (·.zero) = some (some z))
    (hpl : ∀ w, (fields.mapM (m := Sem) fun f => Prod.mk f.offset <$> sizeOf f.type).run P w = .ok places w)
    (hp : partsOf E parts.toList = some vs) (hfill : Instr.fill (places[·]?) z.cells vs = some cs) : Run P E H o (.agg cs) := by
  intro ρ w ha hw
  cases hq : P.info? T with
  | none => simp [hq] at hz
  | some i =>
    simp [hq] at hz
    have e1 : List.map (fun p => (p.1, ρ p.2)) parts.toList = vs := ha.parts hp
    have h1 := hpl w
    simp [execOp, ho, Instr.build, underlying, zeroValue, typeInfo, program, ht, hq, hz, e1, Sem.run_bind, Sem.run_pure, Result.andThen, Sem.run]
    simp only [h1]
    simp [hfill, Sem.run_bind, Sem.run_pure, Result.andThen, Sem.run]
/-- a struct's cells: each from the part that gives it, or nought -/
def atOff : List (Nat × Operand) → Nat → Option Operand
  | [], _ => none
  | (o, x) :: l, k => bif Nat.beq o k then some x else atOff l k
def buildL (E : Env) : List Value → Nat → List (Nat × Operand) → Option (List Value)
  | [], _, _ => some []
  | z :: zs, k, ps => match atOff ps k with
    | none => (match buildL E zs (k + 1) ps with
      | some vs => some (z :: vs)
      | none => none)
    | some x => (match ev E x, buildL E zs (k + 1) ps with
      | some v, some vs => some (v :: vs)
      | _, _ => none)
def offsOf (fields : List Field) : List (Nat × Operand) → Option (List (Nat × Operand))
  | [] => some []
  | (i, x) :: l => match nth fields i, offsOf fields l with
    | some f, some r => some ((f.offset, x) :: r)
    | _, _ => none
/-- what each part is, of one cell -/
def OneAll (E : Env) : List (Nat × Operand) → Prop
  | [] => True
  | p :: l => (∃ v, ev E p.2 = some v ∧ v.cells = #[v]) ∧ OneAll E l
def apartB : List (Nat × Operand) → Bool
  | [] => true
  | (o, _) :: l => (l.all fun p => !Nat.beq p.1 o) && apartB l
def szOk (pl : List (Nat × Nat)) (fields : List Field) : List (Nat × Operand) → Prop
  | [] => True
  | (i, _) :: l => (∃ f, nth fields i = some f ∧ nth pl i = some (f.offset, 1)) ∧ szOk pl fields l
theorem atOff_none {ps : List (Nat × Operand)} {k : Nat} (h : ∀ p ∈ ps, p.1 ≠ k) : atOff ps k = none := by
  induction ps with
  | nil => rfl
  | cons p l ih =>
    obtain ⟨o, y⟩ := p
    simp only [atOff]
    have : Nat.beq o k = false := by
      cases hb : Nat.beq o k with
      | false => rfl
      | true => exact absurd (Nat.eq_of_beq_eq_true hb) (h (o, y) List.mem_cons_self)
    rw [this]
    exact ih fun p hp => h p (List.mem_cons_of_mem _ hp)
theorem fill_struct {fields : Array Field} {pl : List (Nat × Nat)} :
    ∀ (parts : List (Nat × Operand)) (offs : List (Nat × Operand)) (vs : List (Nat × Value)) (cells : Array Value), offsOf fields.toList parts = some offs → szOk pl fields.toList parts → OneAll E parts → partsOf E parts = some vs → apartB offs = true → (∀ p ∈ offs, p.1 < cells.size) →
      ∃ cs : Array Value, Instr.fill (pl.toArray[·]?) cells vs = some cs ∧ cs.size = cells.size ∧ ∀ k, k < cells.size → cs[k]? = (match atOff offs k with | none => cells[k]? | some x => ev E x) := by
  intro parts
  induction parts with
  | nil =>
    intro offs vs cells h1 _ _ h3 _ _
    simp only [offsOf, Option.some.injEq] at h1
    simp only [partsOf, Option.some.injEq] at h3
    subst h1; subst h3
    exact ⟨cells, rfl, rfl, fun k _ => rfl⟩
  | cons p parts ih =>
    obtain ⟨i, x⟩ := p
    intro offs vs cells h1 hsz h2 h3 h4 h5
    simp only [offsOf] at h1
    cases hn : nth fields.toList i with
    | none => rw [hn] at h1; simp at h1
    | some f =>
      cases ho : offsOf fields.toList parts with
      | none => rw [hn, ho] at h1; simp at h1
      | some r =>
        rw [hn, ho] at h1
        simp only [Option.some.injEq] at h1
        subst h1
        obtain ⟨⟨v, hv, hc⟩, h2'⟩ := h2
        simp only [partsOf] at h3
        rw [hv] at h3
        cases hp : partsOf E parts with
        | none => rw [hp] at h3; simp at h3
        | some vs' =>
          rw [hp] at h3
          simp only [Option.some.injEq] at h3
          subst h3
          obtain ⟨⟨f', hf', hs1⟩, hsz'⟩ := hsz
          rw [hn] at hf'
          simp only [Option.some.injEq] at hf'
          subst hf'
          rw [nth_eq] at hs1
          have hplace : pl.toArray[i]? = some (f.offset, 1) := by simpa using hs1
          have hlt := h5 (f.offset, x) List.mem_cons_self
          simp only [apartB, Bool.and_eq_true, List.all_eq_true, Bool.not_eq_true'] at h4
          obtain ⟨cs, k1, k2, k3⟩ := ih r vs' (cells.setIfInBounds f.offset v) ho hsz' h2' hp h4.2 (fun p hp => by simpa using h5 p (List.mem_cons_of_mem _ hp))
          refine ⟨cs, ?_, by simpa using k2, fun k hk => ?_⟩
          · simp only [Instr.fill, hplace, hc]
            rw [if_neg (by simp; exact hlt)]
            simpa using k1
          rw [k3 k (by simpa using hk)]
          simp only [atOff]
          cases hb : Nat.beq f.offset k with
          | true =>
            have e := Nat.eq_of_beq_eq_true hb
            subst e
            have : atOff r f.offset = none := atOff_none fun p hp e => by
              have := h4.1 p hp
              rw [e, Nat.beq_refl] at this; cases this
            rw [this]
            simp [hv, hk]
          | false =>
            have e : f.offset ≠ k := fun e => by rw [e, Nat.beq_refl] at hb; cases hb
            simp only [cond_false]
            cases atOff r k with
            | none => simp [Array.getElem?_setIfInBounds_ne e]
            | some y => rfl
theorem buildL_spec {ps : List (Nat × Operand)} : ∀ (zs : List Value) (k : Nat) (vs : List Value), buildL E zs k ps = some vs → vs.length = zs.length ∧ ∀ j, j < zs.length → vs[j]? = (match atOff ps (k + j) with | none => zs[j]? | some x => ev E x) := by
  intro zs
  induction zs with
  | nil => intro k vs h; simp [buildL] at h; subst h; exact ⟨rfl, fun j hj => by simp at hj⟩
  | cons z zs ih =>
    intro k vs h
    simp only [buildL] at h
    cases ha : atOff ps k with
    | none =>
      rw [ha] at h
      dsimp only at h
      cases hb : buildL E zs (k + 1) ps with
      | none => rw [hb] at h; cases h
      | some r =>
        rw [hb] at h
        simp only [Option.some.injEq] at h
        subst h
        obtain ⟨h1, h2⟩ := ih _ _ hb
        refine ⟨by simp [h1], fun j hj => ?_⟩
        cases j with
        | zero => simp [ha]
        | succ j => simp only [List.getElem?_cons_succ]; rw [h2 j (by simpa using hj)]; simp [Nat.add_assoc, Nat.add_comm 1 j]
    | some x =>
      rw [ha] at h
      dsimp only at h
      cases hv : ev E x with
      | none => rw [hv] at h; simp at h
      | some v =>
        cases hb : buildL E zs (k + 1) ps with
        | none => rw [hv, hb] at h; simp at h
        | some r =>
          rw [hv, hb] at h
          simp only [Option.some.injEq] at h
          subst h
          obtain ⟨h1, h2⟩ := ih _ _ hb
          refine ⟨by simp [h1], fun j hj => ?_⟩
          cases j with
          | zero => simp [ha, hv]
          | succ j => simp only [List.getElem?_cons_succ]; rw [h2 j (by simpa using hj)]; simp [Nat.add_assoc, Nat.add_comm 1 j]
/-- a struct's value, of parts of one cell each -/
theorem R.buildL {T : TypeId} {parts : Array (Nat × Operand)} {offs : List (Nat × Operand)} {zs us : List Value} {fields : Array Field} (ho : o.op = .build T parts) (ht : P.underlying T = some (.struct fields)) (hz : (P.info? T).map (·.zero) = some (some (.agg zs.toArray)))
    (pl : List (Nat × Nat)) (hpl : ∀ w, (fields.mapM (m := Sem) fun f => Prod.mk f.offset <$> sizeOf f.type).run P w = .ok pl.toArray w)
    (hof : offsOf fields.toList parts.toList = some offs) (hsz : szOk pl fields.toList parts.toList) (hap : apartB offs = true) (hlt : (offs.all fun p => Nat.blt p.1 zs.length) = true) (h1 : OneAll E parts.toList) (hb : Go.Proofs.YtldmfchamcpmmaaGreatDoor.buildL E zs 0 offs = some us) : Run P E H o (.agg us.toArray) := by
  have hvs : ∃ vs, partsOf E parts.toList = some vs := by
    have key : ∀ l : List (Nat × Operand), OneAll E l → ∃ vs, partsOf E l = some vs := by
      intro l
      induction l with
      | nil => intro _; exact ⟨[], rfl⟩
      | cons p l ih =>
        obtain ⟨i, x⟩ := p
        rintro ⟨⟨v, hv, _⟩, h⟩
        obtain ⟨vs, hvs⟩ := ih h
        exact ⟨(i, v) :: vs, by simp only [partsOf, hvs]; rw [hv]⟩
    exact key _ h1
  obtain ⟨vs, hvs⟩ := hvs
  obtain ⟨cs, k1, k2, k3⟩ := fill_struct parts.toList offs vs zs.toArray hof hsz h1 hvs hap (fun p hp => by have := List.all_eq_true.1 hlt p hp; simpa using this)
  obtain ⟨b1, b2⟩ := buildL_spec _ _ _ hb
  have e : cs = us.toArray := by
    apply Array.ext_getElem?
    intro k
    by_cases hk : k < zs.length
    · rw [k3 k (by simpa using hk)]
      have := b2 k hk
      rw [Nat.zero_add] at this
      simp only [List.getElem?_toArray]
      rw [this]
    rw [Array.getElem?_eq_none (by rw [k2]; simpa using hk), Array.getElem?_eq_none (by simp [b1]; omega)]
  rw [← e]
  exact R.build ho ht hz hpl hvs k1
/-! ### stores -/
theorem S.store {T : TypeId} {x y : Operand} {g i : Nat} {cs : List Value} {t : TypeId} (ho : o.op = .store T x y) (hs : (P.info? T).map (·.size) = some 1) (hx : ev E x = some (.pointer (some ⟨g, i, none⟩))) (hy : ev E y = some v) (hv : v.cells = #[v]) (h1 : v.oneCell' = true)
    (hb : H[g]? = some (.cells cs.toArray t (0, 0))) (hi : i < cs.length) : RunS P E H o (fun H' => Upd g H H' ∧ H'[g]? = some (.cells (cs.set i v).toArray t (0, 0))) := by
  intro ρ w ha hw
  subst hw
  have hst := run_storeCells_at P g i t [v] 0 cs.toArray w hb (by simp; omega) (by simpa using h1)
  have e : (cs.toArray.toList.take (i + 0) ++ [v] ++ cs.toArray.toList.drop (i + 0 + [v].length)).toArray = (cs.set i v).toArray := by
    simp [List.set_eq_take_append_cons_drop, hi]
  rw [e] at hst
  cases hq : P.info? T with
  | none => simp [hq] at hs
  | some inf =>
    simp [hq] at hs
    refine ⟨w.setRow g (cs.set i v).toArray, ?_, ⟨rfl, rfl, rfl, rfl⟩, ⟨by simp, fun k hk => setRow_other w g k _ hk⟩, setRow_heap w g _ _ t _ hb⟩
    simp [execOp, ho, ha x _ hx, ha y _ hy, Instr.storeAt, Instr.sureAddr, storeVar, sizeOf, typeInfo, program, hq, hs, hv, hst, Sem.run_bind, Sem.run_pure, Result.andThen, Sem.run]
/-- a whole struct or array stored into the head of a block or within it -/
theorem S.storeAgg {T : TypeId} {x y : Operand} {g i m : Nat} {cs us : List Value} {t : TypeId} (ho : o.op = .store T x y) (hs : (P.info? T).map (·.size) = some m) (hx : ev E x = some (.pointer (some ⟨g, i, none⟩))) (hy : ev E y = some (.agg us.toArray)) (hm : us.length = m) (h1 : ∀ u ∈ us, u.oneCell' = true)
    (hb : H[g]? = some (.cells cs.toArray t (0, 0))) (hi : i + us.length ≤ cs.length) : RunS P E H o (fun H' => Upd g H H' ∧ H'[g]? = some (.cells (cs.take i ++ us ++ cs.drop (i + us.length)).toArray t (0, 0))) := by
  subst hm
  intro ρ w ha hw
  subst hw
  have hst := run_storeCells_at P g i t us 0 cs.toArray w hb (by simpa using hi) h1
  simp only [Nat.add_zero] at hst
  cases hq : P.info? T with
  | none => simp [hq] at hs
  | some inf =>
    simp [hq] at hs
    refine ⟨w.setRow g (cs.take i ++ us ++ cs.drop (i + us.length)).toArray, ?_, ⟨rfl, rfl, rfl, rfl⟩, ⟨by simp, fun k hk => setRow_other w g k _ hk⟩, setRow_heap w g _ _ t _ hb⟩
    simp [execOp, ho, ha x _ hx, ha y _ hy, Instr.storeAt, Instr.sureAddr, storeVar, sizeOf, typeInfo, program, hq, hs, Value.cells, hst, Sem.run_bind, Sem.run_pure, Result.andThen, Sem.run]
/-! ### regions that draw their order -/
/-- .. whose operations leave memory alone -/
def KD (P : Program) (n : Nat) (W0 : World) (Q : Exit → Act → World → Prop) (ops l : List Oper) (E : Env) (H : Heap) : Prop :=
  ∀ a, Rep n E a → wpQuiet P ops.toArray (St W0 H) (fun a' => ∀ w', St W0 H w' → Q .normal a' w') l a
theorem KC.quiet {id : Nat} {l : List Oper} (hm : P.follows .mixedOrders = true) (hB : Region.lexB .any l.toArray = true) (h : KD P n W0 Q l l E H) : KC P n W0 Q (.region id l.toArray true) E H :=
  fun a w ha hw => wp_region_quiet (C := St W0 H) hm hB ⟨hw.heap, hw.os, hw.tape, hw.output⟩ (h a ha)
theorem KD.nil (h : KQ n W0 Q .normal E H) : KD P n W0 Q ops [] E H := fun a ha => wpQuiet_nil fun w' hw' => h a w' ha hw'
theorem KD.op (hr : Run P E H o v) (hd : o.dst = some d) (hn : Nat.blt d n = true) (hg : want ops E o.guard = some true) (h : KD P n W0 Q ops rest ((d, v) :: E) H) : KD P n W0 Q ops (o :: rest) E H := by
  intro a ha
  refine wpQuiet_step fun K hK => ?_
  rw [if_pos (want_wanted ha hg)]
  refine ⟨v, fun w hw => ?_, ?_⟩
  · unfold Oper.quietAt
    rw [hr a.eval w ha.agree hw.heap]
    exact ⟨rfl, rfl⟩
  rw [hd]; exact hK _ (h _ (ha.put hn v))
theorem KD.skip (hd : o.dst = some d) (hn : Nat.blt d n = true) (hg : want ops E o.guard = some false) (h : KD P n W0 Q ops rest ((d, undef) :: E) H) : KD P n W0 Q ops (o :: rest) E H := by
  intro a ha
  refine wpQuiet_step fun K hK => ?_
  rw [if_neg (by rw [want_wanted ha hg]; simp), hd]
  exact hK _ (h _ (ha.put hn _))
theorem KD.opG {c : Bool} (hr : c = true → Run P E H o v) (hd : o.dst = some d) (hn : Nat.blt d n = true) (hg : want ops E o.guard = some c) (h : KD P n W0 Q ops rest ((d, gval c v) :: E) H) : KD P n W0 Q ops (o :: rest) E H := by
  cases c with
  | true => exact KD.op (hr rfl) hd hn hg h
  | false => exact KD.skip hd hn hg h
theorem KD.call {f : FuncId} {fo : Operand} {xs : Array Operand} {ts : Array TypeId} {first cap : Array Value} {vs args : List Value} (ho : o.op = .call { callee := .value fo, args := xs, argTypes := ts })
    (hf : ev E fo = some (.func (.func f) first cap)) (has : evs E xs.toList = some vs) (hl : first.toList ++ vs ++ cap.toList = args) (hcall : Enters P f) (hd : o.dst = some d) (hn : Nat.blt d n = true) (hg : want ops E o.guard = some true)
    (hc : Ct P f args H (fun u H' => u = v ∧ H = H')) (h : KD P n W0 Q ops rest ((d, v) :: E) H) : KD P n W0 Q ops (o :: rest) E H := by
  intro a ha
  refine wpQuiet_step fun K hK => ?_
  rw [if_pos (want_wanted ha hg)]
  refine ⟨v, fun w hw => ?_, ?_⟩
  · unfold Oper.quietAt
    rw [run_call ha.agree ho hf has hl hcall]
    refine ⟨rfl, (hc w hw.heap).mono ?_⟩
    rintro e w' ⟨u, rfl, hst, rfl, hH⟩
    exact ⟨rfl, by have := hw.trans hst; rwa [← hH] at this⟩
  rw [hd]; exact hK _ (h _ (ha.put hn v))
theorem KD.case {c : Bool} (hget : get E d = some (.bool c)) (ht : c = true → KD P n W0 Q ops rest ((d, .bool true) :: E) H) (hf : c = false → KD P n W0 Q ops rest ((d, .bool false) :: E) H) : KD P n W0 Q ops rest E H := by
  intro a ha
  cases hc : c with
  | true => exact ht hc a (ha.sub (sub_case hget true hc))
  | false => exact hf hc a (ha.sub (sub_case hget false hc))
/-- .. whose operations and callees at most make new blocks, and hand back what hangs on none of them -/
def KG (P : Program) (n : Nat) (W0 : World) (Q : Exit → Act → World → Prop) (ops l : List Oper) (E : Env) (H : Heap) : Prop :=
  ∀ a, Rep n E a → wpQuiet P ops.toArray (fun w => ∃ H', Old H H' ∧ St W0 H' w) (fun a' => ∀ w', (∃ H', Old H H' ∧ St W0 H' w') → Q .normal a' w') l a
theorem KC.grow {id : Nat} {l : List Oper} (hm : P.follows .mixedOrders = true) (hB : Region.lexB .any l.toArray = true) (h : KG P n W0 Q l l E H) : KC P n W0 Q (.region id l.toArray true) E H :=
  fun a w ha hw => wp_region_quiet (C := fun w => ∃ H', Old H H' ∧ St W0 H' w) hm hB ⟨H, Old.refl H, hw.heap, hw.os, hw.tape, hw.output⟩ (h a ha)
theorem KG.nil (h : ∀ H', Old H H' → KQ n W0 Q .normal E H') : KG P n W0 Q ops [] E H := fun a ha => wpQuiet_nil fun w' ⟨H', ho, hw'⟩ => h H' ho a w' ha hw'
theorem KG.op (hr : ∀ H', Old H H' → Run P E H' o v) (hd : o.dst = some d) (hn : Nat.blt d n = true) (hg : want ops E o.guard = some true) (h : KG P n W0 Q ops rest ((d, v) :: E) H) : KG P n W0 Q ops (o :: rest) E H := by
  intro a ha
  refine wpQuiet_step fun K hK => ?_
  rw [if_pos (want_wanted ha hg)]
  refine ⟨v, fun w ⟨H', ho, hw⟩ => ?_, ?_⟩
  · unfold Oper.quietAt
    rw [hr H' ho a.eval w ha.agree hw.heap]
    exact ⟨rfl, rfl⟩
  rw [hd]; exact hK _ (h _ (ha.put hn v))
theorem KG.skip (hd : o.dst = some d) (hn : Nat.blt d n = true) (hg : want ops E o.guard = some false) (h : KG P n W0 Q ops rest ((d, undef) :: E) H) : KG P n W0 Q ops (o :: rest) E H := by
  intro a ha
  refine wpQuiet_step fun K hK => ?_
  rw [if_neg (by rw [want_wanted ha hg]; simp), hd]
  exact hK _ (h _ (ha.put hn _))
theorem KG.opG {c : Bool} (hr : c = true → ∀ H', Old H H' → Run P E H' o v) (hd : o.dst = some d) (hn : Nat.blt d n = true) (hg : want ops E o.guard = some c) (h : KG P n W0 Q ops rest ((d, gval c v) :: E) H) : KG P n W0 Q ops (o :: rest) E H := by
  cases c with
  | true => exact KG.op (hr rfl) hd hn hg h
  | false => exact KG.skip hd hn hg h
theorem KG.call {f : FuncId} {fo : Operand} {xs : Array Operand} {ts : Array TypeId} {first cap : Array Value} {vs args : List Value} (ho : o.op = .call { callee := .value fo, args := xs, argTypes := ts })
    (hf : ev E fo = some (.func (.func f) first cap)) (has : evs E xs.toList = some vs) (hl : first.toList ++ vs ++ cap.toList = args) (hcall : Enters P f) (hd : o.dst = some d) (hn : Nat.blt d n = true) (hg : want ops E o.guard = some true)
    (hc : ∀ H', Old H H' → Ct P f args H' (fun u H'' => u = v ∧ Old H' H'')) (h : KG P n W0 Q ops rest ((d, v) :: E) H) : KG P n W0 Q ops (o :: rest) E H := by
  intro a ha
  refine wpQuiet_step fun K hK => ?_
  rw [if_pos (want_wanted ha hg)]
  refine ⟨v, fun w ⟨H', hold, hw⟩ => ?_, ?_⟩
  · unfold Oper.quietAt
    rw [run_call ha.agree ho hf has hl hcall]
    refine ⟨rfl, (hc H' hold w hw.heap).mono ?_⟩
    rintro e w' ⟨u, rfl, hst, rfl, hH⟩
    exact ⟨rfl, _, hold.trans hH, hw.trans hst⟩
  rw [hd]; exact hK _ (h _ (ha.put hn v))
theorem KG.case {c : Bool} (hget : get E d = some (.bool c)) (ht : c = true → KG P n W0 Q ops rest ((d, .bool true) :: E) H) (hf : c = false → KG P n W0 Q ops rest ((d, .bool false) :: E) H) : KG P n W0 Q ops rest E H := by
  intro a ha
  cases hc : c with
  | true => exact ht hc a (ha.sub (sub_case hget true hc))
  | false => exact hf hc a (ha.sub (sub_case hget false hc))
end
/-- a contract at the end of all: true, and what was there is there -/
theorem Ct.calls {P : Program} {f : FuncId} {args : List Value} {w : World} {v : Value} (h : Ct P f args w.heap (fun u H' => u = v ∧ Old w.heap H')) : Calls P f args.toArray w fun e w' => e = .returned v ∧ Below w.heap.size w w' :=
  (h w rfl).mono fun e w' ⟨u, he, hs, hu, ho⟩ => ⟨by rw [he, hu], hs.os, hs.tape, hs.output, ho.1, ho.2⟩
end Go.Proofs.YtldmfchamcpmmaaGreatDoor
namespace Go.Proofs.YtldmfchamcpmmaaGreatDoor
open Go Go.RowKit Go.ChangeShapes Go.WideShapes Go.Deep
theorem emptyOld (H : Heap) : Old #[] H := ⟨Nat.zero_le _, fun k hk => absurd hk (Nat.not_lt_zero k)⟩
/-- how an element's cells read -/
abbrev El (α : Type) := Heap → List Value → α → Prop
/-- a slice's head -/
def vbase : Value → Addr
  | .slice (some a) _ _ => a
  | _ => ⟨0, 0, none⟩
def vblock (v : Value) : Nat := (vbase v).block
/-- The slice value v reads as l, its elements of n cells each by E. -/
def Sl {α : Type} (n : Nat) (E : El α) (H : Heap) (v : Value) (l : List α) : Prop :=
  ∃ a cap, v = .slice a l.length cap ∧ l.length ≤ cap ∧ cap ≤ maxLen ∧ (a = none → cap = 0) ∧ (0 < l.length → ∀ p, a = some p → p.spot = none) ∧
    ∀ j x, nth l j = some x → ∃ cs, cs.length = n ∧ CellsH H ((vbase v).add (j * n)) cs ∧ E H cs x
/-- a reading that new blocks do not change -/
class Keeps {α : Type} (E : El α) : Prop where
  keep : ∀ {H H' : Heap} {cs : List Value} {x : α}, Old H H' → E H cs x → E H' cs x
section
variable {α : Type} {n : Nat} {E : El α} {H H' : Heap} {v : Value} {l : List α}
theorem Sl.old [k : Keeps E] (h : Sl n E H v l) (ho : Old H H') : Sl n E H' v l := by
  obtain ⟨a, cap, hv, h1, h2, h3, h4, h5⟩ := h
  refine ⟨a, cap, hv, h1, h2, h3, h4, fun j x hj => ?_⟩
  obtain ⟨cs, hl, hc, hx⟩ := h5 j x hj
  exact ⟨cs, hl, ho.cells hc, k.keep ho hx⟩
theorem Sl.nil (n : Nat) (E : El α) (H : Heap) : Sl n E H (.slice none 0 0) [] := ⟨none, 0, rfl, by simp, by unfold maxLen; omega, fun _ => rfl, by simp, by simp [nth]⟩
theorem Sl.val (h : Sl n E H v l) : ∃ a cap, v = .slice a l.length cap := let ⟨a, cap, hv, _⟩ := h; ⟨a, cap, hv⟩
theorem Sl.len (h : Sl n E H v l) : l.length ≤ 9223372036854775807 := by
  obtain ⟨a, cap, hv, h1, h2, _⟩ := h; unfold maxLen at h2; omega
theorem Sl.cells1 (h : Sl n E H v l) : v.cells = #[v] := by obtain ⟨a, cap, rfl⟩ := h.val; rfl
theorem Sl.one (h : Sl n E H v l) : v.oneCell' = true := by obtain ⟨a, cap, rfl⟩ := h.val; rfl
theorem Sl.addr (h : Sl n E H v l) (hl : 0 < l.length) : ∃ a cap, v = .slice (some a) l.length cap ∧ a.spot = none ∧ vbase v = a := by
  obtain ⟨a, cap, rfl, h1, h2, h3, h4, h5⟩ := h
  cases a with
  | none => have := h3 rfl; omega
  | some a => exact ⟨a, cap, rfl, h4 hl a rfl, rfl⟩
theorem nth_lt {α : Type} {l : List α} {j : Nat} {x : α} (h : nth l j = some x) : j < l.length := by rw [nth_eq] at h; exact (List.getElem?_eq_some_iff.1 h).1
theorem nth_getD {α : Type} [Inhabited α] {l : List α} {j : Nat} (h : j < l.length) : nth l j = some (l.getD j default) := by rw [nth_eq, List.getD_eq_getElem?_getD, List.getElem?_eq_getElem h]; rfl
/-- an element's cells -/
theorem Sl.at [Inhabited α] (h : Sl n E H v l) (j : Nat) (hj : j < l.length) : ∃ cs, cs.length = n ∧ CellsH H ((vbase v).add (j * n)) cs ∧ E H cs (l.getD j default) := by
  obtain ⟨a, cap, rfl, h1, h2, h3, h4, h5⟩ := h
  exact h5 j _ (nth_getD hj)
theorem add_add (p : Addr) (h : p.spot = none) (i j : Nat) : (p.add i).add j = p.add (i + j) := by
  obtain ⟨b, o, s⟩ := p
  simp at h; subst h
  unfold Addr.add
  by_cases h1 : i = 0 <;> by_cases h2 : j = 0 <;> simp [h1, h2, Nat.add_assoc]
theorem add_zero (p : Addr) : p.add 0 = p := by simp [Addr.add]
/-- one cell that is an integer -/
def EInt (k : IntKind) : El Int := fun _ cs x => cs = [.int k x] ∧ InR k x
def EBool : El Bool := fun _ cs x => cs = [.bool x]
/-- one cell that is a slice -/
def ESl {α : Type} (n : Nat) (E : El α) : El (List α) := fun H cs l => ∃ v, cs = [v] ∧ Sl n E H v l
instance keepsInt (k : IntKind) : Keeps (EInt k) := ⟨fun _ h => h⟩
instance keepsBool : Keeps EBool := ⟨fun _ h => h⟩
instance keepsSl {α : Type} {n : Nat} {E : El α} [Keeps E] : Keeps (ESl n E) := ⟨fun ho h => let ⟨v, hv, hs⟩ := h; ⟨v, hv, hs.old ho⟩⟩
theorem Sl.int {k : IntKind} {l : List Int} (h : Sl 1 (EInt k) H v l) (j : Nat) (hj : j < l.length) : cellH H ((vbase v).add j) = some (.int k (l.getD j default)) ∧ InR k (l.getD j default) := by
  obtain ⟨cs, hl, hc, rfl, hr⟩ := h.at j hj
  have := hc 0 _ rfl
  rw [Nat.mul_one, add_zero] at this
  exact ⟨this, hr⟩
theorem Sl.int_range {k : IntKind} {l : List Int} (h : Sl 1 (EInt k) H v l) : ∀ x ∈ l, InR k x := by
  intro x hx
  obtain ⟨j, hj, rfl⟩ := List.getElem_of_mem hx
  have := (h.int j hj).2
  rwa [List.getD_eq_getElem?_getD, List.getElem?_eq_getElem hj] at this
theorem Sl.sl1 {α : Type} {m : Nat} {F : El α} {l : List (List α)} (h : Sl 1 (ESl m F) H v l) (j : Nat) (hj : j < l.length) : ∃ u, cellH H ((vbase v).add j) = some u ∧ Sl m F H u (l.getD j default) := by
  obtain ⟨cs, hl, hc, u, rfl, hu⟩ := h.at j hj
  have := hc 0 _ rfl
  rw [Nat.mul_one, add_zero] at this
  exact ⟨u, this, hu⟩
end
section
variable {P : Program} {n d : Nat} {W0 : World} {Q : Exit → Act → World → Prop} {ops rest : List Oper} {o : Oper} {E : Env} {H : Heap} {v : Value}
variable {α : Type} {m : Nat} {F : El α} {l : List α} {Hx : Heap}
theorem R.lenS {T e : TypeId} {x : Operand} (ho : o.op = .call { callee := .builtin .len, args := #[x], argTypes := #[T] }) (ht : P.underlying T = some (.slice e)) (hx : ev E x = some v) (hs : Sl m F Hx v l) : Run P E H o (.int .i64 l.length) := by
  obtain ⟨a, cap, rfl⟩ := hs.val
  exact R.len (ty := 0) ho ht hx
theorem run_index {T e : TypeId} {x i : Operand} {k : IntKind} {j sz len cap : Nat} {p : Addr} {z : Int} (ho : o.op = .indexAddr T x i) (ht : P.underlying T = some (.slice e)) (hz : (P.info? e).map (·.size) = some sz)
    (hx : ev E x = some (.slice (some p) len cap)) (hi : ev E i = some (.int k z)) (hj : z = (j : Int)) (hlt : j < len) : Run P E H o (.pointer (some (p.add (j * sz)))) := by
  intro ρ w ha hw
  subst hj
  cases hq : P.info? e with
  | none => simp [hq] at hz
  | some inf =>
    simp [hq] at hz
    simp [execOp, ho, ha x _ hx, ha i _ hi, Instr.indexAt, asIntOf, underlying, program, ht, sizeOf, typeInfo, hq, hz, hlt, Sem.run_bind, Sem.run_pure, Result.andThen, Sem.run]
/-- the address of an element -/
theorem R.index {T e : TypeId} {x i : Operand} {k : IntKind} {j : Nat} {z : Int} (ho : o.op = .indexAddr T x i) (ht : P.underlying T = some (.slice e)) (hz : (P.info? e).map (·.size) = some m)
    (hx : ev E x = some v) (hi : ev E i = some (.int k z)) (hs : Sl m F Hx v l) (hj : z = (j : Int)) (hlt : j < l.length) : Run P E H o (.pointer (some ((vbase v).add (j * m)))) := by
  obtain ⟨a, cap, rfl, _, hb⟩ := hs.addr (by omega)
  rw [hb]
  exact run_index ho ht hz hx hi hj hlt
theorem R.index1 {T e : TypeId} {x i : Operand} {k : IntKind} {j : Nat} {z : Int} (ho : o.op = .indexAddr T x i) (ht : P.underlying T = some (.slice e)) (hz : (P.info? e).map (·.size) = some 1)
    (hx : ev E x = some v) (hi : ev E i = some (.int k z)) (hs : Sl 1 F Hx v l) (hj : z = (j : Int)) (hlt : j < l.length) : Run P E H o (.pointer (some ((vbase v).add j))) := by
  have := R.index (H := H) ho ht hz hx hi hs hj hlt
  rwa [Nat.mul_one] at this
/-- v[lo:hi] -/
def subV (sz : Nat) (v : Value) (lo hi : Nat) : Value := match v with
  | .slice a n c => .slice (if c = lo then a else a.map (·.add (lo * sz))) (hi - lo) (c - lo)
  | v => v
theorem Sl.sub {lo hi : Nat} (hs : Sl m F H v l) (h1 : lo ≤ hi) (h2 : hi ≤ l.length) : Sl m F H (subV m v lo hi) ((l.take hi).drop lo) := by
  obtain ⟨a, cap, rfl, k1, k2, k3, k4, k5⟩ := hs
  have hl : ((l.take hi).drop lo).length = hi - lo := by simp; omega
  refine ⟨_, _, by rw [hl]; rfl, by rw [hl]; omega, by omega, ?_, ?_, ?_⟩
  · intro h
    split at h
    · omega
    have := k3 (by simpa using h); omega
  · intro h0 p hp
    rw [hl] at h0
    have hl0 : 0 < l.length := by omega
    split at hp
    · exact k4 hl0 p hp
    cases a with
    | none => simp at hp
    | some q =>
      simp at hp
      rw [← hp]
      unfold Addr.add
      split
      · exact k4 hl0 q rfl
      rfl
  intro j x hj
  rw [nth_eq, List.getElem?_drop] at hj
  rw [List.getElem?_take] at hj
  split at hj
  · next hlt =>
    have hj' : nth l (lo + j) = some x := by rw [nth_eq]; exact hj
    obtain ⟨cs, hc1, hc2, hc3⟩ := k5 _ _ hj'
    refine ⟨cs, hc1, ?_, hc3⟩
    cases a with
    | none => have := k3 rfl; omega
    | some q =>
      simp only [subV]
      rw [if_neg (by omega)]
      simp only [Option.map_some, vbase]
      have e : (lo + j) * m = lo * m + j * m := Nat.add_mul _ _ _
      simp only [vbase] at hc2
      rw [e, ← add_add q (k4 (by omega) q rfl)] at hc2
      exact hc2
  cases hj
/-- what an operand of a slicing says -/
def bnd (E : Env) : Option Operand → Nat → Nat → Prop
  | none, dflt, r => r = dflt
  | some x, _, r => ∃ k z, ev E x = some (.int k z) ∧ z = (r : Int)
theorem bnd.mk {x : Operand} {k : IntKind} {z : Int} {df r : Nat} (h : ev E x = some (.int k z)) (e : z = (r : Int)) : bnd E (some x) df r := ⟨k, z, h, e⟩
theorem bnd.no {df : Nat} : bnd E none df df := rfl
theorem run_slice {T e : TypeId} {x : Operand} {lo hi : Option Operand} {a : Option Addr} {len cap i j sz : Nat} (ho : o.op = .slice T x lo hi none) (ht : P.underlying T = some (.slice e)) (hz : (P.info? e).map (·.size) = some sz)
    (hx : ev E x = some (.slice a len cap)) (hlo : bnd E lo 0 i) (hhi : bnd E hi len j) (h1 : i ≤ j) (h2 : j ≤ cap) : Run P E H o (subV sz (.slice a len cap) i j) := by
  intro ρ w ha hw
  have hL : Option.map ρ lo = (match lo with | none => none | some x => some (ρ x)) := by cases lo <;> rfl
  cases hq : P.info? e with
  | none => simp [hq] at hz
  | some inf =>
    simp [hq] at hz
    have key : ∀ (lo' hi' : Option Value), (lo' = none ∧ i = 0 ∨ ∃ k, lo' = some (.int k (i : Int))) → (hi' = none ∧ j = len ∨ ∃ k, hi' = some (.int k (j : Int))) →
        (Instr.sliceAt T (.slice a len cap) lo' hi' none).run P w = .ok (subV sz (.slice a len cap) i j) w := by
      intro lo' hi' hl hh
      rcases hl with ⟨rfl, rfl⟩ | ⟨k, rfl⟩ <;> rcases hh with ⟨rfl, rfl⟩ | ⟨k', rfl⟩ <;>
        simp [Instr.sliceAt, Instr.slice, Instr.sliceBounds, Instr.sliceBound, asIntOf, underlying, program, ht, sizeOf, typeInfo, hq, hz, subV, Sem.run_bind, Sem.run_pure, Result.andThen, Sem.run] <;>
        (try simp [show ((i : Int) ≤ (j : Int)) by omega]) <;> (try simp [show ((j : Int) ≤ (cap : Int)) by omega]) <;> (try simp [show ((i : Int) ≤ (j : Int)) by omega]) <;> (try simp [h1, h2, Sem.run_bind, Sem.run_pure, Result.andThen, Sem.run])
    have hl : (lo.map ρ = none ∧ i = 0 ∨ ∃ k, lo.map ρ = some (.int k (i : Int))) := by
      cases lo with
      | none => exact .inl ⟨rfl, hlo⟩
      | some y => obtain ⟨k, z, hy, rfl⟩ := hlo; exact .inr ⟨k, by simp [ha y _ hy]⟩
    have hh : (hi.map ρ = none ∧ j = len ∨ ∃ k, hi.map ρ = some (.int k (j : Int))) := by
      cases hi with
      | none => exact .inl ⟨rfl, hhi⟩
      | some y => obtain ⟨k, z, hy, rfl⟩ := hhi; exact .inr ⟨k, by simp [ha y _ hy]⟩
    have := key _ _ hl hh
    simp [execOp, ho, ha x _ hx, this, Sem.run_bind, Sem.run_pure, Result.andThen]
/-- v[lo:hi], within what is read -/
theorem R.slice {T e : TypeId} {x : Operand} {lo hi : Option Operand} {i j : Nat} (ho : o.op = .slice T x lo hi none) (ht : P.underlying T = some (.slice e)) (hz : (P.info? e).map (·.size) = some m)
    (hx : ev E x = some v) (hs : Sl m F Hx v l) (hlo : bnd E lo 0 i) (hhi : bnd E hi l.length j) (h1 : i ≤ j) (h2 : j ≤ l.length) : Run P E H o (subV m v i j) := by
  obtain ⟨a, cap, rfl, k1, _⟩ := hs
  exact run_slice ho ht hz hx hlo hhi h1 (by omega)
end
/-! ### rows of the call's own -/
/-- the slice value v, of n elements of size cells, owns the cells xs; its block is one from B on -/
def OwnH (B : Nat) (e : TypeId) (size : Nat) (H : Heap) (v : Value) (n : Nat) (xs : List Value) : Prop :=
  xs.length = n * size ∧ ((v = .slice none 0 0 ∧ n = 0) ∨
   ∃ g cap cur, v = .slice (some ⟨g, 0, none⟩) n cap ∧ B ≤ g ∧ H[g]? = some (.cells cur e (0, 0)) ∧ n ≤ cap ∧ cap ≤ maxLen ∧ cur.size = cap * size ∧ cur.toList.take (n * size) = xs)
theorem ownH_w {B : Nat} {e : TypeId} {size : Nat} {w : World} {v : Value} {n : Nat} {xs : List Value} : w.ownsRow B e size v n xs ↔ OwnH B e size w.heap v n xs := Iff.rfl
/-- v owns a row that reads as l; what the elements point to lies in H0 -/
def Own {α : Type} (n : Nat) (E : El α) (e : TypeId) (H0 : Heap) (B : Nat) (H : Heap) (v : Value) (l : List α) : Prop :=
  ∃ flat, OwnH B e n H v l.length flat ∧ ∀ j x, nth l j = some x → E H0 ((flat.drop (j * n)).take n) x
section
variable {α : Type} {n : Nat} {E : El α} {e : TypeId} {H0 H H' : Heap} {B : Nat} {v : Value} {l : List α}
theorem Own.nil (n : Nat) (E : El α) (e : TypeId) (H0 : Heap) (B : Nat) (H : Heap) : Own n E e H0 B H (.slice none 0 0) ([] : List α) := ⟨[], ⟨by simp, .inl ⟨rfl, rfl⟩⟩, by simp [nth]⟩
theorem Own.val (h : Own n E e H0 B H v l) : ∃ a cap, v = .slice a l.length cap ∧ l.length ≤ cap ∧ cap ≤ maxLen ∧ (a = none → cap = 0) := by
  obtain ⟨flat, ⟨h0, h1⟩, h2⟩ := h
  rcases h1 with ⟨rfl, h3⟩ | ⟨g, cap, cur, rfl, _, _, h4, h5, _⟩
  · exact ⟨none, 0, by rw [h3], by omega, by unfold maxLen; omega, fun _ => rfl⟩
  exact ⟨_, cap, rfl, h4, h5, by simp⟩
theorem Own.len (h : Own n E e H0 B H v l) : l.length ≤ 9223372036854775807 := by
  obtain ⟨a, cap, hv, h1, h2, _⟩ := h.val; unfold maxLen at h2; omega
theorem Own.cells1 (h : Own n E e H0 B H v l) : v.cells = #[v] := by obtain ⟨a, cap, rfl, _⟩ := h.val; rfl
theorem Own.one (h : Own n E e H0 B H v l) : v.oneCell' = true := by obtain ⟨a, cap, rfl, _⟩ := h.val; rfl
theorem Own.keep (h : Own n E e H0 B H v l) (hk : H'[vblock v]? = H[vblock v]?) : Own n E e H0 B H' v l := by
  obtain ⟨flat, ⟨h0, h1⟩, h2⟩ := h
  refine ⟨flat, ⟨h0, ?_⟩, h2⟩
  rcases h1 with h1 | ⟨g, cap, cur, rfl, hB, hg, r⟩
  · exact .inl h1
  exact .inr ⟨g, cap, cur, rfl, hB, by simp only [vblock, vbase] at hk; rw [hk]; exact hg, r⟩
theorem Own.lt (h : Own n E e H0 B H v l) : v = .slice none 0 0 ∨ (B ≤ vblock v ∧ vblock v < H.size) := by
  obtain ⟨flat, ⟨h0, h1⟩, h2⟩ := h
  rcases h1 with h1 | ⟨g, cap, cur, rfl, hB, hg, r⟩
  · exact .inl h1.1
  exact .inr ⟨hB, blk_lt hg⟩
theorem Own.old (h : Own n E e H0 B H v l) (ho : Old H H') : Own n E e H0 B H' v l := by
  obtain ⟨flat, ⟨h0, h1⟩, h2⟩ := h
  refine ⟨flat, ⟨h0, ?_⟩, h2⟩
  rcases h1 with h1 | ⟨g, cap, cur, rfl, hB, hg, r⟩
  · exact .inl h1
  exact .inr ⟨g, cap, cur, rfl, hB, ho.blk hg, r⟩
theorem Own.upd {g : Nat} (h : Own n E e H0 B H v l) (hu : Upd g H H') (hne : v = .slice none 0 0 ∨ vblock v ≠ g) : Own n E e H0 B H' v l := by
  obtain ⟨flat, ⟨h0, h1⟩, h2⟩ := h
  refine ⟨flat, ⟨h0, ?_⟩, h2⟩
  rcases h1 with h1 | ⟨g', cap, cur, rfl, hB, hg, r⟩
  · exact .inl h1
  refine .inr ⟨g', cap, cur, rfl, hB, ?_, r⟩
  rw [hu.2 g' (by rcases hne with h | h; cases h; exact h)]; exact hg
theorem Own.weak {B' : Nat} (h : Own n E e H0 B H v l) (hB : B' ≤ B) : Own n E e H0 B' H v l := by
  obtain ⟨flat, ⟨h0, h1⟩, h2⟩ := h
  refine ⟨flat, ⟨h0, ?_⟩, h2⟩
  rcases h1 with h1 | ⟨g, cap, cur, hv, hB', r⟩
  · exact .inl h1
  exact .inr ⟨g, cap, cur, hv, by omega, r⟩
theorem Own.sl [k : Keeps E] (h : Own n E e H0 B H v l) (ho : Old H0 H) (hn : 0 < n) : Sl n E H v l := by
  obtain ⟨flat, ⟨h0, h1⟩, h2⟩ := h
  rcases h1 with ⟨rfl, h3⟩ | ⟨g, cap, cur, rfl, hB, hg, h4, h5, h6, h7⟩
  · have : l = [] := List.eq_nil_of_length_eq_zero h3
    subst this; exact Sl.nil _ _ _
  refine ⟨some ⟨g, 0, none⟩, cap, rfl, h4, h5, by simp, fun _ p hp => by cases hp; rfl, fun j x hj => ?_⟩
  have hjl := nth_lt hj
  have hle : j * n + n ≤ l.length * n := by
    have : (j + 1) * n ≤ l.length * n := Nat.mul_le_mul_right n hjl
    rw [Nat.add_mul, Nat.one_mul] at this; exact this
  refine ⟨(flat.drop (j * n)).take n, by simp; omega, fun i u hu => ?_, k.keep ho (h2 j x hj)⟩
  rw [nth_eq, List.getElem?_take] at hu
  split at hu
  · next hi =>
    rw [List.getElem?_drop] at hu
    simp only [vbase]
    rw [add_add _ rfl]
    have e : (Addr.mk g 0 none).add (j * n + i) = ⟨g, j * n + i, none⟩ := by unfold Addr.add; split <;> simp_all
    rw [e]
    rw [← h7, List.getElem?_take] at hu
    split at hu
    · simp only [cellH, hg]
      simpa using hu
    cases hu
  cases hu
end
/-- a literal of one-cell elements -/
theorem Own.lit {α : Type} {E : El α} {e : TypeId} {H0 H H' : Heap} {B : Nat} {cs : List Value} {l : List α} {m : Nat} (hn : New H cs e H') (hB : B ≤ H.size) (hm : m = l.length) (hmx : m ≤ maxLen) (hc : cs.length = l.length) (hE : ∀ j x u, nth l j = some x → nth cs j = some u → E H0 [u] x) :
    Own 1 E e H0 B H' (.slice (some ⟨H.size, 0, none⟩) m m) l := by
  subst hm
  refine ⟨cs, ⟨by simp [hc], .inr ⟨H.size, l.length, cs.toArray, rfl, hB, hn.2.2, Nat.le_refl _, hmx, by simp [hc], by simp [← hc]⟩⟩, fun j x hj => ?_⟩
  have hlt := nth_lt hj
  have hu : cs[j]? = some cs[j] := List.getElem?_eq_getElem (by omega)
  have : (cs.drop (j * 1)).take 1 = [cs[j]] := by
    rw [Nat.mul_one, List.drop_eq_getElem_cons (by omega)]; rfl
  rw [this]
  exact hE j x _ hj (by rw [nth_eq]; exact hu)
/-- a literal of elements of more cells -/
theorem Own.litN {α : Type} {n : Nat} {E : El α} {e : TypeId} {H0 H H' : Heap} {B : Nat} {cs : List Value} {l : List α} {m : Nat} (hn : New H cs e H') (hB : B ≤ H.size) (hm : m = l.length) (hmx : m ≤ maxLen) (hc : cs.length = l.length * n) (hE : ∀ j x, nth l j = some x → E H0 ((cs.drop (j * n)).take n) x) :
    Own n E e H0 B H' (.slice (some ⟨H.size, 0, none⟩) m m) l := by
  subst hm
  exact ⟨cs, ⟨hc, .inr ⟨H.size, l.length, cs.toArray, rfl, hB, hn.2.2, Nat.le_refl _, hmx, by simp [hc], by simp [← hc]⟩⟩, hE⟩
theorem Sl.lit1N {α : Type} {n : Nat} {E : El α} [Keeps E] {H H' : Heap} {e : TypeId} {cs : List Value} {x : α} (hn : New H cs e H') (hc : cs.length = n) (hpos : 0 < n) (hE : E H' cs x) : Sl n E H' (.slice (some ⟨H.size, 0, none⟩) 1 1) [x] := by
  refine (Own.litN (E := E) (H0 := H') (B := 0) (l := [x]) hn (Nat.zero_le _) rfl (by unfold maxLen; simp) (by simp [hc]) ?_).sl (Old.refl _) hpos
  intro j y hj
  match j, hj with
  | 0, hj =>
    cases hj
    have : (cs.drop (0 * n)).take n = cs := by rw [Nat.zero_mul, List.drop_zero, List.take_of_length_le (by omega)]
    rw [this]; exact hE
theorem Sl.lits {k : IntKind} {H H' : Heap} {e : TypeId} {l : List Int} {m : Nat} (hn : New H (l.map (Value.int k)) e H') (hm : m = l.length) (hmx : m ≤ 1000000000) (h : ∀ x ∈ l, InR k x) : Sl 1 (EInt k) H' (.slice (some ⟨H.size, 0, none⟩) m m) l := by
  refine (Own.lit (E := EInt k) (H0 := H') (B := 0) hn (Nat.zero_le _) hm (by unfold maxLen; omega) (by simp) ?_).sl (Old.refl _) (by omega)
  intro j x u hj hu
  rw [nth_eq] at hj hu
  rw [List.getElem?_map, hj] at hu
  cases hu
  exact ⟨rfl, h x (List.mem_of_getElem? hj)⟩
theorem Sl.empty {α : Type} {n : Nat} {E : El α} {H : Heap} {v : Value} (h : Sl n E H v []) (H' : Heap) : Sl n E H' v [] := by
  obtain ⟨a, cap, hv, h1, h2, h3, h4, h5⟩ := h
  exact ⟨a, cap, hv, h1, h2, h3, h4, by simp [nth]⟩
section
variable {P : Program} {n d : Nat} {W0 : World} {Q : Exit → Act → World → Prop} {ops rest : List Oper} {o : Oper} {E : Env} {H H0 : Heap} {v : Value}
variable {α : Type} {F : El α} {l : List α} {B : Nat} {e : TypeId}
theorem R.lenO {T t : TypeId} {x : Operand} (ho : o.op = .call { callee := .builtin .len, args := #[x], argTypes := #[T] }) (ht : P.underlying T = some (.slice t)) (hx : ev E x = some v) {Hx : Heap} (hs : Own n F e H0 B Hx v l) : Run P E H o (.int .i64 l.length) := by
  obtain ⟨a, cap, rfl, _⟩ := hs.val
  exact R.len (ty := 0) ho ht hx
theorem Own.addr {Hx : Heap} (hs : Own n F e H0 B Hx v l) (hl : 0 < l.length) : ∃ g cap, v = .slice (some ⟨g, 0, none⟩) l.length cap ∧ vbase v = ⟨g, 0, none⟩ ∧ vblock v = g ∧ B ≤ g := by
  obtain ⟨flat, ⟨h0, h1⟩, h2⟩ := hs
  rcases h1 with ⟨rfl, h3⟩ | ⟨g, cap, cur, rfl, hB, _⟩
  · omega
  exact ⟨g, cap, rfl, rfl, rfl, hB⟩
theorem R.indexO1 {T t : TypeId} {x i : Operand} {k : IntKind} {j : Nat} {z : Int} (ho : o.op = .indexAddr T x i) (ht : P.underlying T = some (.slice t)) (hz : (P.info? t).map (·.size) = some 1)
    (hx : ev E x = some v) (hi : ev E i = some (.int k z)) {Hx : Heap} (hs : Own 1 F e H0 B Hx v l) (hj : z = (j : Int)) (hlt : j < l.length) : Run P E H o (.pointer (some ((vbase v).add j))) := by
  obtain ⟨g, cap, rfl, hb, _⟩ := hs.addr (by omega)
  rw [hb]
  have := run_index (H := H) ho ht hz hx hi hj hlt
  rwa [Nat.mul_one] at this
/-- v[:hi] of a row of the call's own -/
def toV (v : Value) (hi : Nat) : Value := match v with
  | .slice a n c => .slice a hi c
  | v => v
theorem R.sliceTo {T t : TypeId} {x y : Operand} {k : IntKind} {z : Int} {sz j : Nat} (ho : o.op = .slice T x none (some y) none) (ht : P.underlying T = some (.slice t)) (hz : (P.info? t).map (·.size) = some sz)
    (hx : ev E x = some v) (hy : ev E y = some (.int k z)) {Hx : Heap} (hs : Own n F e H0 B Hx v l) (hj : z = (j : Int)) (hlt : j ≤ l.length) : Run P E H o (toV v j) := by
  obtain ⟨a, cap, rfl, h1, _, h3⟩ := hs.val
  have := run_slice (H := H) (lo := none) (hi := some y) ho ht hz hx bnd.no (bnd.mk hy hj) (by omega) (by omega)
  have e : subV sz (.slice a l.length cap) 0 j = toV (.slice a l.length cap) j := by
    simp only [subV, toV, Nat.sub_zero, Nat.zero_mul]
    split
    · rfl
    cases a <;> simp [Addr.add]
  rwa [e] at this
theorem Own.to {Hx : Heap} {j : Nat} (hs : Own n F e H0 B Hx v l) (hj : j ≤ l.length) : Own n F e H0 B Hx (toV v j) (l.take j) ∧ vblock (toV v j) = vblock v := by
  obtain ⟨flat, ⟨h0, h1⟩, h2⟩ := hs
  have hl : (l.take j).length = j := by simp; omega
  have hle : j * n ≤ l.length * n := Nat.mul_le_mul_right n hj
  refine ⟨⟨flat.take (j * n), ⟨by rw [hl]; simp; omega, ?_⟩, ?_⟩, ?_⟩
  · rcases h1 with ⟨rfl, h3⟩ | ⟨g, cap, cur, rfl, hB, hg, h4, h5, h6, h7⟩
    · left; rw [hl]; exact ⟨by simp [toV]; omega, by omega⟩
    right
    rw [hl]
    refine ⟨g, cap, cur, rfl, hB, hg, by omega, h5, h6, ?_⟩
    rw [← h7, List.take_take, Nat.min_eq_left hle]
  · intro i x hi
    have hil := nth_lt hi
    rw [hl] at hil
    rw [nth_eq, List.getElem?_take, if_pos hil] at hi
    have := h2 i x (by rw [nth_eq]; exact hi)
    rw [List.drop_take, List.take_take]
    have hle2 : i * n + n ≤ j * n := by
      have : (i + 1) * n ≤ j * n := Nat.mul_le_mul_right n hil
      rw [Nat.add_mul, Nat.one_mul] at this; exact this
    rw [Nat.min_eq_left (by omega)]; exact this
  rcases h1 with ⟨rfl, h3⟩ | ⟨g, cap, cur, rfl, hB, hg, _⟩ <;> rfl
theorem Own.int {k : IntKind} {l : List Int} (h : Own 1 (EInt k) e H0 B H v l) (j : Nat) (hj : j < l.length) : cellH H ((vbase v).add j) = some (.int k (l.getD j default)) ∧ InR k (l.getD j default) := by
  have h' : Own 1 (EInt k) e #[] B H v l := by
    obtain ⟨flat, h1, h2⟩ := h
    exact ⟨flat, h1, h2⟩
  have hs := h'.sl (k := keepsInt k) (emptyOld H) (by omega)
  exact hs.int j hj
theorem list_set_flat1 {flat : List Value} {j : Nat} {u : Value} (hj : j < flat.length) (i : Nat) : (((flat.set j u).drop (i * 1)).take 1) = if i = j then [u] else ((flat.drop (i * 1)).take 1) := by
  simp only [Nat.mul_one]
  by_cases h : i = j
  · subst h
    rw [if_pos rfl, List.drop_eq_getElem_cons (by simpa using hj)]
    simp
  rw [if_neg h]
  apply List.ext_getElem?
  intro k
  rw [List.getElem?_take, List.getElem?_take]
  split
  · rw [List.getElem?_drop, List.getElem?_drop, List.getElem?_set_ne (by omega)]
  rfl
/-- one element, of one cell, stored -/
theorem S.own1 {T : TypeId} {x y : Operand} {u : Value} {j : Nat} {a : α} (ho : o.op = .store T x y) (hs : (P.info? T).map (·.size) = some 1) (hx : ev E x = some (.pointer (some ((vbase v).add j)))) (hy : ev E y = some u) (hv : u.cells = #[u]) (h1 : u.oneCell' = true)
    (hown : Own 1 F e H0 B H v l) (hj : j < l.length) (hF : F H0 [u] a) : RunS P E H o (fun H' => Upd (vblock v) H H' ∧ Own 1 F e H0 B H' v (l.set j a)) := by
  obtain ⟨flat, ⟨h0, hcase⟩, hel⟩ := hown
  rcases hcase with ⟨rfl, h3⟩ | ⟨g, cap, cur, rfl, hB, hg, h4, h5, h6, h7⟩
  · omega
  have ep : ((vbase (.slice (some ⟨g, 0, none⟩) l.length cap)).add j) = ⟨g, j, none⟩ := by simp only [vbase]; unfold Addr.add; split <;> simp_all
  rw [ep] at hx
  have hst := S.store (P := P) (E := E) (H := H) (cs := cur.toList) ho hs hx hy hv h1 (by simpa using hg) (by simp; omega)
  intro ρ w ha hw
  obtain ⟨w', hr, hst', hu, hb⟩ := hst ρ w ha hw
  refine ⟨w', hr, hst', hu, flat.set j u, ⟨by simp [h0], .inr ⟨g, cap, (cur.toList.set j u).toArray, by simp, hB, hb, by simp; omega, h5, by simp [h6], ?_⟩⟩, ?_⟩
  · simp only [List.length_set]
    rw [← h7]
    simp [List.take_set]
  intro i b hi
  rw [list_set_flat1 (by omega)]
  rw [nth_eq, List.getElem?_set] at hi
  by_cases hij : i = j
  · subst hij
    simp [hj] at hi; subst hi
    rw [if_pos rfl]; exact hF
  rw [if_neg hij]
  rw [if_neg (fun h => hij h.symm)] at hi
  exact hel i b (by rw [nth_eq]; exact hi)
/-- what is made by an append: a row of v's own block or a new one -/
def Grown (v : Value) (H H' : Heap) : Prop := H.size ≤ H'.size ∧ ∀ k, k < H.size → (v = .slice none 0 0 ∨ k ≠ vblock v) → H'[k]? = H[k]?
theorem Grown.oldB {H H' : Heap} (hg : Grown v H H') (hown : Own n F e H0 B H v l) (hB : B ≤ H.size) : OldB B H H' := by
  refine ⟨hg.1, fun k hk => hg.2 k (by omega) ?_⟩
  rcases hown.lt with h | h
  · exact .inl h
  exact .inr (by omega)
/-- each of an element's cells is one cell's worth -/
class One {α : Type} (E : El α) : Prop where
  one : ∀ {H : Heap} {cs : List Value} {x : α}, E H cs x → ∀ u ∈ cs, u.oneCell' = true
instance oneInt (k : IntKind) : One (EInt k) := ⟨fun h u hu => by obtain ⟨rfl, _⟩ := h; simp at hu; subst hu; rfl⟩
instance oneBool : One EBool := ⟨fun h u hu => by cases h; simp at hu; subst hu; rfl⟩
instance oneSl {α : Type} {n : Nat} {E : El α} : One (ESl n E) := ⟨fun h u hu => by obtain ⟨v, rfl, hs⟩ := h; simp at hu; subst hu; exact hs.one⟩
theorem flat_at {n : Nat} (F : Nat → List Value) (k : Nat) (hF : ∀ j, j < k → (F j).length = n) (j : Nat) (hj : j < k) :
    ((((List.range (k * n)).map (fun q => (F (q / n)).getD (q % n) undef)).drop (j * n)).take n) = F j := by
  have hl := hF j hj
  apply List.ext_getElem?
  intro i
  by_cases hi : i < n
  · have hlt : j * n + i < k * n := by
      have : (j + 1) * n ≤ k * n := Nat.mul_le_mul_right n hj
      rw [Nat.add_mul, Nat.one_mul] at this; omega
    rw [List.getElem?_take, if_pos hi, List.getElem?_drop, List.getElem?_map, List.getElem?_range hlt]
    have e1 : (j * n + i) / n = j := by rw [Nat.mul_comm, Nat.mul_add_div (by omega), Nat.div_eq_of_lt hi]; omega
    have e2 : (j * n + i) % n = i := by rw [Nat.mul_comm, Nat.mul_add_mod, Nat.mod_eq_of_lt hi]
    simp only [Option.map_some, e1, e2]
    rw [List.getElem?_eq_getElem (by omega), List.getD_eq_getElem?_getD, List.getElem?_eq_getElem (by omega)]
    rfl
  rw [List.getElem?_eq_none (by simp; omega), List.getElem?_eq_none (by omega)]
/-- a slice's cells, one behind the other -/
theorem Sl.flat [Inhabited α] (h : Sl n F H v l) (hl : 0 < l.length) : ∃ flat : List Value, flat.length = l.length * n ∧ (∀ q u, flat[q]? = some u → cellH H ((vbase v).add q) = some u) ∧ ∀ j x, nth l j = some x → F H ((flat.drop (j * n)).take n) x := by
  obtain ⟨a, cap, hv, hsp, hb⟩ := h.addr hl
  have hex : ∀ j, j < l.length → ∃ cs : List Value, cs.length = n ∧ (∀ i u, nth cs i = some u → cellH H ((vbase v).add (j * n + i)) = some u) ∧ F H cs (l.getD j default) := by
    intro j hj
    obtain ⟨cs, h1, h2, h3⟩ := h.at j hj
    refine ⟨cs, h1, fun i u hu => ?_, h3⟩
    rw [← add_add _ (by rw [hb]; exact hsp)]; exact h2 i u hu
  obtain ⟨G, hG⟩ := choose_lt hex
  refine ⟨(List.range (l.length * n)).map (fun q => (G (q / n)).getD (q % n) undef), by simp, ?_, ?_⟩
  · intro q u hq
    simp only [List.getElem?_map, Option.map_eq_some_iff] at hq
    obtain ⟨p, hp, rfl⟩ := hq
    obtain ⟨hp1, hp2⟩ := List.getElem?_eq_some_iff.1 hp
    simp at hp1 hp2
    subst hp2
    have hn : 0 < n := by
      rcases Nat.eq_zero_or_pos n with h | h
      · subst h; omega
      exact h
    have hd : q / n < l.length := (Nat.div_lt_iff_lt_mul hn).2 hp1
    have hm := Nat.mod_lt q hn
    obtain ⟨hl, hc, _⟩ := hG (q / n) hd
    have := hc (q % n) ((G (q / n)).getD (q % n) undef) (by rw [nth_eq, List.getD_eq_getElem?_getD, List.getElem?_eq_getElem (by omega)]; rfl)
    rwa [Nat.mul_comm, Nat.div_add_mod] at this
  intro j x hj
  have hlt := nth_lt hj
  rw [flat_at G l.length (fun j h => (hG j h).1) j hlt]
  have := (hG j hlt).2.2
  rw [nth_getD hlt] at hj
  injection hj with hj
  rwa [hj] at this
/-- append of all of a slice to a row of the call's own -/
theorem M.append [Inhabited α] [k1 : One F] {T : TypeId} {s x : Operand} {u : Value} {m : List α} {z : Value} {by' : Nat} (ho : o.op = .call { callee := .builtin .append, args := #[s, x], argTypes := #[T, T] }) (ht : P.underlying T = some (.slice e)) (hi : (P.info? e).map (fun i => (i.zero, i.size, i.bytes)) = some (some z, n, by')) (hz : z.cells.size = n) (hn : 0 < n)
    (hs : ev E s = some v) (hx : ev E x = some u) (hown : Own n F e H0 B H v l) (hm : Sl n F H u m) (hE : ∀ cs y, F H cs y → y ∈ m → F H0 cs y) (hB : B ≤ H.size) (hsz : (l.length + m.length) * by' ≤ 140737488355328) (hlen : l.length + m.length ≤ maxLen) :
    RunM P E H o (fun v' H' => Own n F e H0 B H' v' (l ++ m) ∧ Grown v H H') := by
  intro ρ w ha hw
  obtain ⟨i, hi', hz0, hz1, hz2⟩ : ∃ i, P.info? e = some i ∧ i.zero = some z ∧ i.size = n ∧ i.bytes = by' := by
    cases hq : P.info? e with
    | none => simp [hq] at hi
    | some i => simp [hq] at hi; exact ⟨i, rfl, hi⟩
  by_cases hl : m.length = 0
  · have h2 : m = [] := List.eq_nil_of_length_eq_zero hl
    subst h2
    obtain ⟨a, cap, hu, hc1, hc2, hc3, hc4, _⟩ := hm
    subst hu
    simp only [List.append_nil]
    obtain ⟨flat, hrow, hel⟩ := hown
    cases a with
    | none =>
      have hc0 := hc3 rfl
      subst hc0
      have hrun := run_append_owned_none (P := P) (w := w) B T o.type e i n ht hi' v l.length flat (by rw [ownH_w, hw]; exact hrow)
      refine ⟨v, w, ?_, St.refl w, by rw [hw]; exact ⟨flat, hrow, hel⟩, by rw [hw]; exact ⟨Nat.le_refl _, fun _ _ _ => rfl⟩⟩
      simp [execOp, ho, resolve, invoke, builtin, ha s _ hs, ha x _ hx, hrun, Sem.run_bind, Sem.run_pure, Result.andThen]
    | some ad =>
      obtain ⟨v', w', hr, h2, h3, h4⟩ := run_append_own (P := P) w B T o.type e i z n by' ht hi' hz0 hz1 hz2 hz hn v l.length flat (by rw [ownH_w, hw]; exact hrow) ad 0 cap [] (by simp) (by simp) (by simp) (by simpa using hlen) (by simpa using hsz) (by rw [hw]; exact hB)
      refine ⟨v', w', ?_, ⟨rfl, h3.os, h3.tape, h3.output⟩, ⟨flat, by simpa [ownH_w] using h2, hel⟩, by rw [← hw]; exact h3.size, fun k hk hne => ?_⟩
      · simp [execOp, ho, resolve, invoke, builtin, ha s _ hs, ha x _ hx, Sem.run_bind, Sem.run_pure, Result.andThen]
        simp [hr]
      rw [← hw] at hk ⊢
      refine h3.block k hk (fun hkv => ?_)
      have hkk : v = .slice none 0 0 ∨ vblock v = k := by
        rcases hrow.2 with ⟨rfl, _⟩ | ⟨g, cp, cr, rfl, _⟩
        · exact .inl rfl
        right; simp [Value.ownBlock] at hkv; simp [vblock, vbase, hkv]
      rcases hne with rfl | hne
      · simp [Value.ownBlock] at hkv
      rcases hkk with rfl | hkk
      · simp [Value.ownBlock] at hkv
      exact hne hkk.symm
  obtain ⟨ad, cap, hu, hsp, hb⟩ := hm.addr (by omega)
  obtain ⟨fm, hfl, hfc, hfe⟩ := hm.flat (by omega)
  obtain ⟨flat, hrow, hel⟩ := hown
  rw [hb] at hfc
  have h1 : ∀ q ∈ fm, q.oneCell' = true := by
    intro q hq
    obtain ⟨k, hk1, hk2⟩ := List.getElem_of_mem hq
    have hd : k / n < m.length := (Nat.div_lt_iff_lt_mul hn).2 (by omega)
    refine k1.one (hfe (k / n) _ (nth_getD hd)) q ?_
    rw [List.mem_iff_getElem?]
    refine ⟨k % n, ?_⟩
    rw [List.getElem?_take, if_pos (Nat.mod_lt _ hn), List.getElem?_drop, Nat.mul_comm, Nat.div_add_mod, List.getElem?_eq_getElem hk1, hk2]
  obtain ⟨v', w', hr, h2, h3, h4⟩ := run_append_own (P := P) w B T o.type e i z n by' ht hi' hz0 hz1 hz2 hz hn v l.length flat (by rw [ownH_w, hw]; exact hrow) ad m.length cap fm hfl (fun j q hj => by rw [cell_w hw]; exact hfc j q hj) h1 hlen hsz (by rw [hw]; exact hB)
  refine ⟨v', w', ?_, ⟨rfl, h3.os, h3.tape, h3.output⟩, ⟨flat ++ fm, by simpa [ownH_w] using h2, ?_⟩, by rw [← hw]; exact h3.size, fun k hk hne => ?_⟩
  · subst hu
    simp [execOp, ho, resolve, invoke, builtin, ha s _ hs, ha x _ hx, Sem.run_bind, Sem.run_pure, Result.andThen]
    simp [hr]
  · intro j x hj
    have hlen' := hrow.1
    rw [nth_eq] at hj
    by_cases hjl : j < l.length
    · rw [List.getElem?_append_left hjl] at hj
      have hle : j * n + n ≤ flat.length := by
        rw [hlen']
        have : (j + 1) * n ≤ l.length * n := Nat.mul_le_mul_right n hjl
        rw [Nat.add_mul, Nat.one_mul] at this; exact this
      rw [List.drop_append_of_le_length (by omega), List.take_append_of_le_length (by simp; omega)]
      exact hel j x (by rw [nth_eq]; exact hj)
    rw [List.getElem?_append_right (by omega)] at hj
    have hge : j * n = flat.length + (j - l.length) * n := by
      rw [hlen', ← Nat.add_mul]; congr 1; omega
    rw [hge, List.drop_append]
    simp only [Nat.le_add_right, List.drop_eq_nil_of_le, List.nil_append, Nat.add_sub_cancel_left]
    exact hE _ _ (hfe _ x (by rw [nth_eq]; exact hj)) (List.mem_of_getElem? hj)
  rw [← hw] at hk ⊢
  refine h3.block k hk (fun hkv => ?_)
  have hkk : v = .slice none 0 0 ∨ vblock v = k := by
    rcases hrow.2 with ⟨rfl, _⟩ | ⟨g, cp, cr, rfl, _⟩
    · exact .inl rfl
    right; simp [Value.ownBlock] at hkv; simp [vblock, vbase, hkv]
  rcases hne with rfl | hne
  · simp [Value.ownBlock] at hkv
  rcases hkk with rfl | hkk
  · simp [Value.ownBlock] at hkv
  exact hne hkk.symm
end
end Go.Proofs.YtldmfchamcpmmaaGreatDoor
namespace Go.Proofs.YtldmfchamcpmmaaGreatDoor
open Go Go.RowKit Go.ChangeShapes Go.WideShapes Go.Deep
/-- what a row tells of such a type is such a reading -/
def Opens (P : Program) (t : TypeId) {α : Type} (E : El α) : Prop :=
  ∀ (H : Type) (enc : TypeId × Value → H) (w : World) (base : Nat) (spare : Nat → Bool) (held : Bool) (fuel : Nat) (cs : List Value) (x : DataW H × List MemPlace), DataW.trod enc P w base spare held fuel t cs = some x → ∃ y, E w.heap cs y
theorem opens_int {P : Program} {t : TypeId} {k : IntKind} (ht : P.underlying t = some (.int k)) : Opens P t (EInt k) := by
  intro H enc w base spare held fuel cs x h
  obtain ⟨n, hn, _, hw⟩ := DataW.trod_int ht h
  exact ⟨n, hn, inR_wf.1 hw⟩
theorem opens_bool {P : Program} {t : TypeId} (ht : P.underlying t = some .bool) : Opens P t EBool := by
  intro H enc w base spare held fuel cs x h
  obtain ⟨n, hn, _⟩ := DataW.trod_bool ht h
  exact ⟨n, hn⟩
theorem opens_slice {P : Program} {t e : TypeId} {α : Type} [Inhabited α] {n : Nat} {E : El α} (ht : P.underlying t = some (.slice e)) (hn : P.cellsOf e = n) (hpos : 0 < n) (hE : Opens P e E) : Opens P t (ESl n E) := by
  intro H enc w base spare held fuel cs x h
  subst hn
  rcases open_slice ht h with ⟨rfl, _⟩ | ⟨a, len, cap, m, f, D, Pl, rfl, _, hl, hm, hmm, _, hi⟩
  · exact ⟨[], _, rfl, Sl.nil _ _ _⟩
  have hlm : len ≤ m := by rw [hmm]; split <;> omega
  have hex : ∀ i, i < len → ∃ y : α, ∃ cs', w.cells? base (a.add (i * P.cellsOf e)) (P.cellsOf e) = some cs' ∧ E w.heap cs' y := by
    intro i hil
    obtain ⟨cs', hc, ht'⟩ := hi i (by omega)
    obtain ⟨y, hy⟩ := hE _ _ _ _ _ _ _ _ _ ht'
    exact ⟨y, cs', hc, hy⟩
  obtain ⟨F, hF⟩ := choose_lt hex
  by_cases h0 : len = 0
  · subst h0
    exact ⟨[], _, rfl, some a, cap, rfl, by simp, hm, by simp, fun h => absurd h (by simp), by simp [nth]⟩
  have hsp : a.spot = none := by
    obtain ⟨cs0, hc0, _⟩ := hF 0 (by omega)
    obtain ⟨_, hcl0, hat0⟩ := World.cells?_some hc0
    have h1 := hat0 0 hpos
    have h2 : cs0[0]? = some (cs0[0]'(by omega)) := List.getElem?_eq_getElem (by omega)
    rw [h2] at h1
    have := World.cell?_spot h1
    simpa [Addr.add] using this
  refine ⟨(List.range len).map F, _, rfl, some a, cap, by simp, by simpa using hl, hm, by simp, fun _ p hp => by cases hp; exact hsp, ?_⟩
  intro j y hj
  rw [nth_eq] at hj
  simp only [List.getElem?_map, Option.map_eq_some_iff] at hj
  obtain ⟨i, hi', rfl⟩ := hj
  have hil : i < len ∧ i = j := by
    obtain ⟨h1, h2⟩ := List.getElem?_eq_some_iff.1 hi'
    simp at h1 h2
    omega
  obtain ⟨hil, rfl⟩ := hil
  obtain ⟨cs', hc, hy⟩ := hF i hil
  obtain ⟨_, hcl, hat⟩ := World.cells?_some hc
  refine ⟨cs', hcl, ?_, hy⟩
  intro q u hu
  rw [nth_eq] at hu
  have hq : q < P.cellsOf e := by
    have := (List.getElem?_eq_some_iff.1 hu).1
    omega
  have h1 := hat q hq
  rw [hu] at h1
  exact h1
end Go.Proofs.YtldmfchamcpmmaaGreatDoor
namespace Go.Proofs.YtldmfchamcpmmaaGreatDoor
open Go Go.RowKit Go.ChangeShapes Go.WideShapes Go.Deep
theorem Upd.refl (g : Nat) (H : Heap) : Upd g H H := ⟨rfl, fun _ _ => rfl⟩
theorem Upd.trans {g : Nat} {A B C : Heap} (h : Upd g A B) (k : Upd g B C) : Upd g A C := ⟨k.1.trans h.1, fun i hi => (k.2 i hi).trans (h.2 i hi)⟩
/-- only block g, v's own, and new ones may have been changed -/
def Fr (g : Nat) (v : Value) (H H' : Heap) : Prop := H.size ≤ H'.size ∧ ∀ k, k < H.size → k ≠ g → (v = .slice none 0 0 ∨ k ≠ vblock v) → H'[k]? = H[k]?
theorem Fr.refl (g : Nat) (v : Value) (H : Heap) : Fr g v H H := ⟨Nat.le_refl _, fun _ _ _ _ => rfl⟩
theorem Fr.ofOld {g : Nat} {v : Value} {H H' : Heap} (h : Old H H') : Fr g v H H' := ⟨h.1, fun k hk _ _ => h.2 k hk⟩
theorem Fr.ofUpd {g : Nat} {v : Value} {H H' : Heap} (hn : v ≠ .slice none 0 0) (h : Upd (vblock v) H H') : Fr g v H H' := ⟨Nat.le_of_eq h.1.symm, fun k _ _ h2 => h.2 k (h2.resolve_left hn)⟩
theorem Fr.oldB {g B : Nat} {v : Value} {H H' : Heap} (h : Fr g v H H') (hB : B ≤ H.size) (hg : B ≤ g) (hv : v = .slice none 0 0 ∨ B ≤ vblock v) : OldB B H H' :=
  ⟨h.1, fun k hk => h.2 k (by omega) (by omega) (hv.imp id (fun h => by omega))⟩
section
variable {P : Program} {E : Env} {H : Heap} {o : Oper} {v : Value} {e : TypeId} {H0 : Heap} {B : Nat} {α : Type} {F : El α} {l : List α}
/-- the row behind an append: v's own, or a new one -/
def Nx (H : Heap) (v v' : Value) : Prop := v' = .slice none 0 0 ∨ (v ≠ .slice none 0 0 ∧ vblock v' = vblock v) ∨ H.size ≤ vblock v'
/-! ### arrays -/
/-- an array's literal -/
theorem R.buildArr {T e' : TypeId} {n sz : Nat} {parts : Array (Nat × Operand)} {vs : List (Nat × Value)} {z : Value} {cs : Array Value} (ho : o.op = .build T parts) (ht : P.underlying T = some (.array n e')) (hz : (P.info? T).map (·.zero) = some (some z)) (hs : (P.info? e').map (·.size) = some sz)
    (hp : partsOf E parts.toList = some vs) (hfill : Instr.fill (fun i => some (i * sz, sz)) z.cells vs = some cs) : Run P E H o (.agg cs) := by
  intro ρ w ha hw
  cases hq : P.info? T with
  | none => simp [hq] at hz
  | some i =>
    simp [hq] at hz
    cases hq2 : P.info? e' with
    | none => simp [hq2] at hs
    | some i2 =>
      simp [hq2] at hs
      have e1 : List.map (fun p => (p.1, ρ p.2)) parts.toList = vs := ha.parts hp
      simp [execOp, ho, Instr.build, underlying, zeroValue, sizeOf, typeInfo, program, ht, hq, hq2, hz, hs, e1, Sem.run_bind, Sem.run_pure, Result.andThen, Sem.run]
      simp [hfill, Sem.run_bind, Sem.run_pure, Result.andThen, Sem.run]
/-- the address of an element of an array -/
theorem R.indexAddrArr {T e' : TypeId} {n j sz : Nat} {x i : Operand} {k : IntKind} {z : Int} {p : Addr} (ho : o.op = .indexAddr T x i) (ht : P.underlying T = some (.array n e')) (hs : (P.info? e').map (·.size) = some sz)
    (hx : ev E x = some (.pointer (some p))) (hi : ev E i = some (.int k z)) (hj : z = (j : Int)) (hlt : j < n) : Run P E H o (.pointer (some (p.add (j * sz)))) := by
  intro ρ w ha hw
  subst hj
  cases hq : P.info? e' with
  | none => simp [hq] at hs
  | some inf =>
    simp [hq] at hs
    simp [execOp, ho, ha x _ hx, ha i _ hi, Instr.indexAt, Instr.sureAddr, asIntOf, underlying, sizeOf, typeInfo, program, ht, hq, hs, hlt, Sem.run_bind, Sem.run_pure, Result.andThen, Sem.run]
end
end Go.Proofs.YtldmfchamcpmmaaGreatDoor
namespace Go.Proofs.YtldmfchamcpmmaaGreatDoor
open Go Go.RowKit Go.ChangeShapes Go.WideShapes Go.Deep
/-- bytes as a string -/
def bstr (ns : List Int) : ByteArray := ns.foldl (fun r n => r.push (UInt8.ofNat n.toNat)) ByteArray.empty
section
variable {P : Program} {E : Env} {H Hx : Heap} {o : Oper} {v : Value}
/-- string(b) -/
theorem R.convBS {S D e : TypeId} {x : Operand} {l : List Int} (ho : o.op = .convert S D x) (hs : P.underlying S = some (.slice e)) (he : P.underlying e = some (.int .u8)) (hd : P.underlying D = some .string)
    (hx : ev E x = some v) (hl : Sl 1 (EInt .u8) H v l) : Run P E H o (.string (bstr l)) := by
  intro ρ w ha hw
  subst hw
  by_cases h0 : l.length = 0
  · have hl0 : l = [] := List.eq_nil_of_length_eq_zero h0
    subst hl0
    obtain ⟨a, c, rfl⟩ := hl.val
    have hr := run_convert_bytes_string (P := P) w S D e a 0 c hs he hd
    have hb : (Conv.bytesToString (.slice a 0 c)).run P w = .ok (.string (bstr [])) w := by
      cases a with
      | none => rfl
      | some p =>
        have := run_bytesToString (P := P) w p 0 c [] (by simpa using run_loadCells_list (P := P) w p [] (by simp))
        exact this
    have hx' := ha x _ hx
    simp only [List.length_nil] at hx'
    simp [execOp, ho, hx', Sem.run_bind, Sem.run_pure, Result.andThen]
    rw [hr, hb]
  obtain ⟨p, cap, hv, hsp, hb⟩ := hl.addr (by omega)
  subst hv
  have hr := run_convert_bytes_string (P := P) w S D e (some p) l.length cap hs he hd
  have hc := run_loadCells_list (P := P) w p (l.map (Value.int .u8)) (by
    intro j u hj
    simp only [List.getElem?_map, Option.map_eq_some_iff] at hj
    obtain ⟨z, hz, rfl⟩ := hj
    obtain ⟨hlt, hze⟩ := List.getElem?_eq_some_iff.1 hz
    have := (hl.int j hlt).1
    rw [hb, List.getD_eq_getElem?_getD, hz] at this
    rw [cell_w rfl]
    exact this)
  have hbs := run_bytesToString (P := P) w p l.length cap l (by simpa using hc)
  have hx' := ha x _ hx
  simp [execOp, ho, hx', Sem.run_bind, Sem.run_pure, Result.andThen]
  rw [hr, hbs]
  rfl
/-- a literal's own row, marked (the conversion of a constant string) -/
theorem M.mark {T e : TypeId} {x : Operand} {g n c : Nat} {cs : List Value} (ho : o.op = .convert T T x) (ht : P.underlying T = some (.slice e)) (he : P.underlying e = some (.int .u8))
    (hx : ev E x = some (.slice (some ⟨g, 0, none⟩) n c)) (hb : H[g]? = some (.cells cs.toArray e (0, 0))) :
    RunM P E H o (fun u H' => u = .slice (some ⟨g, 0, none⟩) n c ∧ Upd g H H' ∧ H'[g]? = some (.cells cs.toArray e (cs.length, cs.length + 1))) := by
  intro ρ w ha hw
  subst hw
  have hsh : w.shape? g = some (e, cs.length) := by unfold World.shape?; rw [hb]; simp
  have hx' := ha x _ hx
  refine ⟨.slice (some ⟨g, 0, none⟩) n c, w.freeze ⟨g, cs.length, none⟩ 1, ?_, ?_, rfl, ?_, ?_⟩
  · simp [execOp, ho, hx', convert, run_underlying ht, run_underlying he, markStringish, hsh, Sem.run_bind, Sem.run_pure, Result.andThen]
  · unfold World.freeze
    rw [if_neg (by decide)]
    exact ⟨rfl, rfl, rfl, rfl⟩
  · unfold World.freeze
    rw [if_neg (by decide)]
    refine ⟨by simp, fun k hk => ?_⟩
    simp [Array.getElem?_modify, Ne.symm hk]
  unfold World.freeze
  rw [if_neg (by decide)]
  simp [Array.getElem?_modify, hb]
end
theorem Sl.ofCells {k : IntKind} {H : Heap} {g : Nat} {e : TypeId} {l : List Int} {z : Nat × Nat} (hb : H[g]? = some (.cells (l.map (Value.int k)).toArray e z)) (hl : l.length ≤ 1000000000) (hr : ∀ x ∈ l, InR k x) : Sl 1 (EInt k) H (.slice (some ⟨g, 0, none⟩) l.length l.length) l := by
  refine ⟨some ⟨g, 0, none⟩, l.length, rfl, Nat.le_refl _, by unfold maxLen; omega, by simp, fun _ p hp => by cases hp; rfl, fun j x hj => ?_⟩
  have hlt := nth_lt hj
  rw [nth_eq] at hj
  refine ⟨[.int k x], rfl, ?_, rfl, hr x (List.mem_of_getElem? hj)⟩
  intro i u hu
  have hi : i = 0 ∧ u = .int k x := by
    cases i with
    | zero => injection hu with hu; exact ⟨rfl, hu.symm⟩
    | succ i => cases hu
  obtain ⟨rfl, rfl⟩ := hi
  simp only [vbase]
  rw [add_add _ rfl]
  have e : (Addr.mk g 0 none).add (j * 1 + 0) = ⟨g, j, none⟩ := by unfold Addr.add; split <;> simp_all
  rw [e]
  exact cell_of hb (by rw [nth_eq]; simp [hj])
end Go.Proofs.YtldmfchamcpmmaaGreatDoor
namespace Go.Proofs.YtldmfchamcpmmaaGreatDoor
open Go Go.RowKit Go.Deep
/-- a string's bytes -/
def ints (s : ByteArray) : List Int := s.data.toList.map fun b => (b.toNat : Int)
theorem ints_length (s : ByteArray) : (ints s).length = s.size := by simp [ints]
theorem ints_range {s : ByteArray} : ∀ x ∈ ints s, InR .u8 x := by
  intro x hx
  simp only [ints, List.mem_map] at hx
  obtain ⟨b, _, rfl⟩ := hx
  have := UInt8.toNat_lt b
  dsimp only [InR]; omega
theorem bytes_back {l : List Int} (h : ∀ x ∈ l, InR .u8 x) : (l.map Lib.byteOf).map (fun b => (b.toNat : Int)) = l := by
  induction l with
  | nil => rfl
  | cons x l ih =>
    simp only [List.map_cons]
    rw [ih (fun y hy => h y (List.mem_cons_of_mem _ hy)), Lib.byteOf_toNat (h x (List.mem_cons_self ..))]
theorem bstr_map (l : List UInt8) : bstr (l.map fun b => (b.toNat : Int)) = ⟨l.toArray⟩ := by
  unfold bstr
  rw [foldl_push_byteCells]
  show ByteArray.mk (#[] ++ l.toArray) = _
  simp
theorem bstr_ints (s : ByteArray) : bstr (ints s) = s := by
  unfold ints; rw [bstr_map]
theorem ints_bstr {l : List Int} (h : ∀ x ∈ l, InR .u8 x) : ints (bstr l) = l := by
  have e := bytes_back h
  rw [← e, bstr_map]; rfl
theorem ints_inj {a b : ByteArray} : ints a = ints b ↔ a = b :=
  ⟨fun h => by rw [← bstr_ints a, ← bstr_ints b, h], fun h => by rw [h]⟩
theorem bstr_size {l : List Int} (h : ∀ x ∈ l, InR .u8 x) : (bstr l).size = l.length := by rw [← ints_length, ints_bstr h]
theorem ba_loop (s : ByteArray) : ∀ (n i : Nat) (r : List UInt8), s.size - i = n → ByteArray.toList.loop s i r = r.reverse ++ s.data.toList.drop i := by
  intro n
  induction n with
  | zero =>
    intro i r h
    rw [ByteArray.toList.loop, if_neg (by omega), List.drop_of_length_le (by show s.size ≤ i; omega), List.append_nil]
  | succ n ih =>
    intro i r h
    have hi : i < s.data.toList.length := by show i < s.size; omega
    rw [ByteArray.toList.loop, if_pos (by omega), ih _ _ (by omega), List.drop_eq_getElem_cons hi]
    have e : s.get! i = s.data.toList[i] := by
      show s.data[i]! = _
      have hi' : i < s.data.size := hi
      rw [getElem!_pos s.data i hi']; rfl
    rw [e]; simp
theorem ba_toList (s : ByteArray) : s.toList = s.data.toList := by
  rw [ByteArray.toList, ba_loop s _ 0 [] rfl]; simp
theorem str_eq (a b : ByteArray) : (a.toList == b.toList) = decide (a = b) := by
  rw [ba_toList, ba_toList]
  by_cases h : a = b
  · subst h; simp
  rw [decide_eq_false h]
  simp only [beq_eq_false_iff_ne, ne_eq]
  intro e
  apply h
  have : a.data = b.data := Array.ext' e
  cases a; cases b; simp_all
theorem str_eq_ints (a b : ByteArray) : (a.toList == b.toList) = decide (ints a = ints b) := by
  rw [str_eq]; by_cases h : a = b
  · rw [decide_eq_true h, decide_eq_true (ints_inj.2 h)]
  rw [decide_eq_false h, decide_eq_false (fun e => h (ints_inj.1 e))]
section
variable {P : Program} {E : Env} {H Hx : Heap} {o : Oper} {v : Value}
theorem R.addStr {T T' : TypeId} {x y : Operand} {a b : ByteArray} (ho : o.op = .binOp .add T x y T') (hx : ev E x = some (.string a)) (hy : ev E y = some (.string b)) (h : a.size + b.size ≤ 1000000000000) : Run P E H o (.string (a ++ b)) :=
  bin_run2 ho hx hy (fun w => by simp [eqGuard, Sem.run_pure]) fun w => by
    have : ¬ (((a.size + b.size : Nat) : Int) > IntKind.i64.max) := by simp [IntKind.max, IntKind.bits, IntKind.signed]; omega
    simp only [binOp, Op.stringOp]
    rw [if_neg this]
    simp [Sem.run_pure]
/-- []byte(s) -/
theorem M.toBytes {S D e : TypeId} {x : Operand} {s : ByteArray} (ho : o.op = .convert S D x) (hs : P.underlying S = some .string) (hd : P.underlying D = some (.slice e)) (he : P.underlying e = some (.int .u8)) (hx : ev E x = some (.string s)) (hmx : s.size ≤ 1000000000) :
    RunM P E H o (fun u H' => Sl 1 (EInt .u8) H' u (ints s) ∧ vblock u = H.size ∧ Old H H' ∧ H'.size = H.size + 1) := by
  intro ρ w ha hw
  subst hw
  have hr := run_bytes_of_string (P := P) w S D e s hs hd he
  have hge := grownCap_ge w s.size 0 e
  have hcm : grownCap w s.size 0 e ≤ maxLen := grownCap_le_maxLen w s.size 0 e (by unfold maxLen; omega)
  refine ⟨.slice (some ⟨w.heap.size, 0, none⟩) s.size (grownCap w s.size 0 e), w.drew.alloc (.cells (bytesRow s (grownCap w s.size 0 e)) e ((bytesRow s (grownCap w s.size 0 e)).size, (bytesRow s (grownCap w s.size 0 e)).size + 1)), by simp [execOp, ho, ha x _ hx, hr, Sem.run_bind, Sem.run_pure, Result.andThen], ⟨rfl, rfl, rfl, rfl⟩, ?_, rfl, ?_, by simp⟩
  · refine ⟨some ⟨w.heap.size, 0, none⟩, _, by rw [ints_length], by rw [ints_length]; exact hge, hcm, by simp, fun _ p hp => by cases hp; rfl, fun j x hj => ?_⟩
    have hlt := nth_lt hj
    rw [nth_eq] at hj
    refine ⟨[.int .u8 x], rfl, ?_, rfl, ints_range x (List.mem_of_getElem? hj)⟩
    intro i u hu
    have hi : i = 0 ∧ u = .int .u8 x := by
      cases i with
      | zero => injection hu with hu; exact ⟨rfl, hu.symm⟩
      | succ i => cases hu
    obtain ⟨rfl, rfl⟩ := hi
    simp only [vbase]
    rw [add_add _ rfl]
    have e0 : (Addr.mk w.heap.size 0 none).add (j * 1 + 0) = ⟨w.heap.size, j, none⟩ := by unfold Addr.add; split <;> simp_all
    rw [e0]
    have hb : (w.drew.alloc (.cells (bytesRow s (grownCap w s.size 0 e)) e ((bytesRow s (grownCap w s.size 0 e)).size, (bytesRow s (grownCap w s.size 0 e)).size + 1))).heap[w.heap.size]? = some (.cells (bytesRow s (grownCap w s.size 0 e)).toList.toArray e ((bytesRow s (grownCap w s.size 0 e)).size, (bytesRow s (grownCap w s.size 0 e)).size + 1)) := by
      show (w.heap.push _)[w.heap.size]? = _
      simp
    refine cell_of hb ?_
    rw [nth_eq]
    have e1 : (bytesRow s (grownCap w s.size 0 e)).toList = (ints s).map (Value.int .u8) ++ List.replicate (grownCap w s.size 0 e - s.size) (.int .u8 0) := by
      simp [bytesRow, ints]
    rw [e1, List.getElem?_append_left (by simpa using hlt), List.getElem?_map, hj]; rfl
  refine ⟨by simp, fun k hk => ?_⟩
  show (w.heap.push _)[k]? = _
  rw [Array.getElem?_push]
  simp [Nat.ne_of_lt hk]
end
section
variable {P : Program} {E : Env} {H H0 : Heap} {o : Oper} {v : Value} {B : Nat} {e : TypeId}
/-- append of a string to a row of bytes of the call's own -/
theorem M.appendStr {T T2 : TypeId} {sx x : Operand} {s : ByteArray} {l : List Int} (ho : o.op = .call { callee := .builtin .append, args := #[sx, x], argTypes := #[T, T2] }) (ht : P.underlying T = some (.slice e)) (ht2 : P.underlying T2 = some .string) (hi : (P.info? e).map (fun i => (i.zero, i.size, i.bytes)) = some (some (.int .u8 0), 1, 1))
    (hs : ev E sx = some v) (hx : ev E x = some (.string s)) (hown : Own 1 (EInt .u8) e H0 B H v l) (hB : B ≤ H.size) (hsz : l.length + s.size ≤ 140737488355328) :
    RunM P E H o (fun v' H' => Own 1 (EInt .u8) e H0 B H' v' (l ++ ints s) ∧ Grown v H H') := by
  intro ρ w ha hw
  obtain ⟨i, hi', hz0, hz1, hz2⟩ : ∃ i, P.info? e = some i ∧ i.zero = some (.int .u8 0) ∧ i.size = 1 ∧ i.bytes = 1 := by
    cases hq : P.info? e with
    | none => simp [hq] at hi
    | some i => simp [hq] at hi; exact ⟨i, rfl, hi⟩
  obtain ⟨flat, hrow, hel⟩ := hown
  obtain ⟨v', w', hr, h2, h3, _⟩ := Lib.run_append_own_string (P := P) w B T T2 o.type e i ht ht2 hi' hz0 hz1 hz2 v l.length flat (by rw [ownH_w, hw]; exact hrow) s (by unfold maxLen; omega) hsz (by rw [hw]; exact hB)
  have hcell : Lib.strCells s = (ints s).map (Value.int .u8) := by simp [Lib.strCells, ints]
  refine ⟨v', w', ?_, ⟨rfl, h3.os, h3.tape, h3.output⟩, ⟨flat ++ Lib.strCells s, by rw [List.length_append, ints_length]; simpa [ownH_w] using h2, ?_⟩, by rw [← hw]; exact h3.size, fun k hk hne => ?_⟩
  · simp [execOp, ho, resolve, invoke, builtin, ha sx _ hs, ha x _ hx, Sem.run_bind, Sem.run_pure, Result.andThen]
    simp [hr]
  · intro j x hj
    have hlen' := hrow.1
    rw [nth_eq] at hj
    by_cases hjl : j < l.length
    · rw [List.getElem?_append_left hjl] at hj
      rw [List.drop_append_of_le_length (by omega), List.take_append_of_le_length (by simp; omega)]
      exact hel j x (by rw [nth_eq]; exact hj)
    rw [List.getElem?_append_right (by omega)] at hj
    rw [List.drop_append, List.drop_of_length_le (by omega), List.nil_append, hcell]
    have hlt := (List.getElem?_eq_some_iff.1 hj).1
    rw [show j * 1 - flat.length = j - l.length by omega]
    rw [← List.map_drop, List.drop_eq_getElem_cons hlt]
    refine ⟨?_, ints_range x (List.mem_of_getElem? hj)⟩
    have : (ints s)[j - l.length] = x := (List.getElem?_eq_some_iff.1 hj).2
    simp [this]
  rw [← hw] at hk ⊢
  refine h3.block k hk (fun hkv => ?_)
  have hkk : v = .slice none 0 0 ∨ vblock v = k := by
    rcases hrow.2 with ⟨rfl, _⟩ | ⟨g, cp, cr, rfl, _⟩
    · exact .inl rfl
    right; simp [Value.ownBlock] at hkv; simp [vblock, vbase, hkv]
  rcases hne with rfl | hne
  · simp [Value.ownBlock] at hkv
  rcases hkk with rfl | hkk
  · simp [Value.ownBlock] at hkv
  exact hne hkk.symm
end
/-! ### v[lo:hi:max] -/
def sub3 (sz : Nat) (v : Value) (lo hi mx : Nat) : Value := match v with
  | .slice a _ _ => .slice (if mx = lo then a else a.map (·.add (lo * sz))) (hi - lo) (mx - lo)
  | v => v
section
variable {P : Program} {E : Env} {H Hx : Heap} {o : Oper} {v : Value} {α : Type} {m : Nat} {F : El α} {l : List α}
theorem Sl.sub3 {lo hi : Nat} (hs : Sl m F H v l) (h1 : lo ≤ hi) (h2 : hi ≤ l.length) : Sl m F H (sub3 m v lo hi hi) ((l.take hi).drop lo) := by
  obtain ⟨a, cap, rfl, k1, k2, k3, k4, k5⟩ := hs
  have hl : ((l.take hi).drop lo).length = hi - lo := by simp; omega
  refine ⟨_, _, by rw [hl]; rfl, by rw [hl]; omega, by omega, ?_, ?_, ?_⟩
  · intro h
    split at h
    · omega
    have := k3 (by simpa using h); omega
  · intro h0 p hp
    rw [hl] at h0
    have hl0 : 0 < l.length := by omega
    split at hp
    · exact k4 hl0 p hp
    cases a with
    | none => simp at hp
    | some q =>
      simp at hp
      rw [← hp]
      unfold Addr.add
      split
      · exact k4 hl0 q rfl
      rfl
  intro j x hj
  rw [nth_eq, List.getElem?_drop] at hj
  rw [List.getElem?_take] at hj
  split at hj
  · next hlt =>
    have hj' : nth l (lo + j) = some x := by rw [nth_eq]; exact hj
    obtain ⟨cs, hc1, hc2, hc3⟩ := k5 _ _ hj'
    refine ⟨cs, hc1, ?_, hc3⟩
    cases a with
    | none => have := k3 rfl; omega
    | some q =>
      simp only [Go.Proofs.YtldmfchamcpmmaaGreatDoor.sub3]
      rw [if_neg (by omega)]
      simp only [Option.map_some, vbase]
      have e : (lo + j) * m = lo * m + j * m := Nat.add_mul _ _ _
      simp only [vbase] at hc2
      rw [e, ← add_add q (k4 (by omega) q rfl)] at hc2
      exact hc2
  cases hj
theorem R.slice3 {T e : TypeId} {x y z : Operand} {lo : Option Operand} {i j : Nat} {k k' : IntKind} {zj zk : Int} (ho : o.op = .slice T x lo (some y) (some z)) (ht : P.underlying T = some (.slice e)) (hz : (P.info? e).map (·.size) = some m)
    (hx : ev E x = some v) (hs : Sl m F Hx v l) (hlo : bnd E lo 0 i) (hy : ev E y = some (.int k zj)) (hz' : ev E z = some (.int k' zk)) (ej : zj = (j : Int)) (ek : zk = (j : Int)) (h1 : i ≤ j) (h2 : j ≤ l.length) : Run P E H o (sub3 m v i j j) := by
  obtain ⟨a, cap, rfl, k1, _⟩ := hs
  subst ej; subst ek
  intro ρ w ha hw
  cases hq : P.info? e with
  | none => simp [hq] at hz
  | some inf =>
    simp [hq] at hz
    have key : ∀ (lo' : Option Value), (lo' = none ∧ i = 0 ∨ ∃ k, lo' = some (.int k (i : Int))) →
        (Instr.sliceAt T (.slice a l.length cap) lo' (some (.int k (j : Int))) (some (.int k' (j : Int)))).run P w = .ok (sub3 m (.slice a l.length cap) i j j) w := by
      intro lo' hl
      rcases hl with ⟨rfl, rfl⟩ | ⟨k, rfl⟩ <;>
        simp [Instr.sliceAt, Instr.slice, Instr.sliceBounds, Instr.sliceBound, asIntOf, underlying, program, ht, sizeOf, typeInfo, hq, hz, Go.Proofs.YtldmfchamcpmmaaGreatDoor.sub3, Sem.run_bind, Sem.run_pure, Result.andThen, Sem.run] <;>
        (try simp [show j ≤ cap by omega, h1])
    have hl : (lo.map ρ = none ∧ i = 0 ∨ ∃ k, lo.map ρ = some (.int k (i : Int))) := by
      cases lo with
      | none => exact .inl ⟨rfl, hlo⟩
      | some y => obtain ⟨k, z, hy, rfl⟩ := hlo; exact .inr ⟨k, by simp [ha y _ hy]⟩
    have := key _ hl
    simp [execOp, ho, ha x _ hx, ha y _ hy, ha z _ hz', this, Sem.run_bind, Sem.run_pure, Result.andThen]
end
end Go.Proofs.YtldmfchamcpmmaaGreatDoor
namespace Go.Proofs.YtldmfchamcpmmaaGreatDoor
open Go Go.RowKit
namespace Utf
/-- the library's tables -/
def ft (c : Int) : Nat := Lib.firstT c.toNat
def sz (c : Int) : Nat := if c < 128 then 1 else if ft c % 8 = 1 then 0 else ft c % 8
def lo (c : Int) : Int := (Lib.accLo (ft c / 16) : Nat)
def hi (c : Int) : Int := (Lib.accHi (ft c / 16) : Nat)
/-- of how many bytes is the character with which l begins; 0: it begins with none -/
def chr (l : List Int) : Nat :=
  if sz (l.getD 0 default) ≤ 1 then sz (l.getD 0 default)
  else if l.length < sz (l.getD 0 default) ∨ l.getD 1 default < lo (l.getD 0 default) ∨ hi (l.getD 0 default) < l.getD 1 default ∨ (3 ≤ sz (l.getD 0 default) ∧ (l.getD 2 default < 128 ∨ 191 < l.getD 2 default)) ∨ (4 ≤ sz (l.getD 0 default) ∧ (l.getD 3 default < 128 ∨ 191 < l.getD 3 default)) then 0
  else sz (l.getD 0 default)
theorem chr_le {l : List Int} (h : 0 < l.length) : chr l ≤ l.length := by
  unfold chr; split
  · omega
  split
  · omega
  omega
def vf : Nat → List Int → Bool
  | 0, _ => true
  | n + 1, l => if l.length = 0 then true else if chr l = 0 then false else vf n (l.drop (chr l))
/-- are bytes a text? -/
def valid (l : List Int) : Bool := vf l.length l
theorem vf_eq : ∀ (n m : Nat) (l : List Int), l.length ≤ n → l.length ≤ m → vf n l = vf m l := by
  intro n
  induction n with
  | zero =>
    intro m l h1 h2
    have e : l.length = 0 := by omega
    cases m with
    | zero => rfl
    | succ m => simp only [vf]; rw [if_pos e]
  | succ n ih =>
    intro m l h1 h2
    cases m with
    | zero => have e : l.length = 0 := by omega
              simp only [vf]; rw [if_pos e]
    | succ m =>
      simp only [vf]
      split
      · rfl
      split
      · rfl
      have := chr_le (l := l) (by omega)
      exact ih m _ (by rw [List.length_drop]; omega) (by rw [List.length_drop]; omega)
theorem valid_nil {l : List Int} (h : l.length = 0) : valid l = true := by unfold valid; rw [h]; rfl
theorem valid_bad {l : List Int} (h : 0 < l.length) (hc : chr l = 0) : valid l = false := by
  obtain ⟨n, hn⟩ : ∃ n, l.length = n + 1 := ⟨l.length - 1, by omega⟩
  unfold valid; rw [hn]; simp only [vf]; rw [if_neg (by omega), if_pos hc]
theorem valid_ok {l : List Int} {k : Nat} (h : 0 < l.length) (hc : chr l = k) (hk : 0 < k) : valid (l.drop k) = valid l := by
  obtain ⟨n, hn⟩ : ∃ n, l.length = n + 1 := ⟨l.length - 1, by omega⟩
  have e : valid l = vf n (l.drop (chr l)) := by
    unfold valid; rw [hn]; simp only [vf]; rw [if_neg (by omega), if_neg (by omega)]
  have hle := chr_le h
  rw [e, ← hc]
  unfold valid
  exact vf_eq _ _ _ (by omega) (by rw [List.length_drop]; omega)
theorem ok1 {l : List Int} (h : 0 < l.length) (hs : l.getD 0 default < 128) : valid (l.drop 1) = valid l := by
  refine valid_ok h ?_ (by omega)
  have e : sz (l.getD 0 default) = 1 := by unfold sz; rw [if_pos hs]
  unfold chr; rw [e]; rfl
theorem getD_drop (l : List Int) (i j : Nat) : (l.drop i).getD j default = l.getD (i + j) default := by
  rw [List.getD_eq_getElem?_getD, List.getElem?_drop, ← List.getD_eq_getElem?_getD]
theorem okAsc {l : List Int} : ∀ {k : Nat}, k ≤ l.length → (∀ j, j < k → l.getD j default < 128) → valid (l.drop k) = valid l := by
  intro k
  induction k with
  | zero => intro _ _; rfl
  | succ k ih =>
    intro h1 h2
    rw [← ih (by omega) (fun j hj => h2 j (by omega)), show l.drop (k + 1) = (l.drop k).drop 1 by rw [List.drop_drop]]
    exact ok1 (by rw [List.length_drop]; omega) (by rw [getD_drop]; exact h2 k (by omega))
section
variable {l : List Int} (h : 0 < l.length) (hc : ¬ l.getD 0 default < 128)
include h hc
omit h in
theorem sz_of {k : Nat} (hk : 2 ≤ k) (hs : ft (l.getD 0 default) % 8 = k) : sz (l.getD 0 default) = k := by
  unfold sz; rw [if_neg hc, hs, if_neg (by omega)]
theorem bad1 (hs : ft (l.getD 0 default) % 8 = 1) : valid l = false := by
  refine valid_bad h ?_
  have e : sz (l.getD 0 default) = 0 := by unfold sz; rw [if_neg hc, if_pos hs]
  unfold chr; rw [e]; rfl
theorem bad2 (hs : ft (l.getD 0 default) % 8 = 2) (hb : l.length < 2 ∨ l.getD 1 default < lo (l.getD 0 default) ∨ hi (l.getD 0 default) < l.getD 1 default) : valid l = false := by
  refine valid_bad h ?_
  unfold chr; rw [sz_of hc (by omega) hs, if_neg (by omega), if_pos (by omega)]
theorem good2 (hs : ft (l.getD 0 default) % 8 = 2) (hb : ¬ (l.length < 2 ∨ l.getD 1 default < lo (l.getD 0 default) ∨ hi (l.getD 0 default) < l.getD 1 default)) : valid (l.drop 2) = valid l := by
  refine valid_ok h ?_ (by omega)
  unfold chr; rw [sz_of hc (by omega) hs, if_neg (by omega), if_neg (by omega)]
theorem bad3 (hs : ft (l.getD 0 default) % 8 = 3) (hb : l.length < 3 ∨ l.getD 1 default < lo (l.getD 0 default) ∨ hi (l.getD 0 default) < l.getD 1 default ∨ l.getD 2 default < 128 ∨ 191 < l.getD 2 default) : valid l = false := by
  refine valid_bad h ?_
  unfold chr; rw [sz_of hc (by omega) hs, if_neg (by omega), if_pos (by omega)]
theorem good3 (hs : ft (l.getD 0 default) % 8 = 3) (hb : ¬ (l.length < 3 ∨ l.getD 1 default < lo (l.getD 0 default) ∨ hi (l.getD 0 default) < l.getD 1 default ∨ l.getD 2 default < 128 ∨ 191 < l.getD 2 default)) : valid (l.drop 3) = valid l := by
  refine valid_ok h ?_ (by omega)
  unfold chr; rw [sz_of hc (by omega) hs, if_neg (by omega), if_neg (by omega)]
theorem bad4 (hs : ft (l.getD 0 default) % 8 = 4) (hb : l.length < 4 ∨ l.getD 1 default < lo (l.getD 0 default) ∨ hi (l.getD 0 default) < l.getD 1 default ∨ l.getD 2 default < 128 ∨ 191 < l.getD 2 default ∨ l.getD 3 default < 128 ∨ 191 < l.getD 3 default) : valid l = false := by
  refine valid_bad h ?_
  unfold chr; rw [sz_of hc (by omega) hs, if_neg (by omega), if_pos (by omega)]
theorem good4 (hs : ft (l.getD 0 default) % 8 = 4) (hb : ¬ (l.length < 4 ∨ l.getD 1 default < lo (l.getD 0 default) ∨ hi (l.getD 0 default) < l.getD 1 default ∨ l.getD 2 default < 128 ∨ 191 < l.getD 2 default ∨ l.getD 3 default < 128 ∨ 191 < l.getD 3 default)) : valid (l.drop 4) = valid l := by
  refine valid_ok h ?_ (by omega)
  unfold chr; rw [sz_of hc (by omega) hs, if_neg (by omega), if_neg (by omega)]
end
theorem ft_cases : ∀ c : Fin 256, 128 ≤ c.1 → (Lib.firstT c.1 % 8 = 1 ∨ Lib.firstT c.1 % 8 = 2 ∨ Lib.firstT c.1 % 8 = 3 ∨ Lib.firstT c.1 % 8 = 4) ∧ Lib.firstT c.1 / 16 < 16 := by decide +kernel
theorem ft_lt : ∀ c : Fin 256, Lib.firstT c.1 < 256 := by decide +kernel
theorem and7 : ∀ c : Fin 256, bits .and .u8 (c.1 : Int) 7 = ((c.1 % 8 : Nat) : Int) := by decide +kernel
theorem ftc {c : Int} (r : InR .u8 c) : ft c < 256 ∧ bits .and .u8 (ft c : Int) 7 = ((ft c % 8 : Nat) : Int) := by
  dsimp only [InR] at r
  have h := ft_lt ⟨c.toNat, by omega⟩
  exact ⟨h, and7 ⟨_, h⟩⟩
theorem ftk {c : Int} (r : InR .u8 c) (h : ¬ c < 128) : (ft c % 8 = 1 ∨ ft c % 8 = 2 ∨ ft c % 8 = 3 ∨ ft c % 8 = 4) ∧ ft c / 16 < 16 := by
  dsimp only [InR] at r
  exact ft_cases ⟨c.toNat, by omega⟩ (by show 128 ≤ c.toNat; omega)
theorem shr4 (n : Nat) : ((n : Int) / 2 ^ (min (4 : Int).toNat IntKind.u8.bits)) = ((n / 16 : Nat) : Int) := by
  rw [show (2 : Int) ^ (min (4 : Int).toNat IntKind.u8.bits) = 16 by decide +kernel]; omega
def wd8 (l : List Int) : Int := Lib.leZ ((List.range 8).map fun i => l.getD i default)
theorem wd8_eq (l : List Int) : wd8 l = l.getD 0 default + 256 * (l.getD 1 default + 256 * (l.getD 2 default + 256 * (l.getD 3 default + 256 * (l.getD 4 default + 256 * (l.getD 5 default + 256 * (l.getD 6 default + 256 * l.getD 7 default)))))) := by
  show Lib.leZ [_, _, _, _, _, _, _, _] = _
  simp only [Lib.leZ]; omega
theorem hi8 {l : List Int} (hr : ∀ i, i < 8 → InR .u8 (l.getD i default)) : ∃ n : Nat, wd8 l = (n : Int) ∧ n < 2 ^ 64 ∧ (n &&& 9259542123273814144 = 0 → ∀ i, i < 8 → l.getD i default < 128) := by
  have hm : ∀ z ∈ (List.range 8).map (fun i => l.getD i default), 0 ≤ z ∧ z ≤ 255 := by
    intro z hz
    simp only [List.mem_map, List.mem_range] at hz
    obtain ⟨i, hi, rfl⟩ := hz
    exact hr i hi
  refine ⟨_, (Lib.leNat_byteOf _ hm).symm, ?_, ?_⟩
  · have := Lib.leNat_lt (((List.range 8).map fun i => l.getD i default).map Lib.byteOf)
    simpa using this
  intro h i hi
  have h2 := (Lib.leNat_mask (((List.range 8).map fun i => l.getD i default).map Lib.byteOf)).1 (by
    rw [show (((List.range 8).map fun i => l.getD i default).map Lib.byteOf).length = 8 by simp, Lib.maskN8]; exact h)
  have h3 := h2 (Lib.byteOf (l.getD i default)) (by simp only [List.mem_map, List.mem_range]; exact ⟨_, ⟨i, hi, rfl⟩, rfl⟩)
  have h4 := Lib.byteOf_toNat (hr i hi)
  omega
theorem word_or {b0 b1 b2 b3 b4 b5 b6 b7 : Int} (h0 : InR .u8 b0) (h1 : InR .u8 b1) (h2 : InR .u8 b2) (h3 : InR .u8 b3) (h4 : InR .u8 b4) (h5 : InR .u8 b5) (h6 : InR .u8 b6) (h7 : InR .u8 b7) :
    bits .or .u64 (bits .or .u64 (bits .or .u64 (bits .or .u64 (bits .or .u64 (bits .or .u64 (bits .or .u64 b0 (IntKind.u64.wrap (b1 * 2 ^ (min (8 : Int).toNat IntKind.u64.bits)))) (IntKind.u64.wrap (b2 * 2 ^ (min (16 : Int).toNat IntKind.u64.bits))))
      (IntKind.u64.wrap (b3 * 2 ^ (min (24 : Int).toNat IntKind.u64.bits)))) (IntKind.u64.wrap (b4 * 2 ^ (min (32 : Int).toNat IntKind.u64.bits)))) (IntKind.u64.wrap (b5 * 2 ^ (min (40 : Int).toNat IntKind.u64.bits)))) (IntKind.u64.wrap (b6 * 2 ^ (min (48 : Int).toNat IntKind.u64.bits))))
      (IntKind.u64.wrap (b7 * 2 ^ (min (56 : Int).toNat IntKind.u64.bits))) = b0 + 256 * (b1 + 256 * (b2 + 256 * (b3 + 256 * (b4 + 256 * (b5 + 256 * (b6 + 256 * b7)))))) := by
  dsimp only [InR] at h0 h1 h2 h3 h4 h5 h6 h7
  rw [show (2 : Int) ^ (min (8 : Int).toNat IntKind.u64.bits) = 256 by decide +kernel, show (2 : Int) ^ (min (16 : Int).toNat IntKind.u64.bits) = 65536 by decide +kernel, show (2 : Int) ^ (min (24 : Int).toNat IntKind.u64.bits) = 16777216 by decide +kernel,
    show (2 : Int) ^ (min (32 : Int).toNat IntKind.u64.bits) = 4294967296 by decide +kernel, show (2 : Int) ^ (min (40 : Int).toNat IntKind.u64.bits) = 1099511627776 by decide +kernel, show (2 : Int) ^ (min (48 : Int).toNat IntKind.u64.bits) = 281474976710656 by decide +kernel, show (2 : Int) ^ (min (56 : Int).toNat IntKind.u64.bits) = 72057594037927936 by decide +kernel]
  rw [u64_wrap_id (x := b1 * 256) (by omega) (by omega), u64_wrap_id (x := b2 * 65536) (by omega) (by omega), u64_wrap_id (x := b3 * 16777216) (by omega) (by omega), u64_wrap_id (x := b4 * 4294967296) (by omega) (by omega),
    u64_wrap_id (x := b5 * 1099511627776) (by omega) (by omega), u64_wrap_id (x := b6 * 281474976710656) (by omega) (by omega), u64_wrap_id (x := b7 * 72057594037927936) (by omega) (by omega)]
  rw [u64_or8 (y := b0) (x := b1 * 256) (by omega) (by omega) (by omega) (by omega) (by omega)]
  rw [u64_or16 (y := b0 + b1 * 256) (x := b2 * 65536) (by omega) (by omega) (by omega) (by omega) (by omega)]
  rw [u64_or24 (y := b0 + b1 * 256 + b2 * 65536) (x := b3 * 16777216) (by omega) (by omega) (by omega) (by omega) (by omega)]
  rw [u64_or32 (y := b0 + b1 * 256 + b2 * 65536 + b3 * 16777216) (x := b4 * 4294967296) (by omega) (by omega) (by omega) (by omega) (by omega)]
  rw [u64_or40 (y := b0 + b1 * 256 + b2 * 65536 + b3 * 16777216 + b4 * 4294967296) (x := b5 * 1099511627776) (by omega) (by omega) (by omega) (by omega) (by omega)]
  rw [u64_or48 (y := b0 + b1 * 256 + b2 * 65536 + b3 * 16777216 + b4 * 4294967296 + b5 * 1099511627776) (x := b6 * 281474976710656) (by omega) (by omega) (by omega) (by omega) (by omega)]
  rw [u64_or56 (y := b0 + b1 * 256 + b2 * 65536 + b3 * 16777216 + b4 * 4294967296 + b5 * 1099511627776 + b6 * 281474976710656) (x := b7 * 72057594037927936) (by omega) (by omega) (by omega) (by omega) (by omega)]
  omega
theorem and64 {a b : Nat} (ha : a < 2 ^ 64) (hb : b < 2 ^ 64) : bits .and .u64 (a : Int) (b : Int) = ((a &&& b : Nat) : Int) := by
  unfold bits
  have e : (BitVec.ofInt IntKind.u64.bits (a : Int) &&& BitVec.ofInt IntKind.u64.bits (b : Int)).toNat = a &&& b := by
    rw [BitVec.toNat_and, BitVec.ofInt_natCast, BitVec.ofInt_natCast, BitVec.toNat_ofNat, BitVec.toNat_ofNat]
    rw [Nat.mod_eq_of_lt (show a < 2 ^ IntKind.u64.bits from ha), Nat.mod_eq_of_lt (show b < 2 ^ IntKind.u64.bits from hb)]
  simp only []
  have hlt : a &&& b < 2 ^ 64 := Nat.lt_of_le_of_lt Nat.and_le_left ha
  rw [show (BitVec.ofInt IntKind.u64.bits (a : Int) &&& BitVec.ofInt IntKind.u64.bits (b : Int)).toNat = a &&& b from e]
  rw [IntKind.wrap_u64]
  have : (2 : Nat) ^ 64 = 18446744073709551616 := by decide
  omega
theorem or64 {a b : Nat} (ha : a < 2 ^ 64) (hb : b < 2 ^ 64) : bits .or .u64 (a : Int) (b : Int) = ((a ||| b : Nat) : Int) ∧ a ||| b < 2 ^ 64 := by
  have hlt : a ||| b < 2 ^ 64 := Nat.or_lt_two_pow ha hb
  refine ⟨?_, hlt⟩
  unfold bits
  have e : (BitVec.ofInt IntKind.u64.bits (a : Int) ||| BitVec.ofInt IntKind.u64.bits (b : Int)).toNat = a ||| b := by
    rw [BitVec.toNat_or, BitVec.ofInt_natCast, BitVec.ofInt_natCast, BitVec.toNat_ofNat, BitVec.toNat_ofNat]
    rw [Nat.mod_eq_of_lt (show a < 2 ^ IntKind.u64.bits from ha), Nat.mod_eq_of_lt (show b < 2 ^ IntKind.u64.bits from hb)]
  simp only []
  rw [show (BitVec.ofInt IntKind.u64.bits (a : Int) ||| BitVec.ofInt IntKind.u64.bits (b : Int)).toNat = a ||| b from e]
  rw [IntKind.wrap_u64]
  have : (2 : Nat) ^ 64 = 18446744073709551616 := by decide
  omega
theorem mk64 : (9259542123273814144 : Nat) < 2 ^ 64 := by decide
theorem asc1 {l : List Int} (hr : ∀ i, i < 8 → InR .u8 (l.getD i default)) (h : bits .and .u64 (wd8 l) 9259542123273814144 = 0) : ∀ i, i < 8 → l.getD i default < 128 := by
  obtain ⟨n, e, hn, k⟩ := hi8 hr
  rw [e, show (9259542123273814144 : Int) = ((9259542123273814144 : Nat) : Int) from rfl, and64 hn mk64] at h
  exact k (by omega)
theorem asc2 {l m : List Int} (hl : ∀ i, i < 8 → InR .u8 (l.getD i default)) (hm : ∀ i, i < 8 → InR .u8 (m.getD i default)) (h : bits .and .u64 (bits .or .u64 (wd8 l) (wd8 m)) 9259542123273814144 = 0) :
    (∀ i, i < 8 → l.getD i default < 128) ∧ (∀ i, i < 8 → m.getD i default < 128) := by
  obtain ⟨n, e, hn, k⟩ := hi8 hl
  obtain ⟨n', e', hn', k'⟩ := hi8 hm
  obtain ⟨o1, o2⟩ := or64 hn hn'
  rw [e, e', o1, show (9259542123273814144 : Int) = ((9259542123273814144 : Nat) : Int) from rfl, and64 o2 mk64] at h
  have h2 := (Lib.or_mask n n' 9259542123273814144).1 (by omega)
  exact ⟨k h2.1, k' h2.2⟩
theorem asc4 {l m p q : List Int} (hl : ∀ i, i < 8 → InR .u8 (l.getD i default)) (hm : ∀ i, i < 8 → InR .u8 (m.getD i default)) (hp : ∀ i, i < 8 → InR .u8 (p.getD i default)) (hq : ∀ i, i < 8 → InR .u8 (q.getD i default))
    (h : bits .and .u64 (bits .or .u64 (bits .or .u64 (wd8 l) (wd8 m)) (bits .or .u64 (wd8 p) (wd8 q))) 9259542123273814144 = 0) :
    ((∀ i, i < 8 → l.getD i default < 128) ∧ (∀ i, i < 8 → m.getD i default < 128)) ∧ ((∀ i, i < 8 → p.getD i default < 128) ∧ (∀ i, i < 8 → q.getD i default < 128)) := by
  obtain ⟨n1, e1, g1, k1⟩ := hi8 hl
  obtain ⟨n2, e2, g2, k2⟩ := hi8 hm
  obtain ⟨n3, e3, g3, k3⟩ := hi8 hp
  obtain ⟨n4, e4, g4, k4⟩ := hi8 hq
  obtain ⟨a1, a2⟩ := or64 g1 g2
  obtain ⟨b1, b2⟩ := or64 g3 g4
  obtain ⟨c1, c2⟩ := or64 a2 b2
  rw [e1, e2, e3, e4, a1, b1, c1, show (9259542123273814144 : Int) = ((9259542123273814144 : Nat) : Int) from rfl, and64 c2 mk64] at h
  have h2 := (Lib.or_mask _ _ _).1 (show ((n1 ||| n2) ||| (n3 ||| n4)) &&& 9259542123273814144 = 0 by omega)
  have h3 := (Lib.or_mask _ _ _).1 h2.1
  have h4 := (Lib.or_mask _ _ _).1 h2.2
  exact ⟨⟨k1 h3.1, k2 h3.2⟩, ⟨k3 h4.1, k4 h4.2⟩⟩
end Utf
theorem Sl.tail {α : Type} {m : Nat} {F : El α} {H : Heap} {v : Value} {l : List α} {lo : Nat} (hs : Sl m F H v l) (h : lo ≤ l.length) : Sl m F H (subV m v lo l.length) (l.drop lo) := by
  have := hs.sub (lo := lo) (hi := l.length) h (Nat.le_refl _)
  rwa [List.take_length] at this
theorem Sl.r8 {H : Heap} {v : Value} {l : List Int} (hs : Sl 1 (EInt .u8) H v l) (h : 8 ≤ l.length) : ∀ i, i < 8 → InR .u8 (l.getD i default) := fun i hi => (hs.int i (by omega)).2
end Go.Proofs.YtldmfchamcpmmaaGreatDoor
namespace Go.Proofs.YtldmfchamcpmmaaGreatDoor
open Go Go.RowKit Go.ChangeShapes Go.WideShapes Go.Deep
section
variable {P : Program} {E : Env} {H H' : Heap} {o : Oper} {v v' : Value} {e : TypeId} {H0 : Heap} {B : Nat} {α : Type} {F : El α} {l : List α} {n : Nat}
theorem nx_of {B e n m k : Nat} {xs ys : List Value} (h : OwnH B e n H v m xs) (h' : OwnH B e n H' v' k ys) (hb : v'.ownBlock = v.ownBlock ∨ v'.ownBlock = some H.size) : Nx H v v' := by
  rcases h'.2 with ⟨rfl, _⟩ | ⟨g, cp, cr, rfl, _⟩
  · exact .inl rfl
  have e1 : Value.ownBlock (.slice (some ⟨g, 0, none⟩) k cp) = some g := by simp [Value.ownBlock]
  rw [e1] at hb
  rcases hb with hb | hb
  · rcases h.2 with ⟨rfl, _⟩ | ⟨g2, cp2, cr2, rfl, _⟩
    · simp [Value.ownBlock] at hb
    simp [Value.ownBlock] at hb
    exact .inr (.inl ⟨by simp, by simp [vblock, vbase, hb]⟩)
  injection hb with hb
  exact .inr (.inr (by simp [vblock, vbase, hb]))
theorem M.appendN [Inhabited α] [k1 : One F] {T : TypeId} {s x : Operand} {u : Value} {m : List α} {z : Value} {by' : Nat} (ho : o.op = .call { callee := .builtin .append, args := #[s, x], argTypes := #[T, T] }) (ht : P.underlying T = some (.slice e)) (hi : (P.info? e).map (fun i => (i.zero, i.size, i.bytes)) = some (some z, n, by')) (hz : z.cells.size = n) (hn : 0 < n)
    (hs : ev E s = some v) (hx : ev E x = some u) (hown : Own n F e H0 B H v l) (hm : Sl n F H u m) (hE : ∀ cs y, F H cs y → y ∈ m → F H0 cs y) (hB : B ≤ H.size) (hsz : (l.length + m.length) * by' ≤ 140737488355328) (hlen : l.length + m.length ≤ maxLen) :
    RunM P E H o (fun v' H' => Own n F e H0 B H' v' (l ++ m) ∧ Grown v H H' ∧ Nx H v v') := by
  intro ρ w ha hw
  obtain ⟨i, hi', hz0, hz1, hz2⟩ : ∃ i, P.info? e = some i ∧ i.zero = some z ∧ i.size = n ∧ i.bytes = by' := by
    cases hq : P.info? e with
    | none => simp [hq] at hi
    | some i => simp [hq] at hi; exact ⟨i, rfl, hi⟩
  by_cases hl : m.length = 0
  · have h2 : m = [] := List.eq_nil_of_length_eq_zero hl
    subst h2
    obtain ⟨a, cap, hu, hc1, hc2, hc3, hc4, _⟩ := hm
    subst hu
    simp only [List.append_nil]
    obtain ⟨flat, hrow, hel⟩ := hown
    cases a with
    | none =>
      have hc0 := hc3 rfl
      subst hc0
      have hrun := run_append_owned_none (P := P) (w := w) B T o.type e i n ht hi' v l.length flat (by rw [ownH_w, hw]; exact hrow)
      refine ⟨v, w, ?_, St.refl w, by rw [hw]; exact ⟨flat, hrow, hel⟩, by rw [hw]; exact ⟨Nat.le_refl _, fun _ _ _ => rfl⟩, nx_of hrow hrow (.inl rfl)⟩
      simp [execOp, ho, resolve, invoke, builtin, ha s _ hs, ha x _ hx, hrun, Sem.run_bind, Sem.run_pure, Result.andThen]
    | some ad =>
      obtain ⟨v', w', hr, h2, h3, h4, h5⟩ := run_append_own_at (P := P) w B T o.type e i z n by' ht hi' hz0 hz1 hz2 hz hn v l.length flat (by rw [ownH_w, hw]; exact hrow) ad 0 cap [] (by simp) (by simp) (by simp) (by simpa using hlen) (by simpa using hsz) (by rw [hw]; exact hB)
      refine ⟨v', w', ?_, ⟨rfl, h3.os, h3.tape, h3.output⟩, ⟨flat, by simpa [ownH_w] using h2, hel⟩, ⟨by rw [← hw]; exact h3.size, fun k hk hne => ?_⟩, nx_of hrow (by simpa [ownH_w] using h2) (by rw [← hw]; exact h5)⟩
      · simp [execOp, ho, resolve, invoke, builtin, ha s _ hs, ha x _ hx, Sem.run_bind, Sem.run_pure, Result.andThen]
        simp [hr]
      rw [← hw] at hk ⊢
      refine h3.block k hk (fun hkv => ?_)
      have hkk : v = .slice none 0 0 ∨ vblock v = k := by
        rcases hrow.2 with ⟨rfl, _⟩ | ⟨g, cp, cr, rfl, _⟩
        · exact .inl rfl
        right; simp [Value.ownBlock] at hkv; simp [vblock, vbase, hkv]
      rcases hne with rfl | hne
      · simp [Value.ownBlock] at hkv
      rcases hkk with rfl | hkk
      · simp [Value.ownBlock] at hkv
      exact hne hkk.symm
  obtain ⟨ad, cap, hu, hsp, hb⟩ := hm.addr (by omega)
  obtain ⟨fm, hfl, hfc, hfe⟩ := hm.flat (by omega)
  obtain ⟨flat, hrow, hel⟩ := hown
  rw [hb] at hfc
  have h1 : ∀ q ∈ fm, q.oneCell' = true := by
    intro q hq
    obtain ⟨k, hk1, hk2⟩ := List.getElem_of_mem hq
    have hd : k / n < m.length := (Nat.div_lt_iff_lt_mul hn).2 (by omega)
    refine k1.one (hfe (k / n) _ (nth_getD hd)) q ?_
    rw [List.mem_iff_getElem?]
    refine ⟨k % n, ?_⟩
    rw [List.getElem?_take, if_pos (Nat.mod_lt _ hn), List.getElem?_drop, Nat.mul_comm, Nat.div_add_mod, List.getElem?_eq_getElem hk1, hk2]
  obtain ⟨v', w', hr, h2, h3, h4, h5⟩ := run_append_own_at (P := P) w B T o.type e i z n by' ht hi' hz0 hz1 hz2 hz hn v l.length flat (by rw [ownH_w, hw]; exact hrow) ad m.length cap fm hfl (fun j q hj => by rw [cell_w hw]; exact hfc j q hj) h1 hlen hsz (by rw [hw]; exact hB)
  refine ⟨v', w', ?_, ⟨rfl, h3.os, h3.tape, h3.output⟩, ⟨flat ++ fm, by simpa [ownH_w] using h2, ?_⟩, ⟨by rw [← hw]; exact h3.size, fun k hk hne => ?_⟩, nx_of hrow (by simpa [ownH_w] using h2) (by rw [← hw]; exact h5)⟩
  · subst hu
    simp [execOp, ho, resolve, invoke, builtin, ha s _ hs, ha x _ hx, Sem.run_bind, Sem.run_pure, Result.andThen]
    simp [hr]
  · intro j x hj
    have hlen' := hrow.1
    rw [nth_eq] at hj
    by_cases hjl : j < l.length
    · rw [List.getElem?_append_left hjl] at hj
      have hle : j * n + n ≤ flat.length := by
        rw [hlen']
        have : (j + 1) * n ≤ l.length * n := Nat.mul_le_mul_right n hjl
        rw [Nat.add_mul, Nat.one_mul] at this; exact this
      rw [List.drop_append_of_le_length (by omega), List.take_append_of_le_length (by simp; omega)]
      exact hel j x (by rw [nth_eq]; exact hj)
    rw [List.getElem?_append_right (by omega)] at hj
    have hge : j * n = flat.length + (j - l.length) * n := by
      rw [hlen', ← Nat.add_mul]; congr 1; omega
    rw [hge, List.drop_append]
    simp only [Nat.le_add_right, List.drop_eq_nil_of_le, List.nil_append, Nat.add_sub_cancel_left]
    exact hE _ _ (hfe _ x (by rw [nth_eq]; exact hj)) (List.mem_of_getElem? hj)
  rw [← hw] at hk ⊢
  refine h3.block k hk (fun hkv => ?_)
  have hkk : v = .slice none 0 0 ∨ vblock v = k := by
    rcases hrow.2 with ⟨rfl, _⟩ | ⟨g, cp, cr, rfl, _⟩
    · exact .inl rfl
    right; simp [Value.ownBlock] at hkv; simp [vblock, vbase, hkv]
  rcases hne with rfl | hne
  · simp [Value.ownBlock] at hkv
  rcases hkk with rfl | hkk
  · simp [Value.ownBlock] at hkv
  exact hne hkk.symm
end
/-! ### what may have been changed -/
theorem Fr.trans {g : Nat} {v v' : Value} {A B C : Heap} (f : Fr g v A B) (nx : Nx A v v') (f2 : Fr g v' B C) : Fr g v A C :=
  ⟨Nat.le_trans f.1 f2.1, fun k hk h1 h2 => (f2.2 k (by have := f.1; omega) h1 (by
    rcases nx with n | ⟨n1, n2⟩ | n
    · exact .inl n
    · rw [n2]; exact .inr (h2.resolve_left n1)
    exact .inr (by omega))).trans (f.2 k hk h1 h2)⟩
theorem Fr.upd {g : Nat} {v : Value} {A B C : Heap} (f : Fr g v A B) (u : Upd g B C) : Fr g v A C := ⟨by rw [u.1]; exact f.1, fun k hk h1 h2 => (u.2 k h1).trans (f.2 k hk h1 h2)⟩
theorem Fr.old {g : Nat} {v : Value} {A B C : Heap} (f : Fr g v A B) (o : Old B C) : Fr g v A C := ⟨Nat.le_trans f.1 o.1, fun k hk h1 h2 => (o.2 k (by have := f.1; omega)).trans (f.2 k hk h1 h2)⟩
theorem Fr.grown {g : Nat} {v v' : Value} {A B C : Heap} (f : Fr g v A B) (nx : Nx A v v') (gr : Grown v' B C) : Fr g v A C :=
  f.trans nx ⟨gr.1, fun k hk _ h2 => gr.2 k hk h2⟩
theorem Fr.updN {g g' : Nat} {v : Value} {A B C : Heap} (f : Fr g v A B) (u : Upd g' B C) (h : A.size ≤ g') : Fr g v A C := ⟨by rw [u.1]; exact f.1, fun k hk h1 h2 => (u.2 k (by omega)).trans (f.2 k hk h1 h2)⟩
theorem Fr.grownN {g : Nat} {v v' : Value} {A B C : Heap} (f : Fr g v A B) (gr : Grown v' B C) (h : v' = .slice none 0 0 ∨ A.size ≤ vblock v') : Fr g v A C :=
  ⟨Nat.le_trans f.1 gr.1, fun k hk h1 h2 => (gr.2 k (by have := f.1; omega) (h.imp id (fun h => by omega))).trans (f.2 k hk h1 h2)⟩
theorem Nx.refl (H : Heap) (v : Value) : Nx H v v := by
  by_cases h : v = .slice none 0 0
  · exact .inl h
  exact .inr (.inl ⟨h, rfl⟩)
theorem Nx.trans {A B : Heap} {v v' v'' : Value} (h : Nx A v v') (hs : A.size ≤ B.size) (k : Nx B v' v'') : Nx A v v'' := by
  rcases k with k | ⟨k1, k2⟩ | k
  · exact .inl k
  · rcases h with h | ⟨h1, h2⟩ | h
    · exact absurd h k1
    · exact .inr (.inl ⟨h1, k2.trans h2⟩)
    exact .inr (.inr (by omega))
  exact .inr (.inr (by omega))
/-! ### rows of integers in a block -/
section
variable {P : Program} {E : Env} {H : Heap} {o : Oper} {v : Value}
theorem add1 (g i j : Nat) : (⟨g, i, none⟩ : Addr).add (j * 1) = ⟨g, i + j, none⟩ := by
  unfold Addr.add
  split
  · next h => have : j = 0 := by omega
              subst this; rfl
  simp
end
/-! ### results in memory -/
section
variable {n : Nat} {P : Program} {E : Env} {H : Heap} {W0 : World}
theorem KQ.finCell {fn : Func} {R : Value → Heap → Prop} {t T : Nat} {cs : List Value} {p : Addr} {ds : TypeDesc} {m : Nat} (hr : fn.results = #[.cell t T]) (ht : get E t = some (.pointer (some p))) (hu : P.underlying T = some ds) (hd : isAggD ds = true) (hs : (P.info? T).map (·.size) = some m) (hc : CellsH H p cs) (hm : cs.length = m) (hR : R (.agg cs.toArray) H) : KQ n W0 (Post P fn W0 R) .normal E H :=
  KQ.fin _ (fun a w ha hw => by
    subst hm
    have h1 := ha.val t _ ht
    have h2 : (isAgg T).run P w = .ok true w := by
      cases ds <;> simp [isAggD] at hd <;> simp [isAgg, underlying, program, hu, Sem.run_bind, Sem.run_pure, Result.andThen, Sem.run]
    have h3 := run_loadCells_list (P := P) (w := w) p cs (fun j u hj => by rw [cell_w hw]; exact hc j u (by rw [nth_eq]; exact hj))
    unfold loadCells at h3
    cases hq : P.info? T with
    | none => simp [hq] at hs
    | some i =>
      simp [hq] at hs
      simp [results, hr, go_sem, Array.getD_eq_getD_getElem?, h1, asAddr, loadVar, Sem.run_bind, Sem.run_pure, Result.andThen, h2, sizeOf, typeInfo, program, Sem.run, hq, hs, h3]) hR
end
end Go.Proofs.YtldmfchamcpmmaaGreatDoor
namespace Go.Proofs.YtldmfchamcpmmaaGreatDoor
open Go Go.RowKit
section
variable {P : Program} {ops : Array Oper} {cl : Nat → Nat} {C : Nat → World → Prop} {D : World → Prop} {X : Nat → List PanicEntry → World → Prop} {Y : List PanicEntry → World → Prop}
def Oper.fixed (P : Program) (o : Oper) (a : Act) (w : World) (v : Value) : Prop := (execOp a.eval o).run P w = .ok (.value v) w
/-- an operation that is not stable: it comes to a value, or to nothing, and to a world of the class -/
def effUpon (P : Program) (C : World → Prop) (Y : List PanicEntry → World → Prop) (o : Oper) (a : Act) (K : Act → World → Prop) : Result Next → Prop
  | .ok (.value v) w' => C w' ∧ K (a.put o.dst v) w'
  | .ok .skip w' => C w' ∧ K (a.put o.dst undef) w'
  | .ok (.enter f args) w' => Calls P f args w' (fun e w'' => (∃ v, e = .returned v ∧ C w'' ∧ K (a.put o.dst v) w'') ∨ ∃ ch, e = .panicked ch ∧ Y ch w'')
  | _ => False
def eff (P : Program) (C : World → Prop) (Y : List PanicEntry → World → Prop) (o : Oper) (a : Act) (w : World) (K : Act → World → Prop) : Prop := effUpon P C Y o a K ((execOp a.eval o).run P w)
theorem eff_mono {o : Oper} {a : Act} {w : World} {K K' : Act → World → Prop} (h : ∀ v w', D w' → K (a.put o.dst v) w' → K' (a.put o.dst v) w') (hh : eff P D Y o a w K) : eff P D Y o a w K' := by
  unfold eff at *
  generalize (execOp a.eval o).run P w = r at *
  cases r with
  | halt x w' => exact hh
  | ok n w' =>
    cases n <;> simp only [effUpon] at hh ⊢
    case value v => exact ⟨hh.1, h _ _ hh.1 hh.2⟩
    case skip => exact ⟨hh.1, h _ _ hh.1 hh.2⟩
    case enter f args => exact hh.mono fun e w'' hq => hq.imp (fun ⟨v, he, hC, hK⟩ => ⟨v, he, hC, h _ _ hC hK⟩) id
/-- it comes to an end -/
theorem eff_some {o : Oper} {a : Act} {w : World} {K : Act → World → Prop} (hY : ∀ ch w, ¬ Y ch w) (hh : eff P D Y o a w K) : ∃ v w', D w' ∧ K (a.put o.dst v) w' := by
  unfold eff at *
  generalize (execOp a.eval o).run P w = r at *
  cases r with
  | halt x w' => exact hh.elim
  | ok n w' =>
    cases n <;> simp only [effUpon] at hh
    case value v => exact ⟨v, w', hh⟩
    case skip => exact ⟨undef, w', hh⟩
    case enter f args =>
      obtain ⟨e, w'', fr, hq, _⟩ := hh []
      rcases hq with ⟨v, _, hC, hK⟩ | ⟨ch, _, hy⟩
      · exact ⟨v, w'', hC, hK⟩
      exact absurd hy (hY _ _)
theorem eff_wp {o : Oper} {a : Act} {w : World} {K K' : Act → World → Prop} {Q : Exit → Act → World → Prop} (h : ∀ v w, D w → K (a.put o.dst v) w → K' (a.put o.dst v) w) (hY : ∀ ch w, Y ch w → Q (.panic ch) a w) (hh : eff P D Y o a w K) : o.wp P a w K' Q := by
  unfold eff at hh
  unfold Oper.wp
  generalize (execOp a.eval o).run P w = r at *
  cases r with
  | halt x w' => exact hh.elim
  | ok n w' =>
    cases n <;> simp only [effUpon] at hh <;> simp only [Oper.upon]
    case value v => exact h _ _ hh.1 hh.2
    case skip => exact h _ _ hh.1 hh.2
    case enter f args => exact hh.mono fun e w'' hq => hq.elim (fun ⟨v, he, hC, hK⟩ => by subst he; exact h _ _ hC hK) (fun ⟨ch, he, hy⟩ => by subst he; exact hY _ _ hy)
/-- what waits for operation k, be it by way of others -/
def waits (ops : Array Oper) (k : Nat) : Nat → List Nat
  | 0 => []
  | m + 1 => match ops[m]? with
    | none => waits ops k m
    | some o => bif o.after.any (fun e => Region.binds .any e && (Nat.beq e.on k || (waits ops k m).any (Nat.beq e.on))) && Nat.blt k m then m :: waits ops k m else waits ops k m
theorem waits_spec {k : Nat} : ∀ (m j : Nat), j ∈ waits ops k m → k < j ∧ ∃ oj, ops[j]? = some oj ∧ ∃ e ∈ oj.after, Region.binds .any e = true ∧ (e.on = k ∨ e.on ∈ waits ops k m)
  | 0, j, h => by cases h
  | m + 1, j, h => by
    have mono : ∀ x, x ∈ waits ops k m → x ∈ waits ops k (m + 1) := by
      intro x hx
      simp only [waits]
      split
      · exact hx
      rename_i o ho
      cases o.after.any (fun e => Region.binds .any e && (Nat.beq e.on k || (waits ops k m).any (Nat.beq e.on))) && Nat.blt k m
      · exact hx
      exact List.mem_cons_of_mem _ hx
    have old : j ∈ waits ops k m → k < j ∧ ∃ oj, ops[j]? = some oj ∧ ∃ e ∈ oj.after, Region.binds .any e = true ∧ (e.on = k ∨ e.on ∈ waits ops k (m + 1)) := by
      intro hj
      obtain ⟨h1, oj, h2, e, h3, h4, h5⟩ := waits_spec m j hj
      exact ⟨h1, oj, h2, e, h3, h4, h5.imp id (mono _)⟩
    rw [waits] at h
    split at h
    · exact old h
    rename_i o ho
    cases hb : o.after.any (fun e => Region.binds .any e && (Nat.beq e.on k || (waits ops k m).any (Nat.beq e.on))) && Nat.blt k m with
    | false => rw [hb] at h; exact old h
    | true =>
      rw [hb] at h
      rcases List.mem_cons.1 h with rfl | h
      · simp only [Bool.and_eq_true] at hb
        obtain ⟨e, he, h2⟩ := Array.any_eq_true'.1 hb.1
        simp only [Bool.and_eq_true, Bool.or_eq_true] at h2
        refine ⟨by simpa using hb.2, o, ho, e, he, h2.1, ?_⟩
        rcases h2.2 with h3 | h3
        · exact .inl (Nat.eq_of_beq_eq_true h3)
        obtain ⟨x, hx, hxe⟩ := List.any_eq_true.1 h3
        rw [Nat.eq_of_beq_eq_true hxe]
        exact .inr (mono _ hx)
      exact old h
/-- what an operation that is not stable keeps: what each stable one needs that need not come ahead of it -/
def Dp (ops : Array Oper) (C : Nat → World → Prop) (k : Nat) (w : World) : Prop := ∀ i, i < ops.size → i ≠ k → k ∉ waits ops i ops.size → C i w
/-- what the operations that have not come up need -/
def Good (ops : Array Oper) (C : Nat → World → Prop) (listed : Array Bool) (w : World) : Prop := ∀ i, i < ops.size → listed.getD i true = false → C i w
/-- what waits for an operation that has not come up has not come up -/
def Wn (ops : Array Oper) (listed : Array Bool) : Prop := ∀ i, listed.getD i true = false → ∀ j, j ∈ waits ops i ops.size → listed.getD j true = false
theorem ready_free {i j : Nat} {listed : Array Bool} (hw : Wn ops listed) (hj : j ∈ Region.ready .any ops listed) (hi : listed.getD i true = false) : j ∉ waits ops i ops.size := fun hm => by
  obtain ⟨hjun, oj, hoj, hall⟩ := mem_ready.1 hj
  obtain ⟨_, oj', h2, e, h3, h4, h5⟩ := waits_spec _ _ hm
  rw [hoj] at h2
  injection h2 with h2
  subst h2
  have hun : ∀ i, listed.getD i true = false → e.on ≠ i := fun i h0 heq => by
    have h1 := hall e h3 h4
    rw [heq] at h1
    rcases Nat.lt_or_ge i listed.size with h' | h'
    · simp [h'] at h0 h1; rw [h0] at h1; cases h1
    simp [Array.getElem?_eq_none h'] at h1
  rcases h5 with h5 | h5
  · exact hun i hi h5
  exact hun _ (hw i hi _ h5) rfl
theorem Wn.step {j : Nat} {listed : Array Bool} (hw : Wn ops listed) (hj : j ∈ Region.ready .any ops listed) : Wn ops (listed.setIfInBounds j true) := by
  intro i hi m hm
  have hij : j ≠ i := fun e => by
    subst e
    have h0 := (mem_ready.1 hj).1
    rcases Nat.lt_or_ge j listed.size with h' | h'
    · simp [h'] at hi
    simp [Array.getElem?_eq_none h'] at h0
  have hi0 : listed.getD i true = false := by rwa [getD_set_ne true hij] at hi
  have hjm : j ≠ m := fun e => ready_free hw hj hi0 (e ▸ hm)
  rw [getD_set_ne true hjm]
  exact hw i hi0 m hm
theorem Good.keep {j : Nat} {listed : Array Bool} {w : World} (hg : Good ops C listed w) : Good ops C (listed.setIfInBounds j true) w := by
  intro i hi hun
  refine hg i hi ?_
  by_cases hij : j = i
  · subst hij
    rcases Nat.lt_or_ge j listed.size with h' | h'
    · simp [h'] at hun
    rwa [Array.setIfInBounds_eq_of_size_le (by omega)] at hun
  rwa [getD_set_ne true hij] at hun
theorem Good.step {j : Nat} {listed : Array Bool} {w : World} (hw : Wn ops listed) (hj : j ∈ Region.ready .any ops listed) (hd : Dp ops C j w) : Good ops C (listed.setIfInBounds j true) w := by
  intro i hi hun
  have hij : j ≠ i := fun e => by
    subst e
    have h0 := (mem_ready.1 hj).1
    rcases Nat.lt_or_ge j listed.size with h' | h'
    · simp [h'] at hun
    simp [Array.getElem?_eq_none h'] at h0
  rw [getD_set_ne true hij] at hun
  exact hd i hi (fun e => hij e.symm) (ready_free hw hj hun)
/-- operation number i comes up -/
def sOp (P : Program) (ops : Array Oper) (cl : Nat → Nat) (C : Nat → World → Prop) (X : Nat → List PanicEntry → World → Prop) (i : Nat) (K : Act → World → Prop) (a : Act) (w : World) : Prop :=
  match ops[i]? with
  | none => K a w
  | some o => if Region.wanted o (yielded ops a.tmps) then
      (if cl i = 0 then ∃ v, (∀ w', C i w' → Oper.fixed P o a w' v) ∧ K (a.put o.dst v) w else if cl i = 1 then ∃ v, Oper.fixed P o a w v ∧ K (a.put o.dst v) w else eff P (Dp ops C i) (X i) o a w K)
    else K (a.put o.dst undef) w
def anyS (P : Program) (ops : Array Oper) (cl : Nat → Nat) (C : Nat → World → Prop) (X : Nat → List PanicEntry → World → Prop) (Q : Act → World → Prop) : Nat → Array Bool → Act → World → Prop
  | 0, listed, a, w => Region.ready .any ops listed = [] ∧ Q a w
  | fuel + 1, listed, a, w => (Region.ready .any ops listed = [] → Q a w) ∧ ∀ i ∈ Region.ready .any ops listed, sOp P ops cl C X i (anyS P ops cl C X Q fuel (listed.setIfInBounds i true)) a w
/-- what slots that are filled do not change -/
structure Kept (Df : List Deferred) (Nn : Nat) (a : Act) : Prop where
  defers : a.defers = Df
  size : a.tmps.size = Nn
theorem Kept.put {Df : List Deferred} {Nn : Nat} {a : Act} (h : Kept Df Nn a) (d : Option Tmp) (v : Value) : Kept Df Nn (a.put d v) := by
  cases d with
  | none => exact h
  | some d => exact ⟨h.defers, by simp [Act.put, h.size]⟩
theorem wpAny_of_anyS {Q : Act → World → Prop} {Q' : Exit → Act → World → Prop} {Df : List Deferred} {Nn : Nat} (hQ : ∀ a w, Q a w → Q' .normal a w) (hQX : ∀ i ch a w, Kept Df Nn a → X i ch w → Q' (.panic ch) a w) : ∀ (fuel : Nat) (listed : Array Bool) (a : Act) (w : World), Kept Df Nn a → Wn ops listed → Good ops C listed w → anyS P ops cl C X Q fuel listed a w → wpAny P .any ops Q' fuel listed a w
  | 0, _, _, _, _, _, hC, h => ⟨h.1, hQ _ _ h.2⟩
  | fuel + 1, listed, a, w, hDf, hW, hC, h => ⟨fun h0 => hQ _ _ (h.1 h0), fun i hi => by
      have h1 := h.2 i hi
      unfold sOp at h1
      unfold wpOp
      split
      · rename_i ho; simp only [ho] at h1; exact wpAny_of_anyS hQ hQX fuel _ _ _ hDf (hW.step hi) hC.keep h1
      rename_i o ho
      have hlt := (Array.getElem?_eq_some_iff.1 ho).1
      simp only [ho] at h1
      split
      · rename_i hw
        rw [if_pos hw] at h1
        left
        split at h1
        · obtain ⟨v, hv, hK⟩ := h1
          unfold Oper.wp
          rw [hv w (hC i hlt (mem_ready.1 hi).1)]
          exact wpAny_of_anyS hQ hQX fuel _ _ _ (by exact hDf.put _ _) (hW.step hi) hC.keep hK
        split at h1
        · obtain ⟨v, hv, hK⟩ := h1
          unfold Oper.wp
          rw [hv]
          exact wpAny_of_anyS hQ hQX fuel _ _ _ (by exact hDf.put _ _) (hW.step hi) hC.keep hK
        exact eff_wp (fun v w hD hK => wpAny_of_anyS hQ hQX fuel _ _ _ (by exact hDf.put _ _) (hW.step hi) (Good.step hW hi hD) hK) (fun ch w hy => hQX i ch a w hDf hy) h1
      rename_i hw; rw [if_neg hw] at h1; exact wpAny_of_anyS hQ hQX fuel _ _ _ (by exact hDf.put _ _) (hW.step hi) hC.keep h1⟩
/-- what is asked of operation k: it is ready when all ahead of it in the text are listed; whatever does not wait for it has other slots, and one of the two is stable -/
def freeS (ops : Array Oper) (cl : Nat → Nat) (k : Nat) : Bool :=
  match ops[k]? with
  | none => false
  | some ok => (List.range ops.size).all fun j => decide (j ≤ k) || match ops[j]? with
      | some oj => (waits ops k ops.size).any (Nat.beq j) || (ok.apart ops oj && (decide (cl k = 0) || decide (cl j = 0) || (decide (cl k = 1) && decide (cl j = 1))))
      | none => true
def kpB (ops : Array Oper) (cl : Nat → Nat) : Bool :=
  Region.noSelect ops && (List.range ops.size).all fun k => freeS ops cl k && match ops[k]? with
    | some o => o.after.all fun e => !Region.binds .any e || decide (e.on < k)
    | none => true
theorem freeS_spec {k j : Nat} {ok oj : Oper} (hk : ops[k]? = some ok) (hj : ops[j]? = some oj) (hf : freeS ops cl k = true) (hlt : k < j) (hno : j ∉ waits ops k ops.size) : ok.apart ops oj = true ∧ (cl k = 0 ∨ cl j = 0 ∨ (cl k = 1 ∧ cl j = 1)) := by
  simp only [freeS, hk, List.all_eq_true, List.mem_range] at hf
  have h1 := hf j (Array.getElem?_eq_some_iff.1 hj).1
  simp only [hj, Bool.or_eq_true, decide_eq_true_eq, Bool.and_eq_true] at h1
  rcases h1 with h1 | h1 | h1
  · omega
  · obtain ⟨x, hx, hb⟩ := List.any_eq_true.1 h1
    rw [← Nat.eq_of_beq_eq_true hb] at hx
    exact absurd hx hno
  obtain ⟨ha, hc⟩ := h1
  refine ⟨ha, ?_⟩
  rcases hc with (h | h) | h
  · exact .inl h
  · exact .inr (.inl h)
  exact .inr (.inr h)
/-- **An operation may be taken first** if it is ready, and each other that has not come up waits for it, or is apart from it and one of the two is stable. -/
theorem anyS_first {Q : Act → World → Prop} {k : Nat} {ok : Oper} (hXk : ∀ ch w, ¬ X k ch w) (hk : ops[k]? = some ok) (hsel : ∀ (j : Nat) (o : Oper) cs b, ops[j]? = some o → o.op ≠ .select cs b) :
    ∀ (fuel : Nat) (listed : Array Bool) (a : Act) (w : World), Good ops C listed w → Wn ops listed →
      (∀ j oj, ops[j]? = some oj → j ≠ k → listed.getD j true = false → j ∉ waits ops k ops.size → ok.apart ops oj = true ∧ (cl k = 0 ∨ cl j = 0 ∨ (cl k = 1 ∧ cl j = 1))) →
      k ∈ Region.ready .any ops listed → sOp P ops cl C X k (anyS P ops cl C X Q fuel (listed.setIfInBounds k true)) a w → anyS P ops cl C X Q (fuel + 1) listed a w := by
  intro fuel
  induction fuel with
  | zero =>
    intro listed a w hC hwt hfree hr H
    refine ⟨fun h => (by rw [h] at hr; cases hr), fun j hj => ?_⟩
    by_cases hjk : j = k
    · subst hjk; exact H
    exfalso
    have hj' := ready_mono hj hjk
    unfold sOp at H
    simp only [hk] at H
    split at H
    · split at H
      · obtain ⟨v, _, hK⟩ := H; rw [hK.1] at hj'; cases hj'
      split at H
      · obtain ⟨v, _, hK⟩ := H; rw [hK.1] at hj'; cases hj'
      obtain ⟨v, w', _, hK⟩ := eff_some hXk H; rw [hK.1] at hj'; cases hj'
    rw [H.1] at hj'; cases hj'
  | succ fuel ih =>
    intro listed a w hC hwt hfree hr H
    refine ⟨fun h => (by rw [h] at hr; cases hr), fun j hj => ?_⟩
    by_cases hjk : j = k
    · subst hjk; exact H
    obtain ⟨hjun, oj, hoj, hall⟩ := mem_ready.1 hj
    have hjlt := (Array.getElem?_eq_some_iff.1 hoj).1
    have hklt := (Array.getElem?_eq_some_iff.1 hk).1
    have hnot : j ∉ waits ops k ops.size := ready_free hwt hj (mem_ready.1 hr).1
    have hnot2 : k ∉ waits ops j ops.size := ready_free hwt hr hjun
    obtain ⟨hap, hst⟩ := hfree j oj hoj hjk hjun hnot
    obtain ⟨a1, a2, a3⟩ := Oper.apart_spec hap
    have hselk := fun cs b => hsel k ok cs b hk
    have hselj := fun cs b => hsel j oj cs b hoj
    have hcomm : (listed.setIfInBounds k true).setIfInBounds j true = (listed.setIfInBounds j true).setIfInBounds k true := Array.setIfInBounds_comm _ _ (fun h => hjk h.symm)
    have hfree' : ∀ i oi, ops[i]? = some oi → i ≠ k → (listed.setIfInBounds j true).getD i true = false → i ∉ waits ops k ops.size → ok.apart ops oi = true ∧ (cl k = 0 ∨ cl i = 0 ∨ (cl k = 1 ∧ cl i = 1)) := fun i oi hi hik hun hno => by
      refine hfree i oi hi hik ?_ hno
      by_cases hji : j = i
      · subst hji; exact hjun
      rw [getD_set_ne true hji] at hun; exact hun
    have hwt' : Wn ops (listed.setIfInBounds j true) := hwt.step hj
    have hrj : k ∈ Region.ready .any ops (listed.setIfInBounds j true) := ready_mono hr (fun h => hjk h.symm)
    have hjr : j ∈ Region.ready .any ops (listed.setIfInBounds k true) := ready_mono hj hjk
    have hwj : ∀ v, Region.wanted oj (yielded ops (a.put ok.dst v).tmps) = Region.wanted oj (yielded ops a.tmps) := fun v => wanted_put oj a ok.dst v a1
    have hwk : ∀ v, Region.wanted ok (yielded ops (a.put oj.dst v).tmps) = Region.wanted ok (yielded ops a.tmps) := fun v => wanted_put ok a oj.dst v a3
    have hex : ∀ v, execOp (a.put ok.dst v).eval oj = execOp a.eval oj := fun v => execOp_put oj hselj a ok.dst v a1
    have hek : ∀ v, execOp (a.put oj.dst v).eval ok = execOp a.eval ok := fun v => execOp_put ok hselk a oj.dst v a3
    have hpc : ∀ u v, (a.put ok.dst u).put oj.dst v = (a.put oj.dst v).put ok.dst u := fun u v => Act.put_comm a u v a2
    -- what k comes to, and what j makes of it
    have step : ∀ u w', anyS P ops cl C X Q (fuel + 1) (listed.setIfInBounds k true) (a.put ok.dst u) w' → sOp P ops cl C X j (anyS P ops cl C X Q fuel ((listed.setIfInBounds j true).setIfInBounds k true)) (a.put ok.dst u) w' := by
      intro u w' h
      have := h.2 j hjr
      rwa [hcomm] at this
    by_cases hkw : Region.wanted ok (yielded ops a.tmps) = true ∧ cl k ≠ 0 ∧ cl k ≠ 1
    · -- k is not stable: j is
      obtain ⟨hkw, hks, hks1⟩ := hkw
      have hjs : cl j = 0 := by
        rcases hst with h | h | h
        · exact absurd h hks
        · exact h
        exact absurd h.1 hks1
      unfold sOp at H
      simp only [hk] at H
      rw [if_pos hkw, if_neg hks, if_neg hks1] at H
      unfold sOp
      simp only [hoj]
      by_cases hjw : Region.wanted oj (yielded ops a.tmps) = true
      · rw [if_pos hjw, if_pos hjs]
        obtain ⟨u0, w0, hC0, hK0⟩ := eff_some hXk H
        have h1 := step u0 w0 hK0
        unfold sOp at h1
        simp only [hoj] at h1
        rw [if_pos (by rw [hwj]; exact hjw), if_pos hjs] at h1
        obtain ⟨v, hv, _⟩ := h1
        have hv' : ∀ w', C j w' → Oper.fixed P oj a w' v := fun w' hw' => by have := hv w' hw'; unfold Oper.fixed at *; rwa [hex] at this
        refine ⟨v, hv', ih _ _ _ hC.keep hwt' hfree' hrj ?_⟩
        unfold sOp
        simp only [hk]
        rw [if_pos (by rw [hwk]; exact hkw), if_neg hks, if_neg hks1]
        unfold eff at H ⊢
        rw [hek]
        generalize (execOp a.eval ok).run P w = r at *
        have fin : ∀ u w', Dp ops C k w' → anyS P ops cl C X Q (fuel + 1) (listed.setIfInBounds k true) (a.put ok.dst u) w' → anyS P ops cl C X Q fuel ((listed.setIfInBounds j true).setIfInBounds k true) ((a.put oj.dst v).put ok.dst u) w' := by
          intro u w' hC' hK'
          have h2 := step u w' hK'
          unfold sOp at h2
          simp only [hoj] at h2
          rw [if_pos (by rw [hwj]; exact hjw), if_pos hjs] at h2
          obtain ⟨v2, hv2, hK2⟩ := h2
          have hCj := hC' j hjlt hjk hnot2
          have e1 := hv2 w' hCj
          have e2 := hv' w' hCj
          unfold Oper.fixed at e1 e2
          rw [hex, e2] at e1
          injection e1 with e1
          injection e1 with e1
          subst e1
          rwa [hpc] at hK2
        cases r with
        | halt x w' => exact H
        | ok nx w' =>
          cases nx <;> simp only [effUpon] at H ⊢
          case value u => exact ⟨H.1, fin _ _ H.1 H.2⟩
          case skip => exact ⟨H.1, fin _ _ H.1 H.2⟩
          case enter f args => exact H.mono fun e w'' hq => hq.imp (fun ⟨u, he, hC', hK'⟩ => ⟨u, he, hC', fin _ _ hC' hK'⟩) id
      rw [if_neg hjw]
      refine ih _ _ _ hC.keep hwt' hfree' hrj ?_
      unfold sOp
      simp only [hk]
      rw [if_pos (by rw [hwk]; exact hkw), if_neg hks, if_neg hks1]
      unfold eff at H ⊢
      rw [hek]
      generalize (execOp a.eval ok).run P w = r at *
      have fin : ∀ u w', Dp ops C k w' → anyS P ops cl C X Q (fuel + 1) (listed.setIfInBounds k true) (a.put ok.dst u) w' → anyS P ops cl C X Q fuel ((listed.setIfInBounds j true).setIfInBounds k true) ((a.put oj.dst undef).put ok.dst u) w' := by
        intro u w' hC' hK'
        have h2 := step u w' hK'
        unfold sOp at h2
        simp only [hoj] at h2
        rw [if_neg (by rw [hwj]; exact hjw)] at h2
        rwa [hpc] at h2
      cases r with
      | halt x w' => exact H
      | ok nx w' =>
        cases nx <;> simp only [effUpon] at H ⊢
        case value u => exact ⟨H.1, fin _ _ H.1 H.2⟩
        case skip => exact ⟨H.1, fin _ _ H.1 H.2⟩
        case enter f args => exact H.mono fun e w'' hq => hq.imp (fun ⟨u, he, hC', hK'⟩ => ⟨u, he, hC', fin _ _ hC' hK'⟩) id
    by_cases hkr : Region.wanted ok (yielded ops a.tmps) = true ∧ cl k = 1
    · -- k reads memory as it stands: j leaves it alone
      obtain ⟨hkw', hk1⟩ := hkr
      have hjs : cl j = 0 ∨ cl j = 1 := by
        rcases hst with h | h | h
        · rw [hk1] at h; cases h
        · exact .inl h
        exact .inr h.2
      have hk0 : cl k ≠ 0 := by rw [hk1]; decide
      unfold sOp at H
      simp only [hk] at H
      rw [if_pos hkw', if_neg hk0, if_pos hk1] at H
      obtain ⟨u, hu, hK⟩ := H
      have hback : ∀ v, anyS P ops cl C X Q fuel ((listed.setIfInBounds j true).setIfInBounds k true) ((a.put oj.dst v).put ok.dst u) w → sOp P ops cl C X k (anyS P ops cl C X Q fuel ((listed.setIfInBounds j true).setIfInBounds k true)) (a.put oj.dst v) w := by
        intro v h
        unfold sOp
        simp only [hk]
        rw [if_pos (by rw [hwk]; exact hkw'), if_neg hk0, if_pos hk1]
        exact ⟨u, by unfold Oper.fixed; rw [hek]; exact hu, h⟩
      have h1 := step u w hK
      unfold sOp at h1 ⊢
      simp only [hoj] at h1 ⊢
      by_cases hjw : Region.wanted oj (yielded ops a.tmps) = true
      · rw [if_pos (by rw [hwj]; exact hjw)] at h1
        rw [if_pos hjw]
        by_cases hj0 : cl j = 0
        · rw [if_pos hj0] at h1 ⊢
          obtain ⟨v, hv, hK2⟩ := h1
          refine ⟨v, fun w' hw' => by have := hv w' hw'; unfold Oper.fixed at *; rwa [hex] at this, ih _ _ _ hC.keep hwt' hfree' hrj (hback v ?_)⟩
          rwa [hpc] at hK2
        have hj1 : cl j = 1 := by
          rcases hjs with h | h
          · exact absurd h hj0
          exact h
        rw [if_neg hj0, if_pos hj1] at h1 ⊢
        obtain ⟨v, hv, hK2⟩ := h1
        refine ⟨v, by unfold Oper.fixed at *; rwa [hex] at hv, ih _ _ _ hC.keep hwt' hfree' hrj (hback v ?_)⟩
        rwa [hpc] at hK2
      rw [if_neg (by rw [hwj]; exact hjw)] at h1
      rw [if_neg hjw]
      refine ih _ _ _ hC.keep hwt' hfree' hrj (hback undef ?_)
      rwa [hpc] at h1
    -- k is stable, or passed over: its value is one whatever comes ahead of it
    obtain ⟨u, hu, hK⟩ : ∃ u, ((Region.wanted ok (yielded ops a.tmps) = true ∧ cl k = 0 ∧ ∀ w', C k w' → Oper.fixed P ok a w' u) ∨ (Region.wanted ok (yielded ops a.tmps) = false ∧ u = undef)) ∧ anyS P ops cl C X Q (fuel + 1) (listed.setIfInBounds k true) (a.put ok.dst u) w := by
      unfold sOp at H
      simp only [hk] at H
      by_cases hkw' : Region.wanted ok (yielded ops a.tmps) = true
      · have hks : cl k = 0 := by
          apply Classical.byContradiction
          intro h0
          by_cases h1 : cl k = 1
          · exact hkr ⟨hkw', h1⟩
          exact hkw ⟨hkw', h0, h1⟩
        rw [if_pos hkw', if_pos hks] at H
        obtain ⟨u, h1, h2⟩ := H
        exact ⟨u, .inl ⟨hkw', hks, h1⟩, h2⟩
      rw [if_neg hkw'] at H
      exact ⟨undef, .inr ⟨by simpa using hkw', rfl⟩, H⟩
    have hback : ∀ v, ∀ w', anyS P ops cl C X Q fuel ((listed.setIfInBounds j true).setIfInBounds k true) ((a.put oj.dst v).put ok.dst u) w' → sOp P ops cl C X k (anyS P ops cl C X Q fuel ((listed.setIfInBounds j true).setIfInBounds k true)) (a.put oj.dst v) w' := by
      intro v w' h
      unfold sOp
      simp only [hk]
      rcases hu with ⟨h1, h2, h3⟩ | ⟨h1, rfl⟩
      · rw [if_pos (by rw [hwk]; exact h1), if_pos h2]
        exact ⟨u, fun w'' hw'' => by unfold Oper.fixed; rw [hek]; exact h3 w'' hw'', h⟩
      rw [if_neg (by rw [hwk, h1]; simp)]; exact h
    have h1 := step u w hK
    unfold sOp at h1 ⊢
    simp only [hoj] at h1 ⊢
    by_cases hjw : Region.wanted oj (yielded ops a.tmps) = true
    · rw [if_pos (by rw [hwj]; exact hjw)] at h1
      rw [if_pos hjw]
      by_cases hjs : cl j = 0
      · rw [if_pos hjs] at h1 ⊢
        obtain ⟨v, hv, hK2⟩ := h1
        refine ⟨v, fun w' hw' => by have := hv w' hw'; unfold Oper.fixed at *; rwa [hex] at this, ih _ _ _ hC.keep hwt' hfree' hrj (hback v w ?_)⟩
        rwa [hpc] at hK2
      by_cases hj1 : cl j = 1
      · rw [if_neg hjs, if_pos hj1] at h1 ⊢
        obtain ⟨v, hv, hK2⟩ := h1
        refine ⟨v, by unfold Oper.fixed at *; rwa [hex] at hv, ih _ _ _ hC.keep hwt' hfree' hrj (hback v w ?_)⟩
        rwa [hpc] at hK2
      rw [if_neg hjs, if_neg hj1] at h1 ⊢
      unfold eff at h1 ⊢
      rw [hex] at h1
      generalize (execOp a.eval oj).run P w = r at *
      have fin : ∀ v w', Dp ops C j w' → anyS P ops cl C X Q fuel ((listed.setIfInBounds j true).setIfInBounds k true) ((a.put ok.dst u).put oj.dst v) w' → anyS P ops cl C X Q (fuel + 1) (listed.setIfInBounds j true) (a.put oj.dst v) w' := by
        intro v w' hC' h
        rw [hpc] at h
        exact ih _ _ _ (Good.step hwt hj hC') hwt' hfree' hrj (hback v w' h)
      cases r with
      | halt x w' => exact h1
      | ok nx w' =>
        cases nx <;> simp only [effUpon] at h1 ⊢
        case value v => exact ⟨h1.1, fin _ _ h1.1 h1.2⟩
        case skip => exact ⟨h1.1, fin _ _ h1.1 h1.2⟩
        case enter f args => exact h1.mono fun e w'' hq => hq.imp (fun ⟨v, he, hC', hK'⟩ => ⟨v, he, hC', fin _ _ hC' hK'⟩) id
    rw [if_neg (by rw [hwj]; exact hjw)] at h1
    rw [if_neg hjw]
    refine ih _ _ _ hC.keep hwt' hfree' hrj (hback undef w ?_)
    rwa [hpc] at h1
/-- the walk in the order of the text -/
def kp (P : Program) (ops : Array Oper) (cl : Nat → Nat) (C : Nat → World → Prop) (Q : Act → World → Prop) : List Oper → Nat → Act → World → Prop
  | [], _, a, w => Q a w
  | o :: rest, k, a, w => if Region.wanted o (yielded ops a.tmps) then
      (if cl k = 0 then ∃ v, (∀ w', C k w' → Oper.fixed P o a w' v) ∧ kp P ops cl C Q rest (k + 1) (a.put o.dst v) w else if cl k = 1 then ∃ v, Oper.fixed P o a w v ∧ kp P ops cl C Q rest (k + 1) (a.put o.dst v) w else eff P (Dp ops C k) (fun _ _ => False) o a w (kp P ops cl C Q rest (k + 1)))
    else kp P ops cl C Q rest (k + 1) (a.put o.dst undef) w
/-- just those ahead of k are listed -/
def Upto (ops : Array Oper) (k : Nat) (listed : Array Bool) : Prop := listed.size = ops.size ∧ ∀ j, j < ops.size → listed.getD j true = decide (j < k)
theorem anyS_kp {Q : Act → World → Prop} (hB : kpB ops cl = true) : ∀ (l : List Oper) (k : Nat) (listed : Array Bool) (a : Act) (w : World), (∀ j, l[j]? = ops[k + j]?) → Upto ops k listed → Good ops C listed w → kp P ops cl C Q l k a w → anyS P ops cl C (fun _ _ _ => False) Q l.length listed a w
  | [], k, listed, a, w, hl, hu, hC, h => by
    refine ⟨?_, h⟩
    have hk : ops.size ≤ k := by
      have := hl 0; simpa using this
    apply Classical.byContradiction
    intro hne
    obtain ⟨i, hi⟩ := List.exists_mem_of_ne_nil _ hne
    obtain ⟨h1, o, ho, _⟩ := mem_ready.1 hi
    have hlt := (Array.getElem?_eq_some_iff.1 ho).1
    rw [hu.2 i hlt] at h1
    simp at h1
    omega
  | o :: l, k, listed, a, w, hl, hu, hC, h => by
    have h0 : ops[k]? = some o := by simpa using (hl 0).symm
    have hlt := (Array.getElem?_eq_some_iff.1 h0).1
    simp only [kpB, Bool.and_eq_true, List.all_eq_true, List.mem_range] at hB
    obtain ⟨hns, hall⟩ := hB
    obtain ⟨hf, haf⟩ := hall k hlt
    have hB' : kpB ops cl = true := by simp only [kpB, Bool.and_eq_true, List.all_eq_true, List.mem_range]; exact ⟨hns, hall⟩
    simp only [h0, Array.all_eq_true_iff_forall_mem] at haf
    have hr : k ∈ Region.ready .any ops listed := by
      refine mem_ready.2 ⟨by rw [hu.2 k hlt]; simp, o, h0, fun e he hb => ?_⟩
      have := haf e he
      rw [hb] at this
      simp at this
      have h2 := hu.2 e.on (by omega)
      rw [Array.getD_eq_getD_getElem?] at h2 ⊢
      have h3 : e.on < listed.size := by rw [hu.1]; omega
      simp [h3] at h2 ⊢
      rw [h2]; simpa using this
    have hWn : Wn ops listed := by
      intro i hi j hj
      obtain ⟨h1, oj, h2, _⟩ := waits_spec _ _ hj
      have hjl := (Array.getElem?_eq_some_iff.1 h2).1
      rw [hu.2 i (by omega)] at hi
      simp at hi
      rw [hu.2 j hjl]
      simp; omega
    refine anyS_first (fun _ _ h => h) h0 (Region.noSelect_spec hns) l.length listed a w hC hWn ?_ hr ?_
    · intro j oj hj hjk hun hno
      have hjl := (Array.getElem?_eq_some_iff.1 hj).1
      rw [hu.2 j hjl] at hun
      simp at hun
      exact freeS_spec h0 hj hf (by omega) hno
    have hu' : Upto ops (k + 1) (listed.setIfInBounds k true) := by
      refine ⟨by simp [hu.1], fun j hj => ?_⟩
      by_cases hjk : k = j
      · subst hjk
        have : k < listed.size := by rw [hu.1]; exact hj
        simp [this]
      rw [getD_set_ne true hjk, hu.2 j hj]
      by_cases h' : j < k
      · simp [h', show j < k + 1 by omega]
      simp [h', show ¬ j < k + 1 by omega]
    have hl' : ∀ j, l[j]? = ops[k + 1 + j]? := fun j => by have := hl (j + 1); simpa [Nat.add_assoc, Nat.add_comm 1 j] using this
    have go : ∀ a w, Good ops C (listed.setIfInBounds k true) w → kp P ops cl C Q l (k + 1) a w → anyS P ops cl C (fun _ _ _ => False) Q l.length (listed.setIfInBounds k true) a w := fun a w hC h => anyS_kp hB' l (k + 1) _ a w hl' hu' hC h
    unfold sOp
    simp only [h0]
    unfold kp at h
    split
    · rename_i hw
      rw [if_pos hw] at h
      split
      · rename_i hs; rw [if_pos hs] at h; obtain ⟨v, h1, h2⟩ := h; exact ⟨v, h1, go _ _ hC.keep h2⟩
      rename_i hs
      rw [if_neg hs] at h
      split
      · rename_i hs; rw [if_pos hs] at h; obtain ⟨v, h1, h2⟩ := h; exact ⟨v, h1, go _ _ hC.keep h2⟩
      rename_i hs; rw [if_neg hs] at h; exact eff_mono (fun v w' hC' hK => go _ _ (Good.step hWn hr hC') hK) h
    rename_i hw; rw [if_neg hw] at h; exact go _ _ hC.keep h
/-- A REGION THAT DRAWS ITS ORDER, walked in the order of the text. -/
theorem wp_region_kp {id : Nat} {Q : Exit → Act → World → Prop} {a : Act} {w : World} (hm : P.follows .mixedOrders = true) (hB : kpB ops cl = true) (hC : ∀ i, C i { w with drawn := w.drawn + 1 })
    (h : kp P ops cl C (fun a w => Q .normal a w) ops.toList 0 a { w with drawn := w.drawn + 1 }) : (Code.region id ops true).wp P Q a w := by
  refine wp_region_any hm (wpAny_of_anyS (Q := fun a w => Q .normal a w) (cl := cl) (C := C) (X := fun _ _ _ => False) (fun _ _ h => h) (fun _ _ _ _ _ h => h.elim) _ _ _ _ ⟨rfl, rfl⟩ (fun i hi j hj => by obtain ⟨_, oj, h2, _⟩ := waits_spec _ _ hj; have := (Array.getElem?_eq_some_iff.1 h2).1; simp [this]) (fun i _ _ => hC i) ?_)
  have := anyS_kp (Q := fun a w => Q .normal a w) hB ops.toList 0 (Array.replicate ops.size false) a { w with drawn := w.drawn + 1 } (by simp) ⟨by simp, fun j hj => by simp [hj]⟩ (fun i _ _ => hC i) h
  simpa using this
end
/-! ### in an order of one's own; one operation may end in a panic, if all that is left waits for it -/
section
variable {P : Program} {ops : Array Oper} {cl : Nat → Nat} {C : Nat → World → Prop} {X : Nat → List PanicEntry → World → Prop}
def ko (P : Program) (ops : Array Oper) (cl : Nat → Nat) (C : Nat → World → Prop) (X : Nat → List PanicEntry → World → Prop) (Q : Act → World → Prop) : List Nat → Act → World → Prop
  | [], a, w => Q a w
  | k :: rest, a, w => sOp P ops cl C X k (ko P ops cl C X Q rest) a w
def freeO (ops : Array Oper) (cl : Nat → Nat) (done : List Nat) (k : Nat) : Bool :=
  match ops[k]? with
  | none => false
  | some ok => !done.any (Nat.beq k) && (ok.after.all fun e => !Region.binds .any e || done.any (Nat.beq e.on)) && (List.range ops.size).all fun j => Nat.beq k j || done.any (Nat.beq j) || match ops[j]? with
      | some oj => (waits ops k ops.size).any (Nat.beq j) || (!Nat.beq (cl k) 3 && ok.apart ops oj && (decide (cl k = 0) || decide (cl j = 0) || (decide (cl k = 1) && decide (cl j = 1))))
      | none => true
def koB (ops : Array Oper) (cl : Nat → Nat) : List Nat → List Nat → Bool
  | done, [] => (List.range ops.size).all fun j => done.any (Nat.beq j)
  | done, k :: rest => freeO ops cl done k && koB ops cl (k :: done) rest
theorem any_beq {l : List Nat} {j : Nat} : l.any (Nat.beq j) = true ↔ j ∈ l := by
  rw [List.any_eq_true]
  exact ⟨fun ⟨x, hx, h⟩ => by rw [Nat.eq_of_beq_eq_true h]; exact hx, fun h => ⟨j, h, Nat.beq_refl j⟩⟩
theorem sOp_mono {k : Nat} {K K' : Act → World → Prop} {a : Act} {w : World} (h : ∀ a' w', (w' = w ∨ Dp ops C k w') → K a' w' → K' a' w') (hh : sOp P ops cl C X k K a w) : sOp P ops cl C X k K' a w := by
  unfold sOp at *
  cases ho : ops[k]? with
  | none => simp only [ho] at hh ⊢; exact h _ _ (.inl rfl) hh
  | some o =>
    simp only [ho] at hh ⊢
    split
    · rename_i hw
      rw [if_pos hw] at hh
      split
      · rename_i h0; rw [if_pos h0] at hh; obtain ⟨v, h1, h2⟩ := hh; exact ⟨v, h1, h _ _ (.inl rfl) h2⟩
      rename_i h0
      rw [if_neg h0] at hh
      split
      · rename_i h1; rw [if_pos h1] at hh; obtain ⟨v, h1, h2⟩ := hh; exact ⟨v, h1, h _ _ (.inl rfl) h2⟩
      rename_i h1; rw [if_neg h1] at hh; exact eff_mono (fun v w' hD hK => h _ _ (.inr hD) hK) hh
    rename_i hw; rw [if_neg hw] at hh; exact h _ _ (.inl rfl) hh
theorem anyS_ko {Q : Act → World → Prop} (hns : Region.noSelect ops = true) (hX : ∀ k, cl k ≠ 3 → ∀ ch w, ¬ X k ch w) : ∀ (ord done : List Nat) (listed : Array Bool) (a : Act) (w : World), koB ops cl done ord = true → (∀ j, j ∈ done → j < ops.size) → listed.size = ops.size → (∀ j, j < ops.size → listed.getD j true = decide (j ∈ done)) → Wn ops listed → Good ops C listed w → ko P ops cl C X Q ord a w → anyS P ops cl C X Q ord.length listed a w
  | [], done, listed, a, w, hB, _, hsz, hl, hW, hC, h => by
    refine ⟨?_, h⟩
    apply Classical.byContradiction
    intro hne
    obtain ⟨i, hi⟩ := List.exists_mem_of_ne_nil _ hne
    obtain ⟨h1, o, ho, _⟩ := mem_ready.1 hi
    have hlt := (Array.getElem?_eq_some_iff.1 ho).1
    rw [hl i hlt] at h1
    simp only [koB, List.all_eq_true, List.mem_range] at hB
    have := any_beq.1 (hB i hlt)
    simp [this] at h1
  | k :: ord, done, listed, a, w, hB, hdn, hsz, hl, hW, hC, h => by
    simp only [koB, Bool.and_eq_true] at hB
    obtain ⟨hf, hB'⟩ := hB
    unfold freeO at hf
    cases h0 : ops[k]? with
    | none => simp [h0] at hf
    | some ok =>
    simp only [h0, Bool.and_eq_true, List.all_eq_true, List.mem_range, Array.all_eq_true_iff_forall_mem] at hf
    obtain ⟨⟨hnd, haf⟩, hall⟩ := hf
    have hlt := (Array.getElem?_eq_some_iff.1 h0).1
    have hkn : k ∉ done := fun hm => by rw [any_beq.2 hm] at hnd; cases hnd
    have hr : k ∈ Region.ready .any ops listed := by
      refine mem_ready.2 ⟨by rw [hl k hlt]; simp [hkn], ok, h0, fun e he hb => ?_⟩
      have := haf e he
      rw [hb] at this
      simp only [Bool.not_true, Bool.false_or] at this
      have hm := any_beq.1 this
      have hlo := hdn _ hm
      have h2 := hl e.on hlo
      rw [Array.getD_eq_getD_getElem?] at h2 ⊢
      have h3 : e.on < listed.size := by rw [hsz]; exact hlo
      simp [h3, hm] at h2 ⊢
      exact h2
    have hfree : ∀ j oj, ops[j]? = some oj → j ≠ k → listed.getD j true = false → j ∉ waits ops k ops.size → cl k ≠ 3 ∧ ok.apart ops oj = true ∧ (cl k = 0 ∨ cl j = 0 ∨ (cl k = 1 ∧ cl j = 1)) := by
      intro j oj hj hjk hun hno
      have hjl := (Array.getElem?_eq_some_iff.1 hj).1
      have h1 := hall j hjl
      rw [hl j hjl] at hun
      have hjd : j ∉ done := by simpa using hun
      have e1 : Nat.beq k j = false := by
        cases hb : Nat.beq k j
        · rfl
        exact absurd (Nat.eq_of_beq_eq_true hb).symm hjk
      have e2 : done.any (Nat.beq j) = false := by
        cases hb : done.any (Nat.beq j)
        · rfl
        exact absurd (any_beq.1 hb) hjd
      have e3 : (waits ops k ops.size).any (Nat.beq j) = false := by
        cases hb : (waits ops k ops.size).any (Nat.beq j)
        · rfl
        exact absurd (any_beq.1 hb) hno
      simp only [e1, e2, hj, e3, Bool.false_or, Bool.and_eq_true, Bool.or_eq_true, decide_eq_true_eq, Bool.not_eq_true'] at h1
      obtain ⟨⟨h3, h4⟩, h5⟩ := h1
      refine ⟨fun e => ?_, h4, ?_⟩
      · rw [e] at h3; cases h3
      rcases h5 with (h | h) | h
      · exact .inl h
      · exact .inr (.inl h)
      exact .inr (.inr h)
    have hsz' : (listed.setIfInBounds k true).size = ops.size := by simp [hsz]
    have hl' : ∀ j, j < ops.size → (listed.setIfInBounds k true).getD j true = decide (j ∈ k :: done) := fun j hj => by
      by_cases hjk : k = j
      · subst hjk
        have : k < listed.size := by rw [hsz]; exact hj
        simp [this]
      rw [getD_set_ne true hjk, hl j hj]
      have : j ≠ k := fun e => hjk e.symm
      simp [this]
    have go : ∀ a w, Good ops C (listed.setIfInBounds k true) w → ko P ops cl C X Q ord a w → anyS P ops cl C X Q ord.length (listed.setIfInBounds k true) a w := fun a w hC h => anyS_ko hns hX ord (k :: done) _ a w hB' (fun j hj => by rcases List.mem_cons.1 hj with rfl | hj; exact hlt; exact hdn j hj) hsz' hl' (hW.step hr) hC h
    have hs : sOp P ops cl C X k (anyS P ops cl C X Q ord.length (listed.setIfInBounds k true)) a w := by
      refine sOp_mono (fun a' w' hw' hK => go a' w' ?_ hK) h
      rcases hw' with rfl | hD
      · exact hC.keep
      exact Good.step hW hr hD
    by_cases h3 : cl k = 3
    · refine ⟨fun h => (by rw [h] at hr; cases hr), fun j hj => ?_⟩
      by_cases hjk : j = k
      · subst hjk; exact hs
      obtain ⟨hjun, oj, hoj, _⟩ := mem_ready.1 hj
      exact absurd h3 (hfree j oj hoj hjk hjun (ready_free hW hj (mem_ready.1 hr).1)).1
    exact anyS_first (hX k h3) h0 (Region.noSelect_spec hns) ord.length listed a w hC hW (fun j oj hj hjk hun hno => (hfree j oj hj hjk hun hno).2) hr hs
theorem wp_region_ko {id : Nat} {Q : Exit → Act → World → Prop} {a : Act} {w : World} {ord : List Nat} (hm : P.follows .mixedOrders = true) (hns : Region.noSelect ops = true) (hB : koB ops cl [] ord = true) (hX : ∀ k, cl k ≠ 3 → ∀ ch w, ¬ X k ch w) (hlen : ord.length = ops.size) (hC : ∀ i, C i { w with drawn := w.drawn + 1 })
    (hQX : ∀ i ch a' w', Kept a.defers a.tmps.size a' → X i ch w' → Q (.panic ch) a' w')
    (h : ko P ops cl C X (fun a w => Q .normal a w) ord a { w with drawn := w.drawn + 1 }) : (Code.region id ops true).wp P Q a w := by
  refine wp_region_any hm (wpAny_of_anyS (Q := fun a w => Q .normal a w) (cl := cl) (C := C) (X := X) (Df := a.defers) (Nn := a.tmps.size) (fun _ _ h => h) hQX _ _ _ _ ⟨rfl, rfl⟩ (fun i hi j hj => by obtain ⟨_, oj, h2, _⟩ := waits_spec _ _ hj; have := (Array.getElem?_eq_some_iff.1 h2).1; simp [this]) (fun i _ _ => hC i) ?_)
  have := anyS_ko (Q := fun a w => Q .normal a w) hns hX ord [] (Array.replicate ops.size false) a { w with drawn := w.drawn + 1 } hB (fun _ h => by cases h) (by simp) (fun j hj => by simp [hj]) (fun i hi j hj => by obtain ⟨_, oj, h2, _⟩ := waits_spec _ _ hj; have := (Array.getElem?_eq_some_iff.1 h2).1; simp [this]) (fun i _ _ => hC i) h
  rw [hlen] at this
  exact this
end
/-- classes told by a list -/
def clOf : List (Nat × Nat) → Nat → Nat
  | [], _ => 0
  | (i, c) :: l, k => bif Nat.beq i k then c else clOf l k
/-! ### the same in the logic of walks -/
section
variable {P : Program} {n d k : Nat} {W0 : World} {Q : Exit → Act → World → Prop} {ops rest : List Oper} {o : Oper} {E : Env} {H : Heap} {v : Value} {cl : Nat → Nat} {C : Nat → Heap → Prop}
/-- what an operation keeps that changes memory -/
def Dk (ops : Array Oper) (C : Nat → Heap → Prop) (k : Nat) (H : Heap) : Prop := ∀ i, i ≠ k → k ∉ waits ops i ops.size → C i H
def KP (P : Program) (n : Nat) (W0 : World) (Q : Exit → Act → World → Prop) (cl : Nat → Nat) (C : Nat → Heap → Prop) (ops l : List Oper) (k : Nat) (E : Env) (H : Heap) : Prop :=
  ∀ a w, Rep n E a → St W0 H w → kp P ops.toArray cl (fun i w => C i w.heap ∧ St W0 w.heap w) (fun a w => Q .normal a w) l k a w
theorem KC.text {id : Nat} {l : List Oper} (cl : Nat → Nat) (C : Nat → Heap → Prop) (hm : P.follows .mixedOrders = true) (hB : kpB l.toArray cl = true) (hC : ∀ i, C i H) (h : KP P n W0 Q cl C l l 0 E H) : KC P n W0 Q (.region id l.toArray true) E H :=
  fun a w ha hw => wp_region_kp (C := fun i w => C i w.heap ∧ St W0 w.heap w) hm hB (fun i => show C i w.heap ∧ _ from ⟨by rw [hw.heap]; exact hC i, rfl, hw.os, hw.tape, hw.output⟩) (h a _ ha ⟨hw.heap, hw.os, hw.tape, hw.output⟩)
theorem KP.nil (h : KQ n W0 Q .normal E H) : KP P n W0 Q cl C ops [] k E H := fun a w ha hw => h a w ha hw
/-- a stable operation -/
theorem KP.op (hs : cl k = 0) (hr : ∀ H', C k H' → Run P E H' o v) (hd : o.dst = some d) (hn : Nat.blt d n = true) (hg : want ops E o.guard = some true) (h : KP P n W0 Q cl C ops rest (k + 1) ((d, v) :: E) H) : KP P n W0 Q cl C ops (o :: rest) k E H := by
  intro a w ha hw
  unfold kp
  rw [if_pos (want_wanted ha hg), if_pos hs]
  refine ⟨v, fun w' hw' => hr w'.heap hw'.1 a.eval w' ha.agree rfl, ?_⟩
  rw [hd]; exact h _ _ (ha.put hn v) hw
theorem KP.skip (hd : o.dst = some d) (hn : Nat.blt d n = true) (hg : want ops E o.guard = some false) (h : KP P n W0 Q cl C ops rest (k + 1) ((d, undef) :: E) H) : KP P n W0 Q cl C ops (o :: rest) k E H := by
  intro a w ha hw
  unfold kp
  rw [if_neg (by rw [want_wanted ha hg]; simp), hd]
  exact h _ _ (ha.put hn _) hw
theorem KP.case {c : Bool} (hget : get E d = some (.bool c)) (ht : c = true → KP P n W0 Q cl C ops rest k ((d, .bool true) :: E) H) (hf : c = false → KP P n W0 Q cl C ops rest k ((d, .bool false) :: E) H) : KP P n W0 Q cl C ops rest k E H := by
  intro a w ha hw
  cases hc : c with
  | true => exact ht hc a w (ha.sub (sub_case hget true hc)) hw
  | false => exact hf hc a w (ha.sub (sub_case hget false hc)) hw
theorem KP.opM {R : Value → Heap → Prop} (hs : cl k = 2) (hr : RunM P E H o R) (hd : o.dst = some d) (hn : Nat.blt d n = true) (hg : want ops E o.guard = some true) (hC : ∀ v H', R v H' → Dk ops.toArray C k H') (h : ∀ v H', R v H' → KP P n W0 Q cl C ops rest (k + 1) ((d, v) :: E) H') : KP P n W0 Q cl C ops (o :: rest) k E H := by
  intro a w ha hw
  unfold kp
  rw [if_pos (want_wanted ha hg), if_neg (by rw [hs]; decide), if_neg (by rw [hs]; decide)]
  obtain ⟨v, w', hrun, hst, hR⟩ := hr a.eval w ha.agree hw.heap
  unfold eff
  rw [hrun]
  simp only [effUpon]
  rw [hd]
  have hst' := hw.trans hst
  exact ⟨fun i _ h1 h2 => ⟨hC _ _ hR i h1 h2, rfl, hst'.os, hst'.tape, hst'.output⟩, h v _ hR _ _ (ha.put hn v) hst'⟩
theorem KP.opS {R : Heap → Prop} (hs : cl k = 2) (hr : RunS P E H o R) (hd : o.dst = none) (hg : want ops E o.guard = some true) (hC : ∀ H', R H' → Dk ops.toArray C k H') (h : ∀ H', R H' → KP P n W0 Q cl C ops rest (k + 1) E H') : KP P n W0 Q cl C ops (o :: rest) k E H := by
  intro a w ha hw
  unfold kp
  rw [if_pos (want_wanted ha hg), if_neg (by rw [hs]; decide), if_neg (by rw [hs]; decide)]
  obtain ⟨w', hrun, hst, hR⟩ := hr a.eval w ha.agree hw.heap
  unfold eff
  rw [hrun]
  simp only [effUpon]
  rw [hd]
  have hst' := hw.trans hst
  exact ⟨fun i _ h1 h2 => ⟨hC _ hR i h1 h2, rfl, hst'.os, hst'.tape, hst'.output⟩, h _ hR _ _ ha hst'⟩
theorem KP.call {f : FuncId} {fo : Operand} {xs : Array Operand} {ts : Array TypeId} {first cap : Array Value} {vs args : List Value} {R : Value → Heap → Prop} (hs : cl k = 2) (ho : o.op = .call { callee := .value fo, args := xs, argTypes := ts })
    (hf : ev E fo = some (.func (.func f) first cap)) (has : evs E xs.toList = some vs) (hl : first.toList ++ vs ++ cap.toList = args) (hcall : Enters P f) (hd : o.dst = some d) (hn : Nat.blt d n = true) (hg : want ops E o.guard = some true)
    (hc : Ct P f args H R) (hC : ∀ v H', R v H' → Dk ops.toArray C k H') (h : ∀ v H', R v H' → KP P n W0 Q cl C ops rest (k + 1) ((d, v) :: E) H') : KP P n W0 Q cl C ops (o :: rest) k E H := by
  intro a w ha hw
  unfold kp
  rw [if_pos (want_wanted ha hg), if_neg (by rw [hs]; decide), if_neg (by rw [hs]; decide)]
  unfold eff
  rw [run_call ha.agree ho hf has hl hcall]
  simp only [effUpon]
  refine (hc w hw.heap).mono ?_
  rintro e w' ⟨v, rfl, hst, hR⟩
  have hst' := hw.trans hst
  rw [hd]
  refine .inl ?_
  exact ⟨v, rfl, fun i _ h1 h2 => ⟨hC _ _ hR i h1 h2, rfl, hst'.os, hst'.tape, hst'.output⟩, h v _ hR _ _ (ha.put hn v) hst'⟩
end
def faB (P : Program) (x : Nat × Nat × Nat) : Bool := match P.underlying x.1 with
  | some (.struct fields) => match nth fields.toList x.2.1 with
    | some fd => Nat.beq fd.offset x.2.2 && (match P.info? fd.type with
      | some i => Nat.blt 0 i.size
      | none => false)
    | none => false
  | _ => false
def fas : List (Nat × Nat × Nat) := [(7, 0, 0), (7, 1, 1), (7, 2, 2), (7, 3, 3), (13, 0, 0), (13, 1, 1), (18, 0, 0), (32, 0, 0), (32, 1, 1), (32, 2, 2), (32, 3, 3), (32, 4, 4), (32, 5, 5), (32, 6, 6), (32, 7, 7), (32, 8, 8), (32, 9, 9), (32, 10, 10), (32, 11, 11), (33, 0, 0), (33, 1, 1), (33, 2, 2), (33, 3, 3), (33, 4, 4), (33, 5, 5), (33, 6, 6), (33, 7, 7), (33, 8, 8), (33, 9, 9), (33, 10, 10), (33, 11, 11), (47, 0, 0), (47, 1, 1), (48, 0, 0), (48, 1, 1), (49, 0, 0), (49, 1, 1), (50, 0, 0), (50, 1, 1), (53, 0, 0), (53, 1, 1), (54, 0, 0), (54, 1, 1), (56, 0, 0), (56, 1, 1), (57, 0, 0), (57, 1, 1), (58, 0, 0), (58, 1, 1), (59, 0, 0), (59, 1, 1), (60, 0, 0), (60, 1, 1), (60, 2, 2), (60, 3, 3), (60, 4, 4), (60, 5, 6), (61, 0, 0), (61, 1, 1), (61, 2, 2), (61, 3, 3), (61, 4, 4), (61, 5, 6), (62, 0, 0), (62, 1, 2), (63, 0, 0), (63, 1, 2), (65, 0, 0), (65, 1, 1), (65, 2, 2), (66, 0, 0), (66, 1, 1), (66, 2, 2), (68, 0, 0), (68, 1, 1), (68, 2, 2), (69, 0, 0), (69, 1, 1), (69, 2, 2), (70, 0, 0), (70, 1, 1), (70, 2, 2), (71, 0, 0), (71, 1, 1), (71, 2, 2), (73, 0, 0), (73, 1, 1), (74, 0, 0), (74, 1, 1), (106, 0, 0), (107, 0, 0), (125, 0, 0), (125, 1, 1), (125, 2, 2), (125, 3, 3), (125, 4, 4), (126, 0, 0), (126, 1, 1), (126, 2, 2), (126, 3, 3), (126, 4, 4), (127, 0, 0), (127, 1, 1), (128, 0, 0), (128, 1, 1), (145, 0, 0), (145, 1, 1), (146, 0, 0), (146, 1, 1), (151, 0, 0), (152, 0, 0), (207, 0, 0), (207, 1, 1), (208, 0, 0), (208, 1, 1), (218, 0, 0), (219, 0, 0), (221, 0, 0), (221, 1, 1), (222, 0, 0), (222, 1, 1), (230, 0, 0), (230, 1, 1), (230, 2, 2), (230, 3, 3), (242, 0, 0), (242, 1, 1), (242, 2, 2), (242, 3, 3), (242, 4, 4), (242, 5, 5), (242, 6, 6), (242, 7, 7), (242, 8, 8), (242, 9, 9), (242, 10, 10)]
theorem fas_ok : fas.all (faB Tryz.prog) = true := by kernel_rfl
/-- types of one cell -/
def nagB (P : Program) (t : Nat) : Bool := match P.underlying t with
  | some ds => !isAggD ds
  | none => false
def nags : List Nat := [2, 3, 4, 5, 9, 12, 20, 21, 22, 23, 24, 25, 26, 27, 28, 29, 30, 31, 34, 37, 44, 51, 52, 64, 72, 76, 95, 110, 141, 150, 198, 210, 216, 228, 239, 244]
theorem nags_ok : nags.all (nagB Tryz.prog) = true := by kernel_rfl
/-- structs and arrays, and how many cells they have -/
def aggB (P : Program) (x : Nat × Nat) : Bool := match P.underlying x.1, P.info? x.1 with
  | some ds, some i => isAggD ds && Nat.beq i.size x.2
  | _, _ => false
def aggs : List (Nat × Nat) := [(7, 4), (13, 2), (18, 1), (32, 12), (33, 12), (47, 2), (48, 2), (49, 2), (50, 2), (53, 2), (54, 2), (56, 2), (57, 2), (58, 2), (59, 2), (60, 8), (61, 8), (62, 3), (63, 3), (65, 3), (66, 3), (68, 3), (69, 3), (70, 3), (71, 3), (73, 2), (74, 2), (106, 1), (107, 1), (125, 5), (126, 5), (127, 2), (128, 2), (145, 2), (146, 2), (151, 1), (152, 1), (206, 256), (207, 2), (208, 2), (209, 32), (211, 4), (218, 1), (219, 1), (221, 2), (222, 2), (230, 4), (232, 0), (233, 0), (242, 11)]
theorem aggs_ok : aggs.all (aggB Tryz.prog) = true := by kernel_rfl
def look1 : List (Nat × Nat) → Nat → Option Nat
  | [], _ => none
  | (t, k) :: l, T => bif Nat.beq t T then some k else look1 l T
theorem agg_of {T m : Nat} (h : look1 aggs T = some m) : ∃ ds, Tryz.prog.underlying T = some ds ∧ isAggD ds = true ∧ (Tryz.prog.info? T).map (·.size) = some m := by
  have key : ∀ l : List (Nat × Nat), l.all (aggB Tryz.prog) = true → look1 l T = some m → aggB Tryz.prog (T, m) = true := by
    intro l
    induction l with
    | nil => intro _ h2; cases h2
    | cons p l ih =>
      obtain ⟨t, k⟩ := p
      intro h1 h2
      simp only [List.all_cons, Bool.and_eq_true] at h1
      simp only [look1] at h2
      cases hb : Nat.beq t T with
      | true =>
        rw [hb] at h2
        have e3 := Nat.eq_of_beq_eq_true hb
        cases h2; subst e3; exact h1.1
      | false => rw [hb] at h2; exact ih h1.2 h2
  have hk := key aggs aggs_ok h
  unfold aggB at hk
  split at hk
  · next ds i e1 e2 =>
    simp only [Bool.and_eq_true] at hk
    exact ⟨ds, e1, hk.1, by rw [e2]; exact congrArg some (Nat.eq_of_beq_eq_true hk.2)⟩
  cases hk
/-- a struct that is built: its zero, where its fields stand -/
def Bt (P : Program) (T : Nat) (zs : List Value) (pl : List (Nat × Nat)) : Prop := ∃ fields, P.underlying T = some (.struct fields) ∧ (P.info? T).map (·.zero) = some (some (.agg zs.toArray)) ∧ (∀ w, (fields.mapM (m := Sem) fun f => Prod.mk f.offset <$> sizeOf f.type).run P w = .ok pl.toArray w) ∧ fields.toList.map (·.offset) = pl.map (·.1)
theorem bt33 : Bt Tryz.prog 33 [(.slice none 0 0), (.slice none 0 0), (.slice none 0 0), (.slice none 0 0), (.slice none 0 0), (.slice none 0 0), (.slice none 0 0), (.bool false), (.int .u32 0), (.slice none 0 0), (.slice none 0 0), (.slice none 0 0)] [(0, 1), (1, 1), (2, 1), (3, 1), (4, 1), (5, 1), (6, 1), (7, 1), (8, 1), (9, 1), (10, 1), (11, 1)] := ⟨_, U33, zr33, fun w => by kernel_rfl, rfl⟩
theorem bt48 : Bt Tryz.prog 48 [(.int .u8 0), (.slice none 0 0)] [(0, 1), (1, 1)] := ⟨_, U48, zr48, fun w => by kernel_rfl, rfl⟩
theorem bt50 : Bt Tryz.prog 50 [(.slice none 0 0), (.slice none 0 0)] [(0, 1), (1, 1)] := ⟨_, U50, zr50, fun w => by kernel_rfl, rfl⟩
theorem bt54 : Bt Tryz.prog 54 [(.slice none 0 0), (.slice none 0 0)] [(0, 1), (1, 1)] := ⟨_, U54, zr54, fun w => by kernel_rfl, rfl⟩
theorem bt57 : Bt Tryz.prog 57 [(.int .u32 0), (.int .i64 0)] [(0, 1), (1, 1)] := ⟨_, U57, zr57, fun w => by kernel_rfl, rfl⟩
theorem bt59 : Bt Tryz.prog 59 [(.int .u8 0), (.bool false)] [(0, 1), (1, 1)] := ⟨_, U59, zr59, fun w => by kernel_rfl, rfl⟩
theorem bt61 : Bt Tryz.prog 61 [(.string ⟨#[]⟩), (.string ⟨#[]⟩), (.int .u8 0), (.int .u32 0), (.int .u32 0), (.int .i64 0), (.int .u8 0), (.bool false)] [(0, 1), (1, 1), (2, 1), (3, 1), (4, 2), (6, 2)] := ⟨_, U61, zr61, fun w => by kernel_rfl, rfl⟩
theorem bt66 : Bt Tryz.prog 66 [(.string ⟨#[]⟩), (.int .u8 0), (.int .u32 0)] [(0, 1), (1, 1), (2, 1)] := ⟨_, U66, zr66, fun w => by kernel_rfl, rfl⟩
theorem bt69 : Bt Tryz.prog 69 [(.int .u32 0), (.slice none 0 0), (.slice none 0 0)] [(0, 1), (1, 1), (2, 1)] := ⟨_, U69, zr69, fun w => by kernel_rfl, rfl⟩
theorem bt71 : Bt Tryz.prog 71 [(.int .u32 0), (.slice none 0 0), (.slice none 0 0)] [(0, 1), (1, 1), (2, 1)] := ⟨_, U71, zr71, fun w => by kernel_rfl, rfl⟩
theorem bt74 : Bt Tryz.prog 74 [(.slice none 0 0), (.bool false)] [(0, 1), (1, 1)] := ⟨_, Tryz.underlying74, zr74, fun w => by kernel_rfl, rfl⟩
theorem bt107 : Bt Tryz.prog 107 [(.int .i64 0)] [(0, 1)] := ⟨_, U107, zr107, fun w => by kernel_rfl, rfl⟩
theorem bt126 : Bt Tryz.prog 126 [(.int .u8 0), (.int .u32 0), (.int .u32 0), (.int .i64 0), (.slice none 0 0)] [(0, 1), (1, 1), (2, 1), (3, 1), (4, 1)] := ⟨_, U126, zr126, fun w => by kernel_rfl, rfl⟩
theorem bt128 : Bt Tryz.prog 128 [(.slice none 0 0), (.bool false)] [(0, 1), (1, 1)] := ⟨_, Tryz.underlying128, zr128, fun w => by kernel_rfl, rfl⟩
theorem bt146 : Bt Tryz.prog 146 [(.int .u32 0), (.int .u8 0)] [(0, 1), (1, 1)] := ⟨_, U146, zr146, fun w => by kernel_rfl, rfl⟩
theorem bt152 : Bt Tryz.prog 152 [(.slice none 0 0)] [(0, 1)] := ⟨_, Tryz.underlying152, zr152, fun w => by kernel_rfl, rfl⟩
theorem bt219 : Bt Tryz.prog 219 [(.int .i64 0)] [(0, 1)] := ⟨_, U219, zr219, fun w => by kernel_rfl, rfl⟩
theorem bt222 : Bt Tryz.prog 222 [(.slice none 0 0), (.int .i64 0)] [(0, 1), (1, 1)] := ⟨_, Tryz.underlying222, zr222, fun w => by kernel_rfl, rfl⟩
def sameK (a b : IntKind) : Bool := Nat.beq a.ctorIdx b.ctorIdx
theorem sameK_eq {a b : IntKind} (h : sameK a b = true) : a = b := by cases a <;> cases b <;> first | rfl | cases h
def cmpI (a b : Int) : BinOp → Option Value
  | .eql => some (.bool (decide (a = b)))
  | .neq => some (.bool (!decide (a = b)))
  | .lss => some (.bool (decide (a < b)))
  | .leq => some (.bool (decide (a ≤ b)))
  | .gtr => some (.bool (decide (b < a)))
  | .geq => some (.bool (decide (b ≤ a)))
  | _ => none
/-- where a struct's field stands -/
def look : List (Nat × Nat × Nat) → Nat → Nat → Option Nat
  | [], _, _ => none
  | (t, f, k) :: l, T, F => bif Nat.beq t T && Nat.beq f F then some k else look l T F
/-- one operation whose value is told by the slots that it names -/
def stp (fa : List (Nat × Nat × Nat)) (E : Env) : Op → Option Value
  | .move x => ev E x
  | .assign x => ev E x
  | .extract x i => match ev E x with
    | some (.tuple vs) => nth vs.toList i
    | _ => none
  | .pick c x y => match ev E c with
    | some (.bool true) => ev E x
    | some (.bool false) => ev E y
    | _ => none
  | .unOp .not _ x => match ev E x with
    | some (.bool b) => some (.bool (!b))
    | _ => none
  | .binOp op _ x y _ => match ev E x, ev E y with
    | some (.int k a), some (.int k' b) => bif sameK k k' then cmpI a b op else none
    | _, _ => none
  | .nilCheck x => match ev E x with
    | some (.pointer (some p)) => some (.pointer (some p))
    | _ => none
  | .fieldAddr S x f => match ev E x, look fa S f with
    | some (.pointer (some ⟨g, off, none⟩)), some k => some (.pointer (some ⟨g, off + k, none⟩))
    | _, _ => none
  | .makeFunc f xs ys => match evs E xs.toList, evs E ys.toList with
    | some us, some vs => some (.func f us.toArray vs.toArray)
    | _, _ => none
  | _ => none
theorem stp_run {P : Program} {fa : List (Nat × Nat × Nat)} (hfa : fa.all (faB P) = true) {E : Env} {H : Heap} {o : Oper} {v : Value} (h : stp fa E o.op = some v) : Run P E H o v := by
  cases ho : o.op <;> rw [ho] at h <;> try (simp [stp] at h; done)
  case move x => exact R.move ho h
  case assign x => exact R.assign ho h
  case pick c x y =>
    simp only [stp] at h
    split at h
    · next e => exact R.pick (t := true) ho e h
    · next e => exact R.pick (t := false) ho e h
    cases h
  case nilCheck x =>
    simp only [stp] at h
    split at h
    · next e => cases h; exact R.nilCheck ho e
    cases h
  case binOp op t x y t' =>
    simp only [stp] at h
    split at h
    · next k a k' b e1 e2 =>
      cases hk : sameK k k' with
      | false => rw [hk] at h; cases h
      | true =>
        rw [hk] at h
        have e := sameK_eq hk; subst e
        cases op <;> simp only [cmpI, cond_true] at h <;> cases h
        · exact R.eql ho e1 e2
        · exact R.neq ho e1 e2
        · exact R.lss ho e1 e2
        · exact R.leq ho e1 e2
        · exact R.gtr ho e1 e2
        exact R.geq ho e1 e2
    cases h
  case unOp op t x =>
    cases op <;> try (simp [stp] at h; done)
    simp only [stp] at h
    split at h
    · next e => cases h; exact R.not ho e
    cases h
  case makeFunc f xs ys =>
    simp only [stp] at h
    split at h
    · next e1 e2 => cases h; exact R.makeFunc ho e1 e2
    cases h
  case extract x i =>
    simp only [stp] at h
    split at h
    · next e => exact R.extract ho e h
    cases h
  case fieldAddr S x f =>
    simp only [stp] at h
    split at h
    · next g off k e1 e2 =>
      cases h
      have key : ∀ l : List (Nat × Nat × Nat), l.all (faB P) = true → look l S f = some k → faB P (S, f, k) = true := by
        intro l
        induction l with
        | nil => intro _ h2; cases h2
        | cons p l ih =>
          obtain ⟨t, f', k'⟩ := p
          intro h1 h2
          simp only [List.all_cons, Bool.and_eq_true] at h1
          simp only [look] at h2
          cases hb : (Nat.beq t S && Nat.beq f' f) with
          | true =>
            rw [hb] at h2
            simp only [Bool.and_eq_true] at hb
            have e3 := Nat.eq_of_beq_eq_true hb.1; have e4 := Nat.eq_of_beq_eq_true hb.2
            cases h2; subst e3; subst e4; exact h1.1
          | false => rw [hb] at h2; exact ih h1.2 h2
      have hk := key fa hfa e2
      unfold faB at hk
      split at hk
      · next fields e3 =>
        split at hk
        · next fd e4 =>
          simp only [Bool.and_eq_true] at hk
          have e5 := Nat.eq_of_beq_eq_true hk.1
          have h6 := hk.2
          split at h6
          · next i e6 =>
            have h7 : 0 < i.size := by simpa using h6
            exact R.fieldAddr (sz := i.size - 1) ho e3 e4 e5 (by rw [e6]; simp; omega) e1
          cases h6
        cases hk
      cases hk
    cases h
def runs (z : Bool) (fa : List (Nat × Nat × Nat)) (n : Nat) (ops : List Oper) : Nat → List Oper → Env → Option (List Oper × Env)
  | 0, l, E => some (l, E)
  | _ + 1, [], _ => none
  | k + 1, o :: l, E => match want ops E o.guard with
    | some true => match o.dst, stp fa E o.op with
      | some d, some v => bif Nat.blt d n then runs z fa n ops k l ((d, v) :: E) else none
      | _, _ => none
    | some false => match o.dst with
      | some d => bif Nat.blt d n then runs z fa n ops k l ((d, undef) :: E) else none
      | none => bif z then runs z fa n ops k l E else none
    | none => none
section
variable {n : Nat} {W0 : World} {Q : Exit → Act → World → Prop} {ops l l' : List Oper} {E E' : Env} {H : Heap}
theorem KL.runP {P : Program} {fa : List (Nat × Nat × Nat)} (hfa : fa.all (faB P) = true) : ∀ (k : Nat) (l : List Oper) (E : Env), runs true fa n ops k l E = some (l', E') → KL P n W0 Q ops l' E' H → KL P n W0 Q ops l E H
  | 0, l, E, hr, h => by cases hr; exact h
  | _ + 1, [], E, hr, h => by cases hr
  | k + 1, o :: l, E, hr, h => by
    unfold runs at hr
    split at hr
    · next hg =>
      split at hr
      · next d v e1 e2 =>
        cases hn : Nat.blt d n with
        | false => rw [hn] at hr; cases hr
        | true => rw [hn] at hr; exact KL.op (stp_run hfa e2) e1 hn hg (KL.runP hfa k l _ hr h)
      cases hr
    · next hg =>
      split at hr
      · next d e1 =>
        cases hn : Nat.blt d n with
        | false => rw [hn] at hr; cases hr
        | true => rw [hn] at hr; exact KL.skip e1 hn hg (KL.runP hfa k l _ hr h)
      next e1 => exact KL.skip0 e1 hg (KL.runP hfa k l _ hr h)
    cases hr
theorem KL.run (k : Nat) (hr : runs true fas n ops k l E = some (l', E')) (h : KL Tryz.prog n W0 Q ops l' E' H) : KL Tryz.prog n W0 Q ops l E H := KL.runP fas_ok k l E hr h
theorem KL.fin (k : Nat) (hr : runs true fas n ops k l E = some ([], E')) (h : KQ n W0 Q .normal E' H) : KL Tryz.prog n W0 Q ops l E H := KL.runP fas_ok k l E hr (KL.nil h)
theorem KD.runP {P : Program} {fa : List (Nat × Nat × Nat)} (hfa : fa.all (faB P) = true) : ∀ (k : Nat) (l : List Oper) (E : Env), runs false fa n ops k l E = some (l', E') → KD P n W0 Q ops l' E' H → KD P n W0 Q ops l E H
  | 0, l, E, hr, h => by cases hr; exact h
  | _ + 1, [], E, hr, h => by cases hr
  | k + 1, o :: l, E, hr, h => by
    unfold runs at hr
    split at hr
    · next hg =>
      split at hr
      · next d v e1 e2 =>
        cases hn : Nat.blt d n with
        | false => rw [hn] at hr; cases hr
        | true => rw [hn] at hr; exact KD.op (stp_run hfa e2) e1 hn hg (KD.runP hfa k l _ hr h)
      cases hr
    · next hg =>
      split at hr
      · next d e1 =>
        cases hn : Nat.blt d n with
        | false => rw [hn] at hr; cases hr
        | true => rw [hn] at hr; exact KD.skip e1 hn hg (KD.runP hfa k l _ hr h)
      next e1 => cases hr
    cases hr
theorem KD.run (k : Nat) (hr : runs false fas n ops k l E = some (l', E')) (h : KD Tryz.prog n W0 Q ops l' E' H) : KD Tryz.prog n W0 Q ops l E H := KD.runP fas_ok k l E hr h
theorem KD.fin (k : Nat) (hr : runs false fas n ops k l E = some ([], E')) (h : KQ n W0 Q .normal E' H) : KD Tryz.prog n W0 Q ops l E H := KD.runP fas_ok k l E hr (KD.nil h)
theorem KP.runP {P : Program} {fa : List (Nat × Nat × Nat)} (hfa : fa.all (faB P) = true) {cl : Nat → Nat} {C : Nat → Heap → Prop} : ∀ (k : Nat) (l : List Oper) (E : Env) (i : Nat), runs false fa n ops k l E = some (l', E') → (∀ j, j < k → cl (i + j) = 0) → KP P n W0 Q cl C ops l' (i + k) E' H → KP P n W0 Q cl C ops l i E H
  | 0, l, E, i, hr, hc, h => by cases hr; exact h
  | _ + 1, [], E, i, hr, hc, h => by cases hr
  | k + 1, o :: l, E, i, hr, hc, h => by
    have h : KP P n W0 Q cl C ops l' (i + 1 + k) E' H := by rw [show i + 1 + k = i + (k + 1) by omega]; exact h
    have hc' : ∀ j, j < k → cl (i + 1 + j) = 0 := fun j hj => by rw [show i + 1 + j = i + (j + 1) by omega]; exact hc _ (by omega)
    unfold runs at hr
    split at hr
    · next hg =>
      split at hr
      · next d v e1 e2 =>
        cases hn : Nat.blt d n with
        | false => rw [hn] at hr; cases hr
        | true => rw [hn] at hr; exact KP.op (hc 0 (by omega)) (fun H' _ => stp_run hfa e2) e1 hn hg (KP.runP hfa k l _ _ hr hc' h)
      cases hr
    · next hg =>
      split at hr
      · next d e1 =>
        cases hn : Nat.blt d n with
        | false => rw [hn] at hr; cases hr
        | true => rw [hn] at hr; exact KP.skip e1 hn hg (KP.runP hfa k l _ _ hr hc' h)
      next e1 => cases hr
    cases hr
def clz (cl : Nat → Nat) (i : Nat) : Nat → Bool
  | 0 => true
  | k + 1 => clz cl i k && Nat.beq (cl (i + k)) 0
theorem clz_all {cl : Nat → Nat} {i : Nat} : ∀ {k : Nat}, clz cl i k = true → ∀ j, j < k → cl (i + j) = 0
  | 0, _, j, hj => absurd hj (Nat.not_lt_zero j)
  | k + 1, h, j, hj => by
    simp only [clz, Bool.and_eq_true] at h
    by_cases e : j = k
    · subst e; exact Nat.eq_of_beq_eq_true h.2
    exact clz_all h.1 j (by omega)
theorem KP.run (k : Nat) {cl : Nat → Nat} {C : Nat → Heap → Prop} {i : Nat} (hr : runs false fas n ops k l E = some (l', E')) (hc : clz cl i k = true) (h : KP Tryz.prog n W0 Q cl C ops l' (i + k) E' H) : KP Tryz.prog n W0 Q cl C ops l i E H := KP.runP fas_ok k l E i hr (clz_all hc) h
theorem KP.fin (k : Nat) {cl : Nat → Nat} {C : Nat → Heap → Prop} {i : Nat} (hr : runs false fas n ops k l E = some ([], E')) (hc : clz cl i k = true) (h : KQ n W0 Q .normal E' H) : KP Tryz.prog n W0 Q cl C ops l i E H := KP.runP fas_ok k l E i hr (clz_all hc) (KP.nil h)
end
section
variable {P : Program} {n : Nat} {W0 : World} {Q : Exit → Act → World → Prop} {E : Env} {H : Heap}
theorem KC.sr {id : Nat} {l : List Oper} {y : Code} (h : KL P n W0 (Exit.then (y.wp P Q) Q) l l E H) : KC P n W0 Q (.seq (.region id l.toArray false) y) E H := KC.seq (KC.region h)
theorem KQ.sr {id : Nat} {l : List Oper} {y : Code} (h : KL P n W0 (Exit.then (y.wp P Q) Q) l l E H) : KQ n W0 (Exit.then ((Code.seq (.region id l.toArray false) y).wp P Q) Q) .normal E H := KQ.seq (KC.seq (KC.region h))
theorem KQ.r {id : Nat} {l : List Oper} (h : KL P n W0 Q l l E H) : KQ n W0 (Exit.then ((Code.region id l.toArray false).wp P Q) Q) .normal E H := KQ.seq (KC.region h)
variable {d : Nat} {ops rest : List Oper} {o : Oper} {v : Value}
/-- a load of one cell -/
def ldk (n : Nat) (ops : List Oper) (E : Env) (o : Oper) : Option (Nat × Addr) := match o.op, o.dst, want ops E o.guard with
  | .load T x, some d, some true => bif nags.elem T && Nat.blt d n then (match ev E x with
    | some (.pointer (some p)) => some (d, p)
    | _ => none) else none
  | _, _, _ => none
theorem ldk_run {p : Addr} (hr : ldk n ops E o = some (d, p)) (hc : cellH H p = some v) : Run Tryz.prog E H o v ∧ o.dst = some d ∧ Nat.blt d n = true ∧ want ops E o.guard = some true := by
  unfold ldk at hr
  split at hr
  · next T x d' e1 e2 e3 =>
    cases hb : (nags.elem T && Nat.blt d' n) with
    | false => rw [hb] at hr; cases hr
    | true =>
      rw [hb, cond_true] at hr
      simp only [Bool.and_eq_true] at hb
      split at hr
      · next p' e4 =>
        cases hr
        have hn := List.all_eq_true.1 nags_ok T (by simpa using hb.1)
        unfold nagB at hn
        split at hn
        · next ds e5 => exact ⟨R.load e1 e5 (by simpa using hn) e4 hc, e2, hb.2, e3⟩
        cases hn
      cases hr
  cases hr
theorem KL.ld {p : Addr} (hr : ldk n ops E o = some (d, p)) (hc : cellH H p = some v) (h : KL Tryz.prog n W0 Q ops rest ((d, v) :: E) H) : KL Tryz.prog n W0 Q ops (o :: rest) E H :=
  have q := ldk_run hr hc; KL.op q.1 q.2.1 q.2.2.1 q.2.2.2 h
theorem KD.ld {p : Addr} (hr : ldk n ops E o = some (d, p)) (hc : cellH H p = some v) (h : KD Tryz.prog n W0 Q ops rest ((d, v) :: E) H) : KD Tryz.prog n W0 Q ops (o :: rest) E H :=
  have q := ldk_run hr hc; KD.op q.1 q.2.1 q.2.2.1 q.2.2.2 h
/-- a load of all cells of a struct or an array -/
def ldaK (n : Nat) (ops : List Oper) (E : Env) (o : Oper) : Option (Nat × Addr × Nat) := match o.op, o.dst, want ops E o.guard with
  | .load T x, some d, some true => bif Nat.blt d n then (match ev E x, look1 aggs T with
    | some (.pointer (some p)), some m => some (d, p, m)
    | _, _ => none) else none
  | _, _, _ => none
theorem ldaK_run {p : Addr} {m : Nat} {cs : List Value} (hr : ldaK n ops E o = some (d, p, m)) (hc : CellsH H p cs) (hm : cs.length = m) : Run Tryz.prog E H o (.agg cs.toArray) ∧ o.dst = some d ∧ Nat.blt d n = true ∧ want ops E o.guard = some true := by
  unfold ldaK at hr
  split at hr
  · next T x d' e1 e2 e3 =>
    cases hb : Nat.blt d' n with
    | false => rw [hb] at hr; cases hr
    | true =>
      rw [hb, cond_true] at hr
      split at hr
      · next p' m' e4 e5 =>
        cases hr
        obtain ⟨ds, e6, e7, e8⟩ := agg_of e5
        exact ⟨R.loadAgg e1 e6 e7 e8 e4 hc hm, e2, hb, e3⟩
      cases hr
  cases hr
theorem KL.lda {p : Addr} {m : Nat} {cs : List Value} (hr : ldaK n ops E o = some (d, p, m)) (hc : CellsH H p cs) (hm : cs.length = m) (h : KL Tryz.prog n W0 Q ops rest ((d, .agg cs.toArray) :: E) H) : KL Tryz.prog n W0 Q ops (o :: rest) E H :=
  have q := ldaK_run hr hc hm; KL.op q.1 q.2.1 q.2.2.1 q.2.2.2 h
theorem KL.q (hr : Run P E H o v) (hc : (o.dst, Nat.blt d n, want ops E o.guard) = (some d, true, some true)) (h : KL P n W0 Q ops rest ((d, v) :: E) H) : KL P n W0 Q ops (o :: rest) E H :=
  KL.op hr (congrArg (·.1) hc) (congrArg (·.2.1) hc) (congrArg (·.2.2) hc) h
theorem KL.e0 {T T' : TypeId} {x y : Operand} {k : IntKind} {a b : Int} (hc : (o.op, ev E x, ev E y, o.dst, Nat.blt d n, want ops E o.guard) = (.binOp .eql T x y T', some (.int k a), some (.int k b), some d, true, some true)) (hne : ¬ a = b) (h : KL P n W0 Q ops rest ((d, .bool false) :: E) H) : KL P n W0 Q ops (o :: rest) E H :=
  KL.op ((R.eql (congrArg (·.1) hc) (congrArg (·.2.1) hc) (congrArg (·.2.2.1) hc)).val (congrArg Value.bool (decide_eq_false hne))) (congrArg (·.2.2.2.1) hc) (congrArg (·.2.2.2.2.1) hc) (congrArg (·.2.2.2.2.2) hc) h
theorem KL.e1 {T T' : TypeId} {x y : Operand} {k : IntKind} {a b : Int} (hc : (o.op, ev E x, ev E y, o.dst, Nat.blt d n, want ops E o.guard) = (.binOp .eql T x y T', some (.int k a), some (.int k b), some d, true, some true)) (hne : a = b) (h : KL P n W0 Q ops rest ((d, .bool true) :: E) H) : KL P n W0 Q ops (o :: rest) E H :=
  KL.op ((R.eql (congrArg (·.1) hc) (congrArg (·.2.1) hc) (congrArg (·.2.2.1) hc)).val (congrArg Value.bool (decide_eq_true hne))) (congrArg (·.2.2.2.1) hc) (congrArg (·.2.2.2.2.1) hc) (congrArg (·.2.2.2.2.2) hc) h
/-! ### structs built, calls, questions, what is kept -/
def offsP (pl : List (Nat × Nat)) : List (Nat × Operand) → Option (List (Nat × Operand))
  | [] => some []
  | (i, x) :: l => match nth pl i, offsP pl l with
    | some (o, s), some r => bif Nat.beq s 1 then some ((o, x) :: r) else none
    | _, _ => none
def AllOne : List Value → Prop
  | [] => True
  | v :: l => v.cells = #[v] ∧ AllOne l
def oneB : Value → Bool
  | .int _ _ | .bool _ | .string _ | .pointer _ | .slice _ _ _ => true
  | _ => false
theorem allOne_of : ∀ {l : List Value}, l.all oneB = true → AllOne l
  | [], _ => trivial
  | v :: l, h => by
    simp only [List.all_cons, Bool.and_eq_true] at h
    exact ⟨by have h1 := h.1; cases v <;> first | rfl | (simp [oneB] at h1), allOne_of h.2⟩
def bdk (n : Nat) (ops : List Oper) (E : Env) (o : Oper) (T : Nat) (zs : List Value) (pl : List (Nat × Nat)) : Option (Nat × List Value × List Value) := match o.op, o.dst, want ops E o.guard with
  | .build T' parts, some d, some true => match offsP pl parts.toList with
    | some offs => bif Nat.beq T T' && Nat.blt d n && apartB offs && (offs.all fun p => Nat.blt p.1 zs.length) then (match buildL E zs 0 offs, evs E (parts.toList.map (·.2)) with
      | some us, some vs => some (d, us, vs)
      | _, _ => none) else none
    | none => none
  | _, _, _ => none
theorem bdk_run {P : Program} {T : Nat} {zs us vs : List Value} {pl : List (Nat × Nat)} (hb : Bt P T zs pl) (hr : bdk n ops E o T zs pl = some (d, us, vs)) (h1 : AllOne vs) : Run P E H o (.agg us.toArray) ∧ o.dst = some d ∧ Nat.blt d n = true ∧ want ops E o.guard = some true := by
  obtain ⟨fields, f1, f2, f3, f4⟩ := hb
  unfold bdk at hr
  split at hr
  · next T' parts d' e1 e2 e3 =>
    split at hr
    · next offs e4 =>
      cases hq : (Nat.beq T T' && Nat.blt d' n && apartB offs && (offs.all fun p => Nat.blt p.1 zs.length)) with
      | false => rw [hq] at hr; cases hr
      | true =>
        rw [hq, cond_true] at hr
        simp only [Bool.and_eq_true] at hq
        obtain ⟨⟨⟨q1, q2⟩, q3⟩, q4⟩ := hq
        have q1 := Nat.eq_of_beq_eq_true q1
        subst q1
        split at hr
        · next us' vs' e5 e6 =>
          cases hr
          have key : ∀ (l : List (Nat × Operand)) (r : List (Nat × Operand)) (vs : List Value), offsP pl l = some r → evs E (l.map (·.2)) = some vs → AllOne vs → offsOf fields.toList l = some r ∧ szOk pl fields.toList l ∧ OneAll E l := by
            intro l
            induction l with
            | nil => intro r vs h _ _; exact ⟨h, trivial, trivial⟩
            | cons p l ih =>
              obtain ⟨i, x⟩ := p
              intro r vs h2 h3 h4
              simp only [offsP] at h2
              simp only [List.map_cons, evs] at h3
              split at h2
              · next off sz r' g1 g2 =>
                cases hs : Nat.beq sz 1 with
                | false => rw [hs] at h2; cases h2
                | true =>
                  rw [hs, cond_true] at h2
                  cases h2
                  have hs := Nat.eq_of_beq_eq_true hs
                  subst hs
                  split at h3
                  · next v vs' g3 g4 =>
                    cases h3
                    obtain ⟨k1, k2, k3⟩ := ih _ _ g2 g4 h4.2
                    have hf : ∃ fd, nth fields.toList i = some fd ∧ fd.offset = off := by
                      have hm := congrArg (fun l => l[i]?) f4
                      simp only [List.getElem?_map] at hm
                      rw [nth_eq] at g1
                      rw [g1] at hm
                      cases hn : fields.toList[i]? with
                      | none => rw [hn] at hm; simp at hm
                      | some fd =>
                        rw [hn] at hm
                        simp only [Option.map_some, Option.some.injEq] at hm
                        exact ⟨fd, by rw [nth_eq]; exact hn, hm⟩
                    obtain ⟨fd, hf1, hf2⟩ := hf
                    refine ⟨by simp only [offsOf, hf1, k1]; rw [hf2], ⟨⟨fd, hf1, by rw [g1, hf2]⟩, k2⟩, ⟨⟨v, g3, h4.1⟩, k3⟩⟩
                  cases h3
              cases h2
          obtain ⟨k1, k2, k3⟩ := key _ _ _ e4 e6 h1
          exact ⟨R.buildL e1 f1 f2 pl f3 k1 k2 q3 q4 k3 e5, e2, q2, e3⟩
        cases hr
    cases hr
  cases hr
theorem KL.bd {P : Program} {T : Nat} {zs us vs : List Value} {pl : List (Nat × Nat)} (hb : Bt P T zs pl) (hr : bdk n ops E o T zs pl = some (d, us, vs)) (h1 : AllOne vs) (h : KL P n W0 Q ops rest ((d, .agg us.toArray) :: E) H) : KL P n W0 Q ops (o :: rest) E H :=
  have q := bdk_run hb hr h1; KL.op q.1 q.2.1 q.2.2.1 q.2.2.2 h
theorem KL.b0 {P : Program} {T : Nat} {zs us vs : List Value} {pl : List (Nat × Nat)} (hb : Bt P T zs pl) (hr : bdk n ops E o T zs pl = some (d, us, vs)) (h1 : vs.all oneB = true) (h : KL P n W0 Q ops rest ((d, .agg us.toArray) :: E) H) : KL P n W0 Q ops (o :: rest) E H :=
  KL.bd hb hr (allOne_of h1) h
/-- a call's function and arguments -/
def clk (n : Nat) (ops : List Oper) (E : Env) (o : Oper) : Option (Nat × FuncId × List Value) := match o.op, o.dst, want ops E o.guard with
  | .call { callee := .value fo, args := xs, argTypes := _ }, some d, some true => match ev E fo, evs E xs.toList with
    | some (.func (.func f) first cap), some vs => bif Nat.blt d n then some (d, f, first.toList ++ vs ++ cap.toList) else none
    | _, _ => none
  | _, _, _ => none
theorem KL.c {f : FuncId} {args : List Value} {R : Value → Heap → Prop} (hr : clk n ops E o = some (d, f, args)) (he : Enters P f) (hc : Ct P f args H R) (h : ∀ v H', R v H' → KL P n W0 Q ops rest ((d, v) :: E) H') : KL P n W0 Q ops (o :: rest) E H := by
  unfold clk at hr
  split at hr
  · next fo xs ts d' e1 e2 e3 =>
    split at hr
    · next f' first cap vs e4 e5 =>
      cases hn : Nat.blt d' n with
      | false => rw [hn] at hr; cases hr
      | true => rw [hn, cond_true] at hr; cases hr; exact KL.call e1 e4 e5 rfl he e2 hn e3 hc h
    cases hr
  cases hr
theorem KL.m {R : Value → Heap → Prop} (hr : RunM P E H o R) (hc : (o.dst, Nat.blt d n, want ops E o.guard) = (some d, true, some true)) (h : ∀ v H', R v H' → KL P n W0 Q ops rest ((d, v) :: E) H') : KL P n W0 Q ops (o :: rest) E H :=
  KL.opM hr (congrArg (·.1) hc) (congrArg (·.2.1) hc) (congrArg (·.2.2) hc) h
/-- what a Bool's being true, being false, says -/
class Nf (b : Bool) (t f : outParam Prop) : Prop where
  t : b = true → t
  f : b = false → f
instance (priority := low) (b : Bool) : Nf b (b = true) (b = false) := ⟨id, id⟩
instance (p : Prop) [Decidable p] : Nf (decide p) p (¬ p) := ⟨of_decide_eq_true, of_decide_eq_false⟩
instance (b : Bool) (t f : Prop) [h : Nf b t f] : Nf (!b) f t := ⟨fun e => h.f (by simpa using e), fun e => h.t (by simpa using e)⟩
instance (a b : Bool) (t f t' f' : Prop) [h : Nf a t f] [k : Nf b t' f'] : Nf (a && b) (t ∧ t') ((a && b) = false) := ⟨fun e => by simp only [Bool.and_eq_true] at e; exact ⟨h.t e.1, k.t e.2⟩, id⟩
instance (a b : Bool) (t f t' f' : Prop) [h : Nf a t f] [k : Nf b t' f'] : Nf (a || b) ((a || b) = true) (f ∧ f') := ⟨id, fun e => by simp only [Bool.or_eq_false_iff] at e; exact ⟨h.f e.1, k.f e.2⟩⟩
theorem KC.iq {x y : Code} {b : Bool} {t f : Prop} [k : Nf b t f] (hc : get E d = some (.bool b)) (ht : t → KC P n W0 Q x ((d, .bool true) :: E) H) (hf : f → KC P n W0 Q y ((d, .bool false) :: E) H) : KC P n W0 Q (.cond (.tmp d) x y) E H :=
  KC.iteL hc (fun h => ht (k.t h)) (fun h => hf (k.f h))
theorem KL.cq (d : Nat) {b : Bool} {t f : Prop} (hget : get E d = some (.bool b)) [k : Nf b t f] (ht : t → KL P n W0 Q ops rest ((d, .bool true) :: E) H) (hf : f → KL P n W0 Q ops rest ((d, .bool false) :: E) H) : KL P n W0 Q ops rest E H :=
  KL.case hget (fun h => ht (k.t h)) (fun h => hf (k.f h))
theorem KD.cq (d : Nat) {b : Bool} {t f : Prop} (hget : get E d = some (.bool b)) [k : Nf b t f] (ht : t → KD P n W0 Q ops rest ((d, .bool true) :: E) H) (hf : f → KD P n W0 Q ops rest ((d, .bool false) :: E) H) : KD P n W0 Q ops rest E H :=
  KD.case hget (fun h => ht (k.t h)) (fun h => hf (k.f h))
/-- the slots that count, each once -/
def uniq : List Nat → Env → Env
  | _, [] => []
  | seen, (d, v) :: E => bif seen.elem d then uniq seen E else (d, v) :: uniq (d :: seen) E
theorem get_uniq {seen : List Nat} {E : Env} {t : Nat} (h : seen.elem t = false) : get (uniq seen E) t = get E t := by
  induction E generalizing seen with
  | nil => rfl
  | cons p E ih =>
    obtain ⟨d, v⟩ := p
    simp only [uniq, get]
    cases hb : Nat.beq d t with
    | true =>
      have e := Nat.eq_of_beq_eq_true hb; subst e
      rw [h]; simp [get]
    | false =>
      cases hs : seen.elem d with
      | true => simp only [cond_true, cond_false]; exact ih h
      | false =>
        simp only [cond_false, get, hb]
        refine ih ?_
        have hne : t ≠ d := fun e => by rw [e, Nat.beq_refl] at hb; cases hb
        have hb' : (t == d) = false := beq_eq_false_iff_ne.2 hne
        rw [List.elem_cons, hb', h]
theorem Sub.all {L E : Env} (h : (uniq [] L).map (fun p => get E p.1) = (uniq [] L).map (fun p => some p.2)) : Sub L E := by
  have key : ∀ U : Env, U.map (fun p => get E p.1) = U.map (fun p => some p.2) → ∀ t v, get U t = some v → get E t = some v := by
    intro U
    induction U with
    | nil => intro _ t v h; cases h
    | cons p U ih =>
      obtain ⟨d, u⟩ := p
      intro hU t v ht
      simp only [List.map_cons, List.cons.injEq] at hU
      simp only [get] at ht
      cases hb : Nat.beq d t with
      | true => have e := Nat.eq_of_beq_eq_true hb; subst e; rw [hb] at ht; simp at ht; subst ht; exact hU.1
      | false => rw [hb] at ht; exact ih hU.2 t v ht
  intro t v ht
  exact key _ h t v (by rw [get_uniq rfl]; exact ht)
end
theorem sd : (∀ (p : Prop) [Decidable p], (decide p = true) = p) ∧ (∀ (p : Prop) [Decidable p], (decide p = false) ↔ ¬ p) ∧ (∀ b : Bool, ((!b) = true) = (b = false)) ∧ (∀ b : Bool, ((!b) = false) = (b = true)) ∧ (∀ a b : Bool, ((a && b) = true) = (a = true ∧ b = true)) ∧ (∀ a b : Bool, (a || b) = false ↔ a = false ∧ b = false) :=
  ⟨fun _ _ => decide_eq_true_eq, fun _ _ => decide_eq_false_iff_not, fun b => by simp, fun b => by simp, fun a b => by simp, fun a b => by simp⟩
/-- the library's two tables, as they are laid -/
structure TabU (H : Heap) : Prop where
  first : ∀ c : Nat, c < 256 → cellH H ⟨0, c, none⟩ = some (.int .u8 (Lib.firstT c : Nat))
  lo : ∀ i : Nat, i < 16 → cellH H ⟨1, i * 2, none⟩ = some (.int .u8 (Lib.accLo i : Nat))
  hi : ∀ i : Nat, i < 16 → cellH H ⟨1, i * 2 + 1, none⟩ = some (.int .u8 (Lib.accHi i : Nat))
theorem TabU.old {H H' : Heap} (h : TabU H) (o : Old H H') : TabU H' := ⟨fun c hc => o.cell (h.first c hc), fun i hi => o.cell (h.lo i hi), fun i hi => o.cell (h.hi i hi)⟩
theorem TabU.at {H : Heap} (h : TabU H) {c : Int} (r : InR .u8 c) : cellH H ((⟨0, 0, none⟩ : Addr).add (c.toNat * 1)) = some (.int .u8 (Utf.ft c : Nat)) := by
  dsimp only [InR] at r
  rw [add1, Nat.zero_add]; exact h.first _ (by omega)
theorem TabU.acc {H : Heap} (h : TabU H) {c : Int} (hc : Utf.ft c / 16 < 16) : CellsH H ((⟨1, 0, none⟩ : Addr).add (Utf.ft c / 16 * 2)) [.int .u8 (Utf.lo c), .int .u8 (Utf.hi c)] := by
  have e : ∀ k, (⟨1, 0, none⟩ : Addr).add k = ⟨1, k, none⟩ := fun k => by unfold Addr.add; split <;> simp_all
  have e2 : ∀ j k, (⟨1, j, none⟩ : Addr).add k = ⟨1, j + k, none⟩ := fun j k => by unfold Addr.add; split <;> simp_all
  intro i v hv
  rw [e, e2]
  match i, hv with
  | 0, hv => cases hv; exact h.lo _ hc
  | 1, hv => cases hv; exact h.hi _ hc
theorem word_any {H : Heap} (v : Value) (l : List Int) (hs : Sl 1 (EInt .u8) H v l) (h8 : 8 ≤ l.length) : Ct Tryz.prog 120 [v] H (fun u H' => u = .int .u64 (Utf.wd8 l) ∧ H = H') := by
  refine Ct.mk Tryz.func120 rfl Tryz.ntmps120 rfl ?_
  intro W0 hW0
  have o0 : Old H H := Old.refl H
  have q0 := (hs.int 0 (by omega)).2
  have q1 := (hs.int 1 (by omega)).2
  have q2 := (hs.int 2 (by omega)).2
  have q3 := (hs.int 3 (by omega)).2
  have q4 := (hs.int 4 (by omega)).2
  have q5 := (hs.int 5 (by omega)).2
  have q6 := (hs.int 6 (by omega)).2
  have q7 := (hs.int 7 (by omega)).2
  have p0 := q0
  dsimp only [InR] at p0
  have p1 := q1
  dsimp only [InR] at p1
  have p2 := q2
  dsimp only [InR] at p2
  have p3 := q3
  dsimp only [InR] at p3
  have p4 := q4
  dsimp only [InR] at p4
  have p5 := q5
  dsimp only [InR] at p5
  have p6 := q6
  dsimp only [InR] at p6
  have p7 := q7
  dsimp only [InR] at p7
  refine KC.sr (KL.fin 1 rfl (KQ.seq (KC.seq (KC.condF rfl (KC.skip (KQ.seq (KC.seq (KC.quiet (by kernel_rfl) (by kernel_rfl) (KD.run 1 rfl ?_)))))))))
  refine KD.op (R.index1 (j := 0) rfl U34 sz5 rfl rfl hs rfl (by omega)) rfl rfl rfl ?_
  refine KD.ld rfl ((hs.int 0 (by omega)).1) ?_
  refine KD.op (R.convI rfl U5 U95 rfl (by dsimp only [InR]; omega)) rfl rfl rfl ?_
  refine KD.run 1 rfl ?_
  refine KD.op (R.index1 (j := 1) rfl U34 sz5 rfl rfl hs rfl (by omega)) rfl rfl rfl ?_
  refine KD.ld rfl ((hs.int 1 (by omega)).1) ?_
  refine KD.op (R.convI rfl U5 U95 rfl (by dsimp only [InR]; omega)) rfl rfl rfl ?_
  refine KD.op (R.shl rfl rfl rfl (by omega)) rfl rfl rfl ?_
  refine KD.op (R.bits rfl rfl rfl rfl) rfl rfl rfl (KD.run 1 rfl ?_)
  refine KD.op (R.index1 (j := 2) rfl U34 sz5 rfl rfl hs rfl (by omega)) rfl rfl rfl ?_
  refine KD.ld rfl ((hs.int 2 (by omega)).1) ?_
  refine KD.op (R.convI rfl U5 U95 rfl (by dsimp only [InR]; omega)) rfl rfl rfl ?_
  refine KD.op (R.shl rfl rfl rfl (by omega)) rfl rfl rfl ?_
  refine KD.op (R.bits rfl rfl rfl rfl) rfl rfl rfl (KD.run 1 rfl ?_)
  refine KD.op (R.index1 (j := 3) rfl U34 sz5 rfl rfl hs rfl (by omega)) rfl rfl rfl ?_
  refine KD.ld rfl ((hs.int 3 (by omega)).1) ?_
  refine KD.op (R.convI rfl U5 U95 rfl (by dsimp only [InR]; omega)) rfl rfl rfl ?_
  refine KD.op (R.shl rfl rfl rfl (by omega)) rfl rfl rfl ?_
  refine KD.op (R.bits rfl rfl rfl rfl) rfl rfl rfl (KD.run 1 rfl ?_)
  refine KD.op (R.index1 (j := 4) rfl U34 sz5 rfl rfl hs rfl (by omega)) rfl rfl rfl ?_
  refine KD.ld rfl ((hs.int 4 (by omega)).1) ?_
  refine KD.op (R.convI rfl U5 U95 rfl (by dsimp only [InR]; omega)) rfl rfl rfl ?_
  refine KD.op (R.shl rfl rfl rfl (by omega)) rfl rfl rfl ?_
  refine KD.op (R.bits rfl rfl rfl rfl) rfl rfl rfl (KD.run 1 rfl ?_)
  refine KD.op (R.index1 (j := 5) rfl U34 sz5 rfl rfl hs rfl (by omega)) rfl rfl rfl ?_
  refine KD.ld rfl ((hs.int 5 (by omega)).1) ?_
  refine KD.op (R.convI rfl U5 U95 rfl (by dsimp only [InR]; omega)) rfl rfl rfl ?_
  refine KD.op (R.shl rfl rfl rfl (by omega)) rfl rfl rfl ?_
  refine KD.op (R.bits rfl rfl rfl rfl) rfl rfl rfl (KD.run 1 rfl ?_)
  refine KD.op (R.index1 (j := 6) rfl U34 sz5 rfl rfl hs rfl (by omega)) rfl rfl rfl ?_
  refine KD.ld rfl ((hs.int 6 (by omega)).1) ?_
  refine KD.op (R.convI rfl U5 U95 rfl (by dsimp only [InR]; omega)) rfl rfl rfl ?_
  refine KD.op (R.shl rfl rfl rfl (by omega)) rfl rfl rfl ?_
  refine KD.op (R.bits rfl rfl rfl rfl) rfl rfl rfl (KD.run 1 rfl ?_)
  refine KD.op (R.index1 (j := 7) rfl U34 sz5 rfl rfl hs rfl (by omega)) rfl rfl rfl ?_
  refine KD.ld rfl ((hs.int 7 (by omega)).1) ?_
  refine KD.op (R.convI rfl U5 U95 rfl (by dsimp only [InR]; omega)) rfl rfl rfl ?_
  refine KD.op (R.shl rfl rfl rfl (by omega)) rfl rfl rfl ?_
  refine KD.op ((R.bits rfl rfl rfl rfl).val (congrArg (Value.int .u64) ((Utf.word_or q0 q1 q2 q3 q4 q5 q6 q7).trans (Utf.wd8_eq l).symm))) rfl rfl rfl (KD.fin 1 rfl (KQ.seq (KC.ret (KQ.ofRet (KQ.fin1 Tryz.results120 rfl ?_)))))
  exact ⟨rfl, rfl⟩
namespace Utf
theorem asc16 {l : List Int} (h : ∀ i, i < 8 → l.getD i default < 128) (k : ∀ i, i < 8 → (l.drop 8).getD i default < 128) : ∀ i, i < 16 → l.getD i default < 128 := by
  intro i hi
  by_cases h8 : i < 8
  · exact h i h8
  have := k (i - 8) (by omega)
  rw [getD_drop, show 8 + (i - 8) = i by omega] at this; exact this
theorem asc32 {l : List Int} (h : ∀ i, i < 8 → l.getD i default < 128) (k : ∀ i, i < 8 → (l.drop 8).getD i default < 128) (p : ∀ i, i < 8 → (l.drop 16).getD i default < 128) (q : ∀ i, i < 8 → (l.drop 24).getD i default < 128) : ∀ i, i < 32 → l.getD i default < 128 := by
  intro i hi
  by_cases h16 : i < 16
  · exact asc16 h k i h16
  by_cases h24 : i < 24
  · have := p (i - 16) (by omega)
    rw [getD_drop, show 16 + (i - 16) = i by omega] at this; exact this
  have := q (i - 24) (by omega)
  rw [getD_drop, show 24 + (i - 24) = i by omega] at this; exact this
end Utf
theorem utf8Valid_any {H : Heap} (v : Value) (l : List Int) (hs : Sl 1 (EInt .u8) H v l) (hT : TabU H) : Ct Tryz.prog 115 [v] H (fun u H' => u = .bool (Utf.valid l) ∧ Old H H') := by
  refine Ct.mk Tryz.func115 rfl Tryz.ntmps115 rfl ?_
  intro W0 hW0
  have o0 : Old H H := Old.refl H
  refine KC.sr (KL.fin 1 rfl (KQ.sr (KL.run 2 rfl ?_)))
  refine KL.q (by exact R.lenS rfl U34 rfl hs) rfl ?_
  refine KL.run 1 rfl ?_
  refine KL.q (by exact R.lenS rfl U34 rfl hs) rfl ?_
  refine KL.q (R.slice3 rfl U34 sz5 rfl hs bnd.no rfl rfl rfl rfl (Nat.zero_le _) (Nat.le_refl _)) rfl ?_
  have s0 : Sl 1 (EInt .u8) H (sub3 1 v 0 l.length l.length) l := by
    have := hs.sub3 (lo := 0) (hi := l.length) (by omega) (by omega)
    simpa using this
  refine KL.fin 1 rfl (KQ.seq (KC.seq (KC.block ?_)))
  refine KC.loopD (κ := Value × List Int) [13, 14, 15, 16, 17, 18, 3, 19, 20, 21, 22, 0, 23, 24, 25, 26, 27, 28, 29, 30, 31, 32, 33, 34, 35, 36, 37, 38, 39, 40, 41, 42, 43, 44, 45, 46, 47, 48, 49, 50, 51, 52, 53, 54, 55, 56, 57, 58, 59, 60, 61, 62, 63, 64, 65, 66, 67, 68, 69, 70, 71, 72, 73, 74, 4, 75, 76, 77, 5, 78, 79, 80, 81, 6, 82, 84, 83, 85, 86, 87, 88, 89, 90, 91, 92, 93, 94, 95, 96, 97, 98, 99, 100, 101, 102, 103, 2, 104, 105, 107, 106, 108, 109, 110, 111, 112, 113, 114, 115, 116, 117, 118, 119, 120, 121, 122, 123, 124, 125, 126, 127, 128, 129, 130, 131, 132, 133, 134, 135, 136, 137, 138, 139, 140, 142, 141, 143, 144, 145, 146, 147, 148, 149, 150, 151, 152, 153, 154, 155, 156, 157, 158, 159, 160, 161, 162, 163, 164, 165, 166, 167, 168, 169, 170, 171, 172, 173, 174, 175, 176, 177, 178, 179, 180, 181, 182, 183, 184, 185, 186, 187] (fun k => [(0, k.1)]) (fun k Hl => Sl 1 (EInt .u8) Hl k.1 k.2 ∧ Utf.valid k.2 = Utf.valid l ∧ k.2.length ≤ l.length ∧ Old H Hl) (fun k => k.2.length) (sub3 1 v 0 l.length l.length, l) ?_ ?_ ?_
  · exact Sub.all rfl
  · exact ⟨s0, rfl, Nat.le_refl _, o0⟩
  rintro ⟨va, m⟩ H1 ⟨sa, hv, hle, o0⟩
  have zl_H1 := o0.1
  dsimp only at sa hv hle
  have hTa := hT.old o0
  have sa0 := sa
  have ox : Old H1 H1 := Old.refl _
  refine KC.seq (KC.sr (KL.run 1 rfl ?_))
  refine KL.q (by exact R.lenS rfl U34 rfl sa) rfl ?_
  refine KL.fin 1 rfl (KQ.seq ?_)
  refine KC.iq rfl ?_ ?_
  · intro hc15
    try dsimp only at hc15
    refine KC.skip (KQ.seq (KC.block (KC.sr (KL.run 1 rfl ?_))))
    refine KL.q (R.index1 (j := 0) rfl U34 sz5 rfl rfl sa rfl (by omega)) rfl ?_
    refine KL.ld rfl ((sa.int 0 (by omega)).1) ?_
    refine KL.fin 1 rfl (KQ.seq (KC.seq (KC.sr (KL.fin 2 rfl (KQ.seq ?_)))))
    refine KC.iq rfl ?_ ?_
    · intro hc20
      try dsimp only at hc20
      have q0 := (sa.int 0 (by omega)).2
      refine KC.sr (KL.run 1 rfl ?_)
      refine KL.q (R.slice rfl U34 sz5 rfl sa (bnd.mk (r := 1) rfl rfl) bnd.no (by omega) (Nat.le_refl _)) rfl ?_
      have s1 : Sl 1 (EInt .u8) H1 (subV 1 (va) 1 (m).length) ((m).drop 1) := sa.tail (by omega)
      have vs1 : Utf.valid ((m).drop 1) = Utf.valid l := (Utf.ok1 (by omega) hc20).trans hv
      have sn := s1
      have vn := vs1
      refine KL.fin 1 rfl (KQ.seq (KC.seq (KC.sr (KL.run 1 rfl ?_))))
      refine KL.q (by exact R.lenS rfl U34 rfl s1) rfl ?_
      refine KL.run 2 rfl ?_
      refine KL.cq 26 rfl ?_ ?_
      · intro hg26
        try dsimp only at hg26
        refine KL.run 1 rfl ?_
        refine KL.c rfl K120 (word_any _ _ s1 (by omega)) ?_
        rintro _ _ ⟨rfl, rfl⟩
        refine KL.q (R.bits rfl rfl rfl rfl) rfl (KL.fin 2 rfl (KQ.seq ?_))
        refine KC.iq rfl ?_ ?_
        · intro hc31
          try dsimp only at hc31
          have a1 := Utf.asc1 (s1.r8 (by omega)) (by assumption)
          refine KC.sr (KL.run 1 rfl ?_)
          refine KL.q (R.slice rfl U34 sz5 rfl s1 (bnd.mk (r := 8) rfl rfl) bnd.no (by omega) (Nat.le_refl _)) rfl ?_
          have s2 : Sl 1 (EInt .u8) H1 (subV 1 (subV 1 (va) 1 (m).length) 8 ((m).drop 1).length) (((m).drop 1).drop 8) := s1.tail (by omega)
          have vs2 : Utf.valid (((m).drop 1).drop 8) = Utf.valid l := (Utf.okAsc (by omega) a1).trans vs1
          have sn := s2
          have vn := vs2
          refine KL.fin 1 rfl (KQ.seq (KC.seq (KC.quiet (by kernel_rfl) (by kernel_rfl) (KD.run 1 rfl ?_))))
          refine KD.op (by exact R.lenS rfl U34 rfl s2) rfl rfl rfl ?_
          refine KD.run 2 rfl ?_
          refine KD.cq 37 rfl ?_ ?_
          · intro hg37
            try dsimp only at hg37
            refine KD.run 1 rfl ?_
            refine KD.call rfl rfl rfl rfl K120 rfl rfl rfl (word_any _ _ s2 (by omega)) ?_
            refine KD.run 1 rfl ?_
            refine KD.op (R.slice rfl U34 sz5 rfl s2 (bnd.mk (r := 8) rfl rfl) bnd.no (by omega) (Nat.le_refl _)) rfl rfl rfl ?_
            have s2b : Sl 1 (EInt .u8) H1 (subV 1 (subV 1 (subV 1 (va) 1 (m).length) 8 ((m).drop 1).length) 8 (((m).drop 1).drop 8).length) ((((m).drop 1).drop 8).drop 8) := s2.tail (by omega)
            refine KD.call rfl rfl rfl rfl K120 rfl rfl rfl (word_any _ _ s2b (by (simp only [List.length_drop] at *; omega))) ?_
            refine KD.op (R.bits rfl rfl rfl rfl) rfl rfl rfl (KD.op (R.bits rfl rfl rfl rfl) rfl rfl rfl (KD.fin 2 rfl (KQ.seq ?_)))
            refine KC.iq rfl ?_ ?_
            · intro hc46
              try dsimp only at hc46
              have a2 := Utf.asc2 (s2.r8 (by omega)) (s2b.r8 (by (simp only [List.length_drop] at *; omega))) (by assumption)
              refine KC.sr (KL.run 1 rfl ?_)
              refine KL.q (R.slice rfl U34 sz5 rfl s2 (bnd.mk (r := 16) rfl rfl) bnd.no (by omega) (Nat.le_refl _)) rfl ?_
              have s3 : Sl 1 (EInt .u8) H1 (subV 1 (subV 1 (subV 1 (va) 1 (m).length) 8 ((m).drop 1).length) 16 (((m).drop 1).drop 8).length) ((((m).drop 1).drop 8).drop 16) := s2.tail (by omega)
              have vs3 : Utf.valid ((((m).drop 1).drop 8).drop 16) = Utf.valid l := (Utf.okAsc (by omega) (Utf.asc16 a2.1 a2.2)).trans vs2
              have sn := s3
              have vn := vs3
              refine KL.fin 1 rfl (KQ.seq (KC.block ?_))
              refine KC.loopD (κ := Value × List Int) [49, 50, 51, 52, 53, 54, 55, 56, 57, 58, 59, 60, 61, 62, 63, 64, 65, 66, 67, 68, 69, 70, 71, 0] (fun k => [(0, k.1)]) (fun k Hl => H1 = Hl ∧ Sl 1 (EInt .u8) Hl k.1 k.2 ∧ Utf.valid k.2 = Utf.valid l ∧ k.2.length < m.length) (fun k => k.2.length) (subV 1 (subV 1 (subV 1 (va) 1 (m).length) 8 ((m).drop 1).length) 16 (((m).drop 1).drop 8).length, (((m).drop 1).drop 8).drop 16) ?_ ?_ ?_
              · exact Sub.all rfl
              · exact ⟨rfl, sn, vn, (by (simp only [List.length_drop] at *; omega))⟩
              rintro ⟨vb, mb⟩ H2 ⟨rfl, sb, hvb, hlb⟩
              dsimp only at sb hvb hlb
              have sn := sb
              have vn := hvb
              refine KC.seq (KC.seq (KC.quiet (by kernel_rfl) (by kernel_rfl) (KD.run 1 rfl ?_)))
              refine KD.op (by exact R.lenS rfl U34 rfl sb) rfl rfl rfl ?_
              refine KD.run 2 rfl ?_
              refine KD.cq 52 rfl ?_ ?_
              · intro hg52
                try dsimp only at hg52
                refine KD.run 1 rfl ?_
                refine KD.call rfl rfl rfl rfl K120 rfl rfl rfl (word_any _ _ sb (by omega)) ?_
                refine KD.run 1 rfl ?_
                refine KD.op (R.slice rfl U34 sz5 rfl sb (bnd.mk (r := 8) rfl rfl) bnd.no (by omega) (Nat.le_refl _)) rfl rfl rfl ?_
                have sb1 : Sl 1 (EInt .u8) H1 (subV 1 (vb) 8 (mb).length) ((mb).drop 8) := sb.tail (by omega)
                refine KD.call rfl rfl rfl rfl K120 rfl rfl rfl (word_any _ _ sb1 (by (simp only [List.length_drop] at *; omega))) ?_
                refine KD.op (R.bits rfl rfl rfl rfl) rfl rfl rfl (KD.run 1 rfl ?_)
                refine KD.op (R.slice rfl U34 sz5 rfl sb (bnd.mk (r := 16) rfl rfl) bnd.no (by omega) (Nat.le_refl _)) rfl rfl rfl ?_
                have sb2 : Sl 1 (EInt .u8) H1 (subV 1 (vb) 16 (mb).length) ((mb).drop 16) := sb.tail (by omega)
                refine KD.call rfl rfl rfl rfl K120 rfl rfl rfl (word_any _ _ sb2 (by (simp only [List.length_drop] at *; omega))) ?_
                refine KD.run 1 rfl ?_
                refine KD.op (R.slice rfl U34 sz5 rfl sb (bnd.mk (r := 24) rfl rfl) bnd.no (by omega) (Nat.le_refl _)) rfl rfl rfl ?_
                have sb3 : Sl 1 (EInt .u8) H1 (subV 1 (vb) 24 (mb).length) ((mb).drop 24) := sb.tail (by omega)
                refine KD.call rfl rfl rfl rfl K120 rfl rfl rfl (word_any _ _ sb3 (by (simp only [List.length_drop] at *; omega))) ?_
                refine KD.op (R.bits rfl rfl rfl rfl) rfl rfl rfl (KD.op (R.bits rfl rfl rfl rfl) rfl rfl rfl (KD.op (R.bits rfl rfl rfl rfl) rfl rfl rfl (KD.fin 2 rfl (KQ.seq ?_))))
                refine KC.iq rfl ?_ ?_
                · intro hc69
                  try dsimp only at hc69
                  have a4 := Utf.asc4 (sb.r8 (by omega)) (sb1.r8 (by (simp only [List.length_drop] at *; omega))) (sb2.r8 (by (simp only [List.length_drop] at *; omega))) (sb3.r8 (by (simp only [List.length_drop] at *; omega))) (by assumption)
                  refine KC.skip (KQ.seq (KC.block (KC.region (KL.run 1 rfl ?_))))
                  refine KL.q (R.slice rfl U34 sz5 rfl sb (bnd.mk (r := 32) rfl rfl) bnd.no (by omega) (Nat.le_refl _)) rfl ?_
                  have s32 : Sl 1 (EInt .u8) H1 (subV 1 (vb) 32 (mb).length) ((mb).drop 32) := sb.tail (by omega)
                  have vs32 : Utf.valid ((mb).drop 32) = Utf.valid l := (Utf.okAsc (by omega) (Utf.asc32 a4.1.1 a4.1.2 a4.2.1 a4.2.2)).trans hvb
                  have sn := s32
                  have vn := vs32
                  refine KL.fin 1 rfl (KQ.normBlock ?_)
                  refine KQ.again ((subV 1 (vb) 32 (mb).length, (mb).drop 32)) ?_ ?_ ?_
                  · exact Sub.all rfl
                  · show _ < _; ((simp only [List.length_drop] at *; omega))
                  exact ⟨rfl, sn, vn, (by (simp only [List.length_drop] at *; omega))⟩
                intro hc69
                try dsimp only at hc69
                refine KC.exit (KQ.exitThen (KQ.exitThen (KQ.hit (KQ.seq (KC.exit (KQ.exitThen (KQ.hit ?_)))))))
                refine KQ.again ((vb, mb)) ?_ ?_ ?_
                · exact Sub.all rfl
                · show _ < _; omega
                exact ⟨sn, vn, by show _ ≤ _; ((simp only [List.length_drop] at *; omega)), o0⟩
              intro hg52
              try dsimp only at hg52
              refine KD.fin 17 rfl (KQ.seq (KC.condF rfl (KC.exit (KQ.exitThen (KQ.exitThen (KQ.hit (KQ.seq (KC.exit (KQ.exitThen (KQ.hit ?_))))))))))
              refine KQ.again ((vb, mb)) ?_ ?_ ?_
              · exact Sub.all rfl
              · show _ < _; omega
              exact ⟨sn, vn, by show _ ≤ _; ((simp only [List.length_drop] at *; omega)), o0⟩
            intro hc46
            try dsimp only at hc46
            refine KC.skip (KQ.seq (KC.exit (KQ.exitThen (KQ.hit ?_))))
            refine KQ.again ((subV 1 (subV 1 (va) 1 (m).length) 8 ((m).drop 1).length, ((m).drop 1).drop 8)) ?_ ?_ ?_
            · exact Sub.all rfl
            · show _ < _; ((simp only [List.length_drop] at *; omega))
            exact ⟨sn, vn, by show _ ≤ _; ((simp only [List.length_drop] at *; omega)), o0⟩
          intro hg37
          try dsimp only at hg37
          refine KD.fin 9 rfl (KQ.seq (KC.condF rfl (KC.skip (KQ.seq (KC.exit (KQ.exitThen (KQ.hit ?_)))))))
          refine KQ.again ((subV 1 (subV 1 (va) 1 (m).length) 8 ((m).drop 1).length, ((m).drop 1).drop 8)) ?_ ?_ ?_
          · exact Sub.all rfl
          · show _ < _; ((simp only [List.length_drop] at *; omega))
          exact ⟨sn, vn, by show _ ≤ _; ((simp only [List.length_drop] at *; omega)), o0⟩
        intro hc31
        try dsimp only at hc31
        refine KC.skip (KQ.seq (KC.exit (KQ.exitThen (KQ.hit ?_))))
        refine KQ.again ((subV 1 (va) 1 (m).length, (m).drop 1)) ?_ ?_ ?_
        · exact Sub.all rfl
        · show _ < _; ((simp only [List.length_drop] at *; omega))
        exact ⟨sn, vn, by show _ ≤ _; ((simp only [List.length_drop] at *; omega)), o0⟩
      intro hg26
      try dsimp only at hg26
      refine KL.fin 5 rfl (KQ.seq (KC.condF rfl (KC.skip (KQ.seq (KC.exit (KQ.exitThen (KQ.hit ?_)))))))
      refine KQ.again ((subV 1 (va) 1 (m).length, (m).drop 1)) ?_ ?_ ?_
      · exact Sub.all rfl
      · show _ < _; ((simp only [List.length_drop] at *; omega))
      exact ⟨sn, vn, by show _ ≤ _; ((simp only [List.length_drop] at *; omega)), o0⟩
    intro hc20
    try dsimp only at hc20
    have q0 := (sa.int 0 (by omega)).2
    have ha := Utf.ftk q0 hc20
    have hb := Utf.ftc q0
    have q1 := q0
    dsimp only [InR] at q1
    refine KC.skip (KQ.sr (KL.run 1 rfl ?_))
    refine KL.q (R.indexAddrArr (j := (m.getD 0 default).toNat) rfl Tryz.underlying206 sz5 rfl rfl (by omega) (by omega)) rfl ?_
    refine KL.ld rfl (hTa.at q0) (KL.fin 1 rfl (KQ.sr (KL.run 1 rfl (KL.q ((R.bits rfl rfl rfl rfl).val (congrArg (Value.int .u8) hb.2)) rfl ?_))))
    refine KL.q (R.convI rfl U5 U3 rfl (by dsimp only [InR]; omega)) rfl ?_
    refine KL.fin 1 rfl (KQ.sr (KL.run 1 rfl ?_))
    refine KL.q ((R.shr rfl rfl rfl (by omega)).val (congrArg (Value.int .u8) (Utf.shr4 _))) rfl ?_
    refine KL.q (R.indexAddrArr (j := Utf.ft (m.getD 0 default) / 16) rfl Tryz.underlying209 sz208 rfl rfl rfl ha.2) rfl (KL.lda rfl (hTa.acc ha.2) rfl ?_)
    refine KL.m (M.alloc (cs := [.int .u8 0, .int .u8 0]) rfl zr208 rfl) rfl ?_
    rintro _ H3 ⟨rfl, n3⟩
    have z3 := n3.2.1
    have o0 := o0.trans n3.1
    have sa := sa.old n3.1
    have ox := ox.trans n3.1
    have b3 := n3.2.2
    have ba := b3
    refine KL.opS (S.storeAgg (us := [.int .u8 (Utf.lo (m.getD 0 default)), .int .u8 (Utf.hi (m.getD 0 default))]) rfl sz208 rfl rfl (rfl) (by simp [Value.oneCell']) ba (by simp)) rfl rfl ?_
    rintro H4 ⟨u4, b4⟩
    have o0 := o0.upd u4 (by omega)
    have zu4 := u4.1
    have ox := ox.upd u4 (by omega)
    have ba := b4
    have sa := sa0.old ox
    refine KL.nil (KQ.sr (KL.fin 1 rfl (KQ.seq (KC.block (KC.sr (KL.fin 2 rfl (KQ.seq ?_)))))))
    refine KC.iq rfl ?_ ?_
    · intro hc83
      try dsimp only at hc83
      refine KC.seq (KC.seq (KC.quiet (by kernel_rfl) (by kernel_rfl) (KD.run 1 rfl ?_)))
      refine KD.op (by exact R.lenS rfl U34 rfl sa) rfl rfl rfl ?_
      refine KD.run 2 rfl ?_
      refine KD.cq 88 rfl ?_ ?_
      · intro hg88
        try dsimp only at hg88
        refine KD.fin 15 rfl (KQ.seq (KC.condT rfl (KC.sr (KL.fin 1 rfl (KQ.seq (KC.ret (KQ.retThen (KQ.retBlock (KQ.retBlock (KQ.retThen (KQ.retBlock (KQ.retThen ?_))))))))))))
        refine KQ.ofRet (KQ.fin1 V115 rfl ?_)
        (exact ⟨congrArg Value.bool (show false = Utf.valid l by rw [← hv]; exact (Utf.bad2 (by omega) hc20 (by omega) (by omega)).symm), o0⟩)
      intro hg88
      try dsimp only at hg88
      refine KD.run 1 rfl ?_
      refine KD.op (R.index1 (j := 1) rfl U34 sz5 rfl rfl sa rfl (by omega)) rfl rfl rfl ?_
      refine KD.ld rfl ((sa.int 1 (by omega)).1) ?_
      refine KD.run 1 rfl (KD.ld rfl (cell_of ba rfl) (KD.run 3 rfl ?_))
      refine KD.cq 96 rfl ?_ ?_
      · intro hg96
        try dsimp only at hg96
        refine KD.fin 7 rfl (KQ.seq (KC.condT rfl (KC.sr (KL.fin 1 rfl (KQ.seq (KC.ret (KQ.retThen (KQ.retBlock (KQ.retBlock (KQ.retThen (KQ.retBlock (KQ.retThen ?_))))))))))))
        refine KQ.ofRet (KQ.fin1 V115 rfl ?_)
        (exact ⟨congrArg Value.bool (show false = Utf.valid l by rw [← hv]; exact (Utf.bad2 (by omega) hc20 (by omega) (by omega)).symm), o0⟩)
      intro hg96
      try dsimp only at hg96
      refine KD.run 1 rfl (KD.ld rfl (cell_of ba rfl) (KD.run 1 rfl ?_))
      refine KD.op (R.index1 (j := 1) rfl U34 sz5 rfl rfl sa rfl (by omega)) rfl rfl rfl ?_
      refine KD.ld rfl ((sa.int 1 (by omega)).1) ?_
      refine KD.fin 2 rfl (KQ.seq ?_)
      refine KC.iq rfl ?_ ?_
      · intro hc103
        try dsimp only at hc103
        refine KC.sr (KL.fin 1 rfl (KQ.seq (KC.ret (KQ.retThen (KQ.retBlock (KQ.retBlock (KQ.retThen (KQ.retBlock (KQ.retThen (KQ.ofRet (KQ.fin1 V115 rfl ?_)))))))))))
        (exact ⟨congrArg Value.bool (show false = Utf.valid l by rw [← hv]; exact (Utf.bad2 (by omega) hc20 (by omega) (by omega)).symm), o0⟩)
      intro hc103
      try dsimp only at hc103
      refine KC.skip (KQ.r (KL.run 1 rfl ?_))
      refine KL.q (R.slice rfl U34 sz5 rfl sa (bnd.mk (r := 2) rfl rfl) bnd.no (by omega) (Nat.le_refl _)) rfl ?_
      have sc : Sl 1 (EInt .u8) H4 (subV 1 (va) 2 (m).length) ((m).drop 2) := sa.tail (by omega)
      have vsc : Utf.valid ((m).drop 2) = Utf.valid l := (Utf.good2 (by omega) hc20 (by omega) (by omega)).trans hv
      have sn := sc
      have vn := vsc
      refine KL.fin 1 rfl (KQ.normBlock (KQ.normBlock ?_))
      refine KQ.again ((subV 1 (va) 2 (m).length, (m).drop 2)) ?_ ?_ ?_
      · exact Sub.all rfl
      · show _ < _; ((simp only [List.length_drop] at *; omega))
      exact ⟨sn, vn, by show _ ≤ _; ((simp only [List.length_drop] at *; omega)), o0⟩
    intro hc83
    try dsimp only at hc83
    refine KC.sr (KL.fin 2 rfl (KQ.seq ?_))
    refine KC.iq rfl ?_ ?_
    · intro hc106
      try dsimp only at hc106
      refine KC.seq (KC.seq (KC.quiet (by kernel_rfl) (by kernel_rfl) (KD.run 1 rfl ?_)))
      refine KD.op (by exact R.lenS rfl U34 rfl sa) rfl rfl rfl ?_
      refine KD.run 2 rfl ?_
      refine KD.cq 111 rfl ?_ ?_
      · intro hg111
        try dsimp only at hg111
        refine KD.fin 27 rfl (KQ.seq (KC.condT rfl (KC.sr (KL.fin 1 rfl (KQ.seq (KC.ret (KQ.retThen (KQ.retBlock (KQ.retBlock (KQ.retThen (KQ.retBlock (KQ.retThen ?_))))))))))))
        refine KQ.ofRet (KQ.fin1 V115 rfl ?_)
        (exact ⟨congrArg Value.bool (show false = Utf.valid l by rw [← hv]; exact (Utf.bad3 (by omega) hc20 (by omega) (by omega)).symm), o0⟩)
      intro hg111
      try dsimp only at hg111
      refine KD.run 1 rfl ?_
      refine KD.op (R.index1 (j := 1) rfl U34 sz5 rfl rfl sa rfl (by omega)) rfl rfl rfl ?_
      refine KD.ld rfl ((sa.int 1 (by omega)).1) ?_
      refine KD.run 1 rfl (KD.ld rfl (cell_of ba rfl) (KD.run 3 rfl ?_))
      refine KD.cq 119 rfl ?_ ?_
      · intro hg119
        try dsimp only at hg119
        refine KD.fin 19 rfl (KQ.seq (KC.condT rfl (KC.sr (KL.fin 1 rfl (KQ.seq (KC.ret (KQ.retThen (KQ.retBlock (KQ.retBlock (KQ.retThen (KQ.retBlock (KQ.retThen ?_))))))))))))
        refine KQ.ofRet (KQ.fin1 V115 rfl ?_)
        (exact ⟨congrArg Value.bool (show false = Utf.valid l by rw [← hv]; exact (Utf.bad3 (by omega) hc20 (by omega) (by omega)).symm), o0⟩)
      intro hg119
      try dsimp only at hg119
      refine KD.run 1 rfl (KD.ld rfl (cell_of ba rfl) (KD.run 1 rfl ?_))
      refine KD.op (R.index1 (j := 1) rfl U34 sz5 rfl rfl sa rfl (by omega)) rfl rfl rfl ?_
      refine KD.ld rfl ((sa.int 1 (by omega)).1) ?_
      refine KD.run 3 rfl ?_
      refine KD.cq 127 rfl ?_ ?_
      · intro hg127
        try dsimp only at hg127
        refine KD.fin 11 rfl (KQ.seq (KC.condT rfl (KC.sr (KL.fin 1 rfl (KQ.seq (KC.ret (KQ.retThen (KQ.retBlock (KQ.retBlock (KQ.retThen (KQ.retBlock (KQ.retThen ?_))))))))))))
        refine KQ.ofRet (KQ.fin1 V115 rfl ?_)
        (exact ⟨congrArg Value.bool (show false = Utf.valid l by rw [← hv]; exact (Utf.bad3 (by omega) hc20 (by omega) (by omega)).symm), o0⟩)
      intro hg127
      try dsimp only at hg127
      refine KD.run 1 rfl ?_
      refine KD.op (R.index1 (j := 2) rfl U34 sz5 rfl rfl sa rfl (by omega)) rfl rfl rfl ?_
      refine KD.ld rfl ((sa.int 2 (by omega)).1) ?_
      refine KD.run 3 rfl ?_
      refine KD.cq 133 rfl ?_ ?_
      · intro hg133
        try dsimp only at hg133
        refine KD.fin 5 rfl (KQ.seq (KC.condT rfl (KC.sr (KL.fin 1 rfl (KQ.seq (KC.ret (KQ.retThen (KQ.retBlock (KQ.retBlock (KQ.retThen (KQ.retBlock (KQ.retThen ?_))))))))))))
        refine KQ.ofRet (KQ.fin1 V115 rfl ?_)
        (exact ⟨congrArg Value.bool (show false = Utf.valid l by rw [← hv]; exact (Utf.bad3 (by omega) hc20 (by omega) (by omega)).symm), o0⟩)
      intro hg133
      try dsimp only at hg133
      refine KD.run 1 rfl ?_
      refine KD.op (R.index1 (j := 2) rfl U34 sz5 rfl rfl sa rfl (by omega)) rfl rfl rfl ?_
      refine KD.ld rfl ((sa.int 2 (by omega)).1) ?_
      refine KD.fin 2 rfl (KQ.seq ?_)
      refine KC.iq rfl ?_ ?_
      · intro hc138
        try dsimp only at hc138
        refine KC.sr (KL.fin 1 rfl (KQ.seq (KC.ret (KQ.retThen (KQ.retBlock (KQ.retBlock (KQ.retThen (KQ.retBlock (KQ.retThen (KQ.ofRet (KQ.fin1 V115 rfl ?_)))))))))))
        (exact ⟨congrArg Value.bool (show false = Utf.valid l by rw [← hv]; exact (Utf.bad3 (by omega) hc20 (by omega) (by omega)).symm), o0⟩)
      intro hc138
      try dsimp only at hc138
      refine KC.skip (KQ.r (KL.run 1 rfl ?_))
      refine KL.q (R.slice rfl U34 sz5 rfl sa (bnd.mk (r := 3) rfl rfl) bnd.no (by omega) (Nat.le_refl _)) rfl ?_
      have sc : Sl 1 (EInt .u8) H4 (subV 1 (va) 3 (m).length) ((m).drop 3) := sa.tail (by omega)
      have vsc : Utf.valid ((m).drop 3) = Utf.valid l := (Utf.good3 (by omega) hc20 (by omega) (by omega)).trans hv
      have sn := sc
      have vn := vsc
      refine KL.fin 1 rfl (KQ.normBlock (KQ.normBlock ?_))
      refine KQ.again ((subV 1 (va) 3 (m).length, (m).drop 3)) ?_ ?_ ?_
      · exact Sub.all rfl
      · show _ < _; ((simp only [List.length_drop] at *; omega))
      exact ⟨sn, vn, by show _ ≤ _; ((simp only [List.length_drop] at *; omega)), o0⟩
    intro hc106
    try dsimp only at hc106
    refine KC.sr (KL.fin 2 rfl (KQ.seq ?_))
    refine KC.iq rfl ?_ ?_
    · intro hc141
      try dsimp only at hc141
      refine KC.seq (KC.seq (KC.quiet (by kernel_rfl) (by kernel_rfl) (KD.run 1 rfl ?_)))
      refine KD.op (by exact R.lenS rfl U34 rfl sa) rfl rfl rfl ?_
      refine KD.run 2 rfl ?_
      refine KD.cq 146 rfl ?_ ?_
      · intro hg146
        try dsimp only at hg146
        refine KD.fin 39 rfl (KQ.seq (KC.condT rfl (KC.sr (KL.fin 1 rfl (KQ.seq (KC.ret (KQ.retThen (KQ.retBlock (KQ.retBlock (KQ.retThen (KQ.retBlock (KQ.retThen ?_))))))))))))
        refine KQ.ofRet (KQ.fin1 V115 rfl ?_)
        (exact ⟨congrArg Value.bool (show false = Utf.valid l by rw [← hv]; exact (Utf.bad4 (by omega) hc20 (by omega) (by omega)).symm), o0⟩)
      intro hg146
      try dsimp only at hg146
      refine KD.run 1 rfl ?_
      refine KD.op (R.index1 (j := 1) rfl U34 sz5 rfl rfl sa rfl (by omega)) rfl rfl rfl ?_
      refine KD.ld rfl ((sa.int 1 (by omega)).1) ?_
      refine KD.run 1 rfl (KD.ld rfl (cell_of ba rfl) (KD.run 3 rfl ?_))
      refine KD.cq 154 rfl ?_ ?_
      · intro hg154
        try dsimp only at hg154
        refine KD.fin 31 rfl (KQ.seq (KC.condT rfl (KC.sr (KL.fin 1 rfl (KQ.seq (KC.ret (KQ.retThen (KQ.retBlock (KQ.retBlock (KQ.retThen (KQ.retBlock (KQ.retThen ?_))))))))))))
        refine KQ.ofRet (KQ.fin1 V115 rfl ?_)
        (exact ⟨congrArg Value.bool (show false = Utf.valid l by rw [← hv]; exact (Utf.bad4 (by omega) hc20 (by omega) (by omega)).symm), o0⟩)
      intro hg154
      try dsimp only at hg154
      refine KD.run 1 rfl (KD.ld rfl (cell_of ba rfl) (KD.run 1 rfl ?_))
      refine KD.op (R.index1 (j := 1) rfl U34 sz5 rfl rfl sa rfl (by omega)) rfl rfl rfl ?_
      refine KD.ld rfl ((sa.int 1 (by omega)).1) ?_
      refine KD.run 3 rfl ?_
      refine KD.cq 162 rfl ?_ ?_
      · intro hg162
        try dsimp only at hg162
        refine KD.fin 23 rfl (KQ.seq (KC.condT rfl (KC.sr (KL.fin 1 rfl (KQ.seq (KC.ret (KQ.retThen (KQ.retBlock (KQ.retBlock (KQ.retThen (KQ.retBlock (KQ.retThen ?_))))))))))))
        refine KQ.ofRet (KQ.fin1 V115 rfl ?_)
        (exact ⟨congrArg Value.bool (show false = Utf.valid l by rw [← hv]; exact (Utf.bad4 (by omega) hc20 (by omega) (by omega)).symm), o0⟩)
      intro hg162
      try dsimp only at hg162
      refine KD.run 1 rfl ?_
      refine KD.op (R.index1 (j := 2) rfl U34 sz5 rfl rfl sa rfl (by omega)) rfl rfl rfl ?_
      refine KD.ld rfl ((sa.int 2 (by omega)).1) ?_
      refine KD.run 3 rfl ?_
      refine KD.cq 168 rfl ?_ ?_
      · intro hg168
        try dsimp only at hg168
        refine KD.fin 17 rfl (KQ.seq (KC.condT rfl (KC.sr (KL.fin 1 rfl (KQ.seq (KC.ret (KQ.retThen (KQ.retBlock (KQ.retBlock (KQ.retThen (KQ.retBlock (KQ.retThen ?_))))))))))))
        refine KQ.ofRet (KQ.fin1 V115 rfl ?_)
        (exact ⟨congrArg Value.bool (show false = Utf.valid l by rw [← hv]; exact (Utf.bad4 (by omega) hc20 (by omega) (by omega)).symm), o0⟩)
      intro hg168
      try dsimp only at hg168
      refine KD.run 1 rfl ?_
      refine KD.op (R.index1 (j := 2) rfl U34 sz5 rfl rfl sa rfl (by omega)) rfl rfl rfl ?_
      refine KD.ld rfl ((sa.int 2 (by omega)).1) ?_
      refine KD.run 3 rfl ?_
      refine KD.cq 174 rfl ?_ ?_
      · intro hg174
        try dsimp only at hg174
        refine KD.fin 11 rfl (KQ.seq (KC.condT rfl (KC.sr (KL.fin 1 rfl (KQ.seq (KC.ret (KQ.retThen (KQ.retBlock (KQ.retBlock (KQ.retThen (KQ.retBlock (KQ.retThen ?_))))))))))))
        refine KQ.ofRet (KQ.fin1 V115 rfl ?_)
        (exact ⟨congrArg Value.bool (show false = Utf.valid l by rw [← hv]; exact (Utf.bad4 (by omega) hc20 (by omega) (by omega)).symm), o0⟩)
      intro hg174
      try dsimp only at hg174
      refine KD.run 1 rfl ?_
      refine KD.op (R.index1 (j := 3) rfl U34 sz5 rfl rfl sa rfl (by omega)) rfl rfl rfl ?_
      refine KD.ld rfl ((sa.int 3 (by omega)).1) ?_
      refine KD.run 3 rfl ?_
      refine KD.cq 180 rfl ?_ ?_
      · intro hg180
        try dsimp only at hg180
        refine KD.fin 5 rfl (KQ.seq (KC.condT rfl (KC.sr (KL.fin 1 rfl (KQ.seq (KC.ret (KQ.retThen (KQ.retBlock (KQ.retBlock (KQ.retThen (KQ.retBlock (KQ.retThen ?_))))))))))))
        refine KQ.ofRet (KQ.fin1 V115 rfl ?_)
        (exact ⟨congrArg Value.bool (show false = Utf.valid l by rw [← hv]; exact (Utf.bad4 (by omega) hc20 (by omega) (by omega)).symm), o0⟩)
      intro hg180
      try dsimp only at hg180
      refine KD.run 1 rfl ?_
      refine KD.op (R.index1 (j := 3) rfl U34 sz5 rfl rfl sa rfl (by omega)) rfl rfl rfl ?_
      refine KD.ld rfl ((sa.int 3 (by omega)).1) ?_
      refine KD.fin 2 rfl (KQ.seq ?_)
      refine KC.iq rfl ?_ ?_
      · intro hc185
        try dsimp only at hc185
        refine KC.sr (KL.fin 1 rfl (KQ.seq (KC.ret (KQ.retThen (KQ.retBlock (KQ.retBlock (KQ.retThen (KQ.retBlock (KQ.retThen (KQ.ofRet (KQ.fin1 V115 rfl ?_)))))))))))
        (exact ⟨congrArg Value.bool (show false = Utf.valid l by rw [← hv]; exact (Utf.bad4 (by omega) hc20 (by omega) (by omega)).symm), o0⟩)
      intro hc185
      try dsimp only at hc185
      refine KC.skip (KQ.r (KL.run 1 rfl ?_))
      refine KL.q (R.slice rfl U34 sz5 rfl sa (bnd.mk (r := 4) rfl rfl) bnd.no (by omega) (Nat.le_refl _)) rfl ?_
      have sc : Sl 1 (EInt .u8) H4 (subV 1 (va) 4 (m).length) ((m).drop 4) := sa.tail (by omega)
      have vsc : Utf.valid ((m).drop 4) = Utf.valid l := (Utf.good4 (by omega) hc20 (by omega) (by omega)).trans hv
      have sn := sc
      have vn := vsc
      refine KL.fin 1 rfl (KQ.normBlock (KQ.normBlock ?_))
      refine KQ.again ((subV 1 (va) 4 (m).length, (m).drop 4)) ?_ ?_ ?_
      · exact Sub.all rfl
      · show _ < _; ((simp only [List.length_drop] at *; omega))
      exact ⟨sn, vn, by show _ ≤ _; ((simp only [List.length_drop] at *; omega)), o0⟩
    intro hc141
    try dsimp only at hc141
    refine KC.sr (KL.fin 1 rfl (KQ.seq (KC.ret (KQ.retBlock (KQ.retBlock (KQ.retThen (KQ.retBlock (KQ.retThen (KQ.ofRet (KQ.fin1 V115 rfl ?_))))))))))
    (exact ⟨congrArg Value.bool (show false = Utf.valid l by rw [← hv]; exact (Utf.bad1 (by omega) hc20 (by omega)).symm), o0⟩)
  intro hc15
  try dsimp only at hc15
  refine KC.exit (KQ.exitThen (KQ.exitThen (KQ.hit (KQ.sr (KL.fin 1 rfl (KQ.seq (KC.ret (KQ.ofRet (KQ.fin1 V115 rfl ?_)))))))))
  (exact ⟨congrArg Value.bool (show true = Utf.valid l by rw [← hv]; exact (Utf.valid_nil (by omega)).symm), o0⟩)
end Go.Proofs.YtldmfchamcpmmaaGreatDoor
