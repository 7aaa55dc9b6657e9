/- What the proof of EncBytes leans on, part 3. No condition but those that each law states. -/
import Derived.Test.YtldmfchamcpmmaaDoorRows
import Derived.WalkKit
import Derived.Deep.Quiet
import Derived.Below
import Derived.WalkLawsBesides
import Derived.Lib.Hide
import Derived.Laws.AppendOwnNone
import Derived.Laws.CopyRow
import Derived.Laws.Tables
import Derived.Orders
import Derived.Deep.Slices
import Derived.Deep.Fields
import Derived.OpenShut
import Derived.Lib.AppendZerosOnto
import Derived.Maps.AppendAt
import Derived.ChangeKeysEq
import Derived.Laws.BytesString
import Derived.Lib.SlBytesConst
import Derived.Laws.IdiomStrings
import Derived.Lib.AppendStr
import Derived.Lib.EndianZ
import Derived.WalkSpells
import Derived.Lib.ItoaNum
import Derived.Lib.DecodeN
import Derived.Lib.ValidLaws
import Derived.Lib.EndianBits
import Derived.ProofKit
import Derived.Defers
import Derived.Recover
import Derived.Scope
import Derived.Test.YtldmfchamcpmmaaDoorEncBytesPB
set_option maxHeartbeats 4000000
set_option maxRecDepth 100000
namespace Go.Proofs.YtldmfchamcpmmaaDoor
open Go Go.RowKit
set_option linter.unusedVariables false
set_option linter.unusedSimpArgs false
set_option linter.unnecessarySimpa false
namespace Opc
def sv (l : List Int) : Value := .string (bstr l)
/-- a row of the document's table -/
structure Row where
  op : Int
  name : List Int
  form : Int
  sg : List Int
  width : Int
  deriving Inhabited
def Row.cells (x : Row) : List Value := [.int .u8 x.op, sv x.name, .int .u8 x.form, sv x.sg, .int .i64 x.width]
def Row.val (x : Row) : Value := .agg x.cells.toArray
def Row.zero : Row := ⟨0, [], 0, [], 0⟩
def low : List Row := [⟨0, [117, 110, 114, 101, 97, 99, 104, 97, 98, 108, 101], 0, [45], 0⟩, ⟨1, [110, 111, 112], 0, [45], 0⟩, ⟨2, [98, 108, 111, 99, 107], 1, [45], 0⟩, ⟨3, [108, 111, 111, 112], 1, [45], 0⟩, ⟨4, [105, 102], 1, [45], 0⟩, ⟨5, [101, 108, 115, 101], 0, [45], 0⟩, ⟨11, [101, 110, 100], 0, [45], 0⟩, ⟨12, [98, 114], 2, [45], 0⟩, ⟨13, [98, 114, 95, 105, 102], 2, [45], 0⟩, ⟨14, [98, 114, 95, 116, 97, 98, 108, 101], 3, [45], 0⟩, ⟨15, [114, 101, 116, 117, 114, 110], 0, [45], 0⟩, ⟨16, [99, 97, 108, 108], 4, [45], 0⟩, ⟨17, [99, 97, 108, 108, 95, 105, 110, 100, 105, 114, 101, 99, 116], 5, [45], 0⟩, ⟨26, [100, 114, 111, 112], 0, [45], 0⟩, ⟨27, [115, 101, 108, 101, 99, 116], 0, [45], 0⟩, ⟨32, [108, 111, 99, 97, 108, 46, 103, 101, 116], 4, [45], 0⟩, ⟨33, [108, 111, 99, 97, 108, 46, 115, 101, 116], 4, [45], 0⟩, ⟨34, [108, 111, 99, 97, 108, 46, 116, 101, 101], 4, [45], 0⟩, ⟨35, [103, 108, 111, 98, 97, 108, 46, 103, 101, 116], 4, [45], 0⟩, ⟨36, [103, 108, 111, 98, 97, 108, 46, 115, 101, 116], 4, [45], 0⟩, ⟨40, [105, 51, 50, 46, 108, 111, 97, 100], 6, [105, 62, 105], 4⟩, ⟨41, [105, 54, 52, 46, 108, 111, 97, 100], 6, [105, 62, 73], 8⟩, ⟨44, [105, 51, 50, 46, 108, 111, 97, 100, 56, 95, 115], 6, [105, 62, 105], 1⟩, ⟨45, [105, 51, 50, 46, 108, 111, 97, 100, 56, 95, 117], 6, [105, 62, 105], 1⟩, ⟨46, [105, 51, 50, 46, 108, 111, 97, 100, 49, 54, 95, 115], 6, [105, 62, 105], 2⟩, ⟨47, [105, 51, 50, 46, 108, 111, 97, 100, 49, 54, 95, 117], 6, [105, 62, 105], 2⟩, ⟨48, [105, 54, 52, 46, 108, 111, 97, 100, 56, 95, 115], 6, [105, 62, 73], 1⟩, ⟨49, [105, 54, 52, 46, 108, 111, 97, 100, 56, 95, 117], 6, [105, 62, 73], 1⟩, ⟨50, [105, 54, 52, 46, 108, 111, 97, 100, 49, 54, 95, 115], 6, [105, 62, 73], 2⟩, ⟨51, [105, 54, 52, 46, 108, 111, 97, 100, 49, 54, 95, 117], 6, [105, 62, 73], 2⟩, ⟨52, [105, 54, 52, 46, 108, 111, 97, 100, 51, 50, 95, 115], 6, [105, 62, 73], 4⟩, ⟨53, [105, 54, 52, 46, 108, 111, 97, 100, 51, 50, 95, 117], 6, [105, 62, 73], 4⟩, ⟨54, [105, 51, 50, 46, 115, 116, 111, 114, 101], 6, [105, 105, 62], 4⟩, ⟨55, [105, 54, 52, 46, 115, 116, 111, 114, 101], 6, [105, 73, 62], 8⟩, ⟨58, [105, 51, 50, 46, 115, 116, 111, 114, 101, 56], 6, [105, 105, 62], 1⟩, ⟨59, [105, 51, 50, 46, 115, 116, 111, 114, 101, 49, 54], 6, [105, 105, 62], 2⟩, ⟨60, [105, 54, 52, 46, 115, 116, 111, 114, 101, 56], 6, [105, 73, 62], 1⟩, ⟨61, [105, 54, 52, 46, 115, 116, 111, 114, 101, 49, 54], 6, [105, 73, 62], 2⟩, ⟨62, [105, 54, 52, 46, 115, 116, 111, 114, 101, 51, 50], 6, [105, 73, 62], 4⟩, ⟨63, [109, 101, 109, 111, 114, 121, 46, 115, 105, 122, 101], 7, [62, 105], 0⟩, ⟨64, [109, 101, 109, 111, 114, 121, 46, 103, 114, 111, 119], 7, [105, 62, 105], 0⟩, ⟨65, [105, 51, 50, 46, 99, 111, 110, 115, 116], 8, [62, 105], 0⟩, ⟨66, [105, 54, 52, 46, 99, 111, 110, 115, 116], 9, [62, 73], 0⟩]
def middle : List Row := [⟨69, [105, 51, 50, 46, 101, 113, 122], 0, [105, 62, 105], 0⟩, ⟨70, [105, 51, 50, 46, 101, 113], 0, [105, 105, 62, 105], 0⟩, ⟨71, [105, 51, 50, 46, 110, 101], 0, [105, 105, 62, 105], 0⟩, ⟨72, [105, 51, 50, 46, 108, 116, 95, 115], 0, [105, 105, 62, 105], 0⟩, ⟨73, [105, 51, 50, 46, 108, 116, 95, 117], 0, [105, 105, 62, 105], 0⟩, ⟨74, [105, 51, 50, 46, 103, 116, 95, 115], 0, [105, 105, 62, 105], 0⟩, ⟨75, [105, 51, 50, 46, 103, 116, 95, 117], 0, [105, 105, 62, 105], 0⟩, ⟨76, [105, 51, 50, 46, 108, 101, 95, 115], 0, [105, 105, 62, 105], 0⟩, ⟨77, [105, 51, 50, 46, 108, 101, 95, 117], 0, [105, 105, 62, 105], 0⟩, ⟨78, [105, 51, 50, 46, 103, 101, 95, 115], 0, [105, 105, 62, 105], 0⟩, ⟨79, [105, 51, 50, 46, 103, 101, 95, 117], 0, [105, 105, 62, 105], 0⟩, ⟨80, [105, 54, 52, 46, 101, 113, 122], 0, [73, 62, 105], 0⟩, ⟨81, [105, 54, 52, 46, 101, 113], 0, [73, 73, 62, 105], 0⟩, ⟨82, [105, 54, 52, 46, 110, 101], 0, [73, 73, 62, 105], 0⟩, ⟨83, [105, 54, 52, 46, 108, 116, 95, 115], 0, [73, 73, 62, 105], 0⟩, ⟨84, [105, 54, 52, 46, 108, 116, 95, 117], 0, [73, 73, 62, 105], 0⟩, ⟨85, [105, 54, 52, 46, 103, 116, 95, 115], 0, [73, 73, 62, 105], 0⟩, ⟨86, [105, 54, 52, 46, 103, 116, 95, 117], 0, [73, 73, 62, 105], 0⟩, ⟨87, [105, 54, 52, 46, 108, 101, 95, 115], 0, [73, 73, 62, 105], 0⟩, ⟨88, [105, 54, 52, 46, 108, 101, 95, 117], 0, [73, 73, 62, 105], 0⟩, ⟨89, [105, 54, 52, 46, 103, 101, 95, 115], 0, [73, 73, 62, 105], 0⟩, ⟨90, [105, 54, 52, 46, 103, 101, 95, 117], 0, [73, 73, 62, 105], 0⟩, ⟨103, [105, 51, 50, 46, 99, 108, 122], 0, [105, 62, 105], 0⟩, ⟨104, [105, 51, 50, 46, 99, 116, 122], 0, [105, 62, 105], 0⟩, ⟨105, [105, 51, 50, 46, 112, 111, 112, 99, 110, 116], 0, [105, 62, 105], 0⟩, ⟨106, [105, 51, 50, 46, 97, 100, 100], 0, [105, 105, 62, 105], 0⟩, ⟨107, [105, 51, 50, 46, 115, 117, 98], 0, [105, 105, 62, 105], 0⟩, ⟨108, [105, 51, 50, 46, 109, 117, 108], 0, [105, 105, 62, 105], 0⟩, ⟨109, [105, 51, 50, 46, 100, 105, 118, 95, 115], 0, [105, 105, 62, 105], 0⟩, ⟨110, [105, 51, 50, 46, 100, 105, 118, 95, 117], 0, [105, 105, 62, 105], 0⟩, ⟨111, [105, 51, 50, 46, 114, 101, 109, 95, 115], 0, [105, 105, 62, 105], 0⟩, ⟨112, [105, 51, 50, 46, 114, 101, 109, 95, 117], 0, [105, 105, 62, 105], 0⟩, ⟨113, [105, 51, 50, 46, 97, 110, 100], 0, [105, 105, 62, 105], 0⟩, ⟨114, [105, 51, 50, 46, 111, 114], 0, [105, 105, 62, 105], 0⟩, ⟨115, [105, 51, 50, 46, 120, 111, 114], 0, [105, 105, 62, 105], 0⟩, ⟨116, [105, 51, 50, 46, 115, 104, 108], 0, [105, 105, 62, 105], 0⟩, ⟨117, [105, 51, 50, 46, 115, 104, 114, 95, 115], 0, [105, 105, 62, 105], 0⟩, ⟨118, [105, 51, 50, 46, 115, 104, 114, 95, 117], 0, [105, 105, 62, 105], 0⟩, ⟨119, [105, 51, 50, 46, 114, 111, 116, 108], 0, [105, 105, 62, 105], 0⟩, ⟨120, [105, 51, 50, 46, 114, 111, 116, 114], 0, [105, 105, 62, 105], 0⟩]
def high : List Row := [⟨121, [105, 54, 52, 46, 99, 108, 122], 0, [73, 62, 73], 0⟩, ⟨122, [105, 54, 52, 46, 99, 116, 122], 0, [73, 62, 73], 0⟩, ⟨123, [105, 54, 52, 46, 112, 111, 112, 99, 110, 116], 0, [73, 62, 73], 0⟩, ⟨124, [105, 54, 52, 46, 97, 100, 100], 0, [73, 73, 62, 73], 0⟩, ⟨125, [105, 54, 52, 46, 115, 117, 98], 0, [73, 73, 62, 73], 0⟩, ⟨126, [105, 54, 52, 46, 109, 117, 108], 0, [73, 73, 62, 73], 0⟩, ⟨127, [105, 54, 52, 46, 100, 105, 118, 95, 115], 0, [73, 73, 62, 73], 0⟩, ⟨128, [105, 54, 52, 46, 100, 105, 118, 95, 117], 0, [73, 73, 62, 73], 0⟩, ⟨129, [105, 54, 52, 46, 114, 101, 109, 95, 115], 0, [73, 73, 62, 73], 0⟩, ⟨130, [105, 54, 52, 46, 114, 101, 109, 95, 117], 0, [73, 73, 62, 73], 0⟩, ⟨131, [105, 54, 52, 46, 97, 110, 100], 0, [73, 73, 62, 73], 0⟩, ⟨132, [105, 54, 52, 46, 111, 114], 0, [73, 73, 62, 73], 0⟩, ⟨133, [105, 54, 52, 46, 120, 111, 114], 0, [73, 73, 62, 73], 0⟩, ⟨134, [105, 54, 52, 46, 115, 104, 108], 0, [73, 73, 62, 73], 0⟩, ⟨135, [105, 54, 52, 46, 115, 104, 114, 95, 115], 0, [73, 73, 62, 73], 0⟩, ⟨136, [105, 54, 52, 46, 115, 104, 114, 95, 117], 0, [73, 73, 62, 73], 0⟩, ⟨137, [105, 54, 52, 46, 114, 111, 116, 108], 0, [73, 73, 62, 73], 0⟩, ⟨138, [105, 54, 52, 46, 114, 111, 116, 114], 0, [73, 73, 62, 73], 0⟩, ⟨167, [105, 51, 50, 46, 119, 114, 97, 112, 95, 105, 54, 52], 0, [73, 62, 105], 0⟩, ⟨172, [105, 54, 52, 46, 101, 120, 116, 101, 110, 100, 95, 105, 51, 50, 95, 115], 0, [105, 62, 73], 0⟩, ⟨173, [105, 54, 52, 46, 101, 120, 116, 101, 110, 100, 95, 105, 51, 50, 95, 117], 0, [105, 62, 73], 0⟩]
def rows : List Row := low ++ middle ++ high
def part (op : Int) : List Row := if op < 69 then low else if op < 121 then middle else high
def rfind (op : Int) : Option Row := (part op).find? fun r => decide (r.op = op)
theorem find_at {α : Type} [Inhabited α] {l : List α} {p : α → Bool} {k : Nat} (hk : k < l.length) (h : p (l.getD k default) = true) (hno : ∀ j, j < k → p (l.getD j default) = false) : l.find? p = some (l.getD k default) := by
  rw [List.find?_eq_some_iff_getElem]
  have e : ∀ j, (hj : j < l.length) → l.getD j default = l[j] := fun j hj => by rw [List.getD_eq_getElem?_getD, List.getElem?_eq_getElem hj]; rfl
  refine ⟨h, k, hk, (e k hk).symm, fun j hj => ?_⟩
  have := hno j hj
  rw [e j (by omega)] at this
  rw [this]; rfl
theorem find_no {α : Type} [Inhabited α] {l : List α} {p : α → Bool} (hno : ∀ j, j < l.length → p (l.getD j default) = false) : l.find? p = none := by
  rw [List.find?_eq_none]
  intro x hx
  obtain ⟨j, hj, rfl⟩ := List.getElem_of_mem hx
  have := hno j hj
  rw [List.getD_eq_getElem?_getD, List.getElem?_eq_getElem hj] at this
  simp only [Option.getD_some] at this
  simp [this]
end Opc
def ERow : El Opc.Row := fun _ cs x => cs = x.cells
instance keepsRow : Keeps ERow := ⟨fun _ h => h⟩
instance oneRow : One ERow := ⟨fun h u hu => by
  have h : _ = Opc.Row.cells _ := h
  subst h
  simp only [Opc.Row.cells, List.mem_cons, List.not_mem_nil, or_false] at hu
  rcases hu with rfl | rfl | rfl | rfl | rfl <;> rfl⟩
theorem flatV_at {α : Type} {f : α → List Value} {n : Nat} (hf : ∀ x, (f x).length = n) : ∀ (l : List α) (j : Nat) (x : α), nth l j = some x → ((flatV (l.map fun x => .agg (f x).toArray)).drop (j * n)).take n = f x := by
  intro l
  induction l with
  | nil => intro j x h; cases h
  | cons y l ih =>
    intro j x h
    simp only [List.map_cons, flatV, Value.cells]
    cases j with
    | zero =>
      injection h with h
      subst h
      simp only [Nat.zero_mul, List.drop_zero]
      rw [List.take_append_of_le_length (by simp [hf]), List.take_of_length_le (by simp [hf])]
    | succ j =>
      rw [show (j + 1) * n = (f y).length + j * n by rw [hf, Nat.add_mul]; omega, ← List.drop_drop]
      have : ((f y).toArray.toList ++ flatV (l.map fun x => .agg (f x).toArray)).drop (f y).length = flatV (l.map fun x => .agg (f x).toArray) := by simp
      rw [this]
      exact ih j x h
theorem flatV_row_length (l : List Opc.Row) : (flatV (l.map fun x => .agg x.cells.toArray)).length = l.length * 5 := by
  induction l with
  | nil => rfl
  | cons x l ih => simp only [List.map_cons, flatV, List.length_append, ih, Value.cells, List.length_cons]; simp [Opc.Row.cells]; omega
theorem rows_lit {H H' : Heap} {cs : List Value} {e : TypeId} {m : Nat} (l : List Opc.Row) (hn : New H cs e H') (hc : cs = flatV (l.map fun x => .agg x.cells.toArray)) (hm : m = l.length) (hmx : m ≤ 1000) : Own 5 ERow e H H.size H' (.slice (some ⟨H.size, 0, none⟩) m m) l := by
  subst hc
  exact Own.litN hn (Nat.le_refl _) hm (by unfold maxLen; omega) (flatV_row_length l) fun j x hj => flatV_at (f := Opc.Row.cells) (fun _ => rfl) l j x hj
theorem Sl.rowAt {H : Heap} {v : Value} {l : List Opc.Row} (h : Sl 5 ERow H v l) (j : Nat) (hj : j < l.length) : CellsH H ((vbase v).add (j * 5)) (l.getD j default).cells := by
  obtain ⟨cs, _, hc, e⟩ := h.at j hj
  have e : cs = Opc.Row.cells _ := e
  rw [← e]; exact hc
namespace Opc
theorem all_ops {p : Int → Prop} (h : ∀ n, n < 256 → p ((n : Nat) : Int)) {op : Int} (r : InR .u8 op) : p op := by
  have := h op.toNat (by dsimp only [InR] at r; omega)
  rwa [Int.toNat_of_nonneg (by dsimp only [InR] at r; omega)] at this
theorem tabF {op : Int} (r : InR .u8 op) : known op = (rfind op).isSome ∧ form op = ((rfind op).getD Row.zero).form :=
  all_ops (p := fun op => known op = (rfind op).isSome ∧ form op = ((rfind op).getD Row.zero).form) (by decide +kernel) r
end Opc
theorem low_any {H : Heap} : Ct Tryd.prog 157 [] H (fun u H' => Own 5 ERow 229 H H.size H' u Opc.low ∧ Old H H') := by
  refine Ct.mk Tryd.func157 rfl Tryd.ntmps157 rfl ?_
  intro W0 hW0
  have o0 : Old H H := Old.refl H
  refine KC.sr (KL.fin 1 rfl (KQ.sr (KL.b0 bt229 rfl rfl (KL.b0 bt229 rfl rfl (KL.b0 bt229 rfl rfl (KL.b0 bt229 rfl rfl (KL.b0 bt229 rfl rfl (KL.b0 bt229 rfl rfl (KL.b0 bt229 rfl rfl (KL.b0 bt229 rfl rfl ?_))))))))))
  refine KL.b0 bt229 rfl rfl (KL.b0 bt229 rfl rfl (KL.b0 bt229 rfl rfl (KL.b0 bt229 rfl rfl (KL.b0 bt229 rfl rfl (KL.b0 bt229 rfl rfl (KL.b0 bt229 rfl rfl (KL.b0 bt229 rfl rfl (KL.b0 bt229 rfl rfl (KL.b0 bt229 rfl rfl (KL.b0 bt229 rfl rfl (KL.b0 bt229 rfl rfl (KL.b0 bt229 rfl rfl (KL.b0 bt229 rfl rfl ?_)))))))))))))
  refine KL.b0 bt229 rfl rfl (KL.b0 bt229 rfl rfl (KL.b0 bt229 rfl rfl (KL.b0 bt229 rfl rfl (KL.b0 bt229 rfl rfl (KL.b0 bt229 rfl rfl (KL.b0 bt229 rfl rfl (KL.b0 bt229 rfl rfl (KL.b0 bt229 rfl rfl (KL.b0 bt229 rfl rfl (KL.b0 bt229 rfl rfl (KL.b0 bt229 rfl rfl (KL.b0 bt229 rfl rfl (KL.b0 bt229 rfl rfl ?_)))))))))))))
  refine KL.b0 bt229 rfl rfl (KL.b0 bt229 rfl rfl (KL.b0 bt229 rfl rfl (KL.b0 bt229 rfl rfl (KL.b0 bt229 rfl rfl (KL.b0 bt229 rfl rfl (KL.b0 bt229 rfl rfl ?_))))))
  refine KL.m (M.lit rfl Tryd.underlying243 zs229 (by decide) rfl rfl rfl) rfl ?_
  rintro _ H1 ⟨rfl, n1⟩
  have z1 := n1.2.1
  have o0 := o0.trans n1.1
  have b1 := n1.2.2
  have wl : Own 5 ERow 229 H H.size H1 (.slice (some ⟨H.size, 0, none⟩) 43 43) Opc.low := rows_lit Opc.low n1 (by kernel_rfl) (by decide) (by decide)
  refine KL.fin 1 rfl (KQ.seq (KC.ret (KQ.ofRet (KQ.fin1 Tryd.results157 rfl ?_))))
  exact ⟨wl, o0⟩
theorem middle_any {H : Heap} : Ct Tryd.prog 158 [] H (fun u H' => Own 5 ERow 229 H H.size H' u Opc.middle ∧ Old H H') := by
  refine Ct.mk Tryd.func158 rfl Tryd.ntmps158 rfl ?_
  intro W0 hW0
  have o0 : Old H H := Old.refl H
  refine KC.sr (KL.fin 1 rfl (KQ.sr (KL.b0 bt229 rfl rfl (KL.b0 bt229 rfl rfl (KL.b0 bt229 rfl rfl (KL.b0 bt229 rfl rfl (KL.b0 bt229 rfl rfl (KL.b0 bt229 rfl rfl (KL.b0 bt229 rfl rfl (KL.b0 bt229 rfl rfl ?_))))))))))
  refine KL.b0 bt229 rfl rfl (KL.b0 bt229 rfl rfl (KL.b0 bt229 rfl rfl (KL.b0 bt229 rfl rfl (KL.b0 bt229 rfl rfl (KL.b0 bt229 rfl rfl (KL.b0 bt229 rfl rfl (KL.b0 bt229 rfl rfl (KL.b0 bt229 rfl rfl (KL.b0 bt229 rfl rfl (KL.b0 bt229 rfl rfl (KL.b0 bt229 rfl rfl (KL.b0 bt229 rfl rfl (KL.b0 bt229 rfl rfl ?_)))))))))))))
  refine KL.b0 bt229 rfl rfl (KL.b0 bt229 rfl rfl (KL.b0 bt229 rfl rfl (KL.b0 bt229 rfl rfl (KL.b0 bt229 rfl rfl (KL.b0 bt229 rfl rfl (KL.b0 bt229 rfl rfl (KL.b0 bt229 rfl rfl (KL.b0 bt229 rfl rfl (KL.b0 bt229 rfl rfl (KL.b0 bt229 rfl rfl (KL.b0 bt229 rfl rfl (KL.b0 bt229 rfl rfl (KL.b0 bt229 rfl rfl ?_)))))))))))))
  refine KL.b0 bt229 rfl rfl (KL.b0 bt229 rfl rfl (KL.b0 bt229 rfl rfl (KL.b0 bt229 rfl rfl ?_)))
  refine KL.m (M.lit rfl Tryd.underlying243 zs229 (by decide) rfl rfl rfl) rfl ?_
  rintro _ H1 ⟨rfl, n1⟩
  have z1 := n1.2.1
  have o0 := o0.trans n1.1
  have b1 := n1.2.2
  have wl : Own 5 ERow 229 H H.size H1 (.slice (some ⟨H.size, 0, none⟩) 40 40) Opc.middle := rows_lit Opc.middle n1 (by kernel_rfl) (by decide) (by decide)
  refine KL.fin 1 rfl (KQ.seq (KC.ret (KQ.ofRet (KQ.fin1 Tryd.results158 rfl ?_))))
  exact ⟨wl, o0⟩
theorem high_any {H : Heap} : Ct Tryd.prog 156 [] H (fun u H' => Own 5 ERow 229 H H.size H' u Opc.high ∧ Old H H') := by
  refine Ct.mk Tryd.func156 rfl Tryd.ntmps156 rfl ?_
  intro W0 hW0
  have o0 : Old H H := Old.refl H
  refine KC.sr (KL.fin 1 rfl (KQ.sr (KL.b0 bt229 rfl rfl (KL.b0 bt229 rfl rfl (KL.b0 bt229 rfl rfl (KL.b0 bt229 rfl rfl (KL.b0 bt229 rfl rfl (KL.b0 bt229 rfl rfl (KL.b0 bt229 rfl rfl (KL.b0 bt229 rfl rfl ?_))))))))))
  refine KL.b0 bt229 rfl rfl (KL.b0 bt229 rfl rfl (KL.b0 bt229 rfl rfl (KL.b0 bt229 rfl rfl (KL.b0 bt229 rfl rfl (KL.b0 bt229 rfl rfl (KL.b0 bt229 rfl rfl (KL.b0 bt229 rfl rfl (KL.b0 bt229 rfl rfl (KL.b0 bt229 rfl rfl (KL.b0 bt229 rfl rfl (KL.b0 bt229 rfl rfl (KL.b0 bt229 rfl rfl ?_))))))))))))
  refine KL.m (M.lit rfl Tryd.underlying243 zs229 (by decide) rfl rfl rfl) rfl ?_
  rintro _ H1 ⟨rfl, n1⟩
  have z1 := n1.2.1
  have o0 := o0.trans n1.1
  have b1 := n1.2.2
  have wl : Own 5 ERow 229 H H.size H1 (.slice (some ⟨H.size, 0, none⟩) 21 21) Opc.high := rows_lit Opc.high n1 (by kernel_rfl) (by decide) (by decide)
  refine KL.fin 1 rfl (KQ.seq (KC.ret (KQ.ofRet (KQ.fin1 Tryd.results156 rfl ?_))))
  exact ⟨wl, o0⟩
theorem cells_nth {H : Heap} {p : Addr} {cs : List Value} {i : Nat} {v : Value} (h : CellsH H p cs) (hv : nth cs i = some v) : cellH H (p.add i) = some v := h i v hv
theorem RFind_any {H : Heap} (op : Int) : Ct Tryd.prog 150 [.int .u8 op] H (fun u H' => u = .tuple #[((Opc.rfind op).getD Opc.Row.zero).val, .bool (Opc.rfind op).isSome] ∧ Old H H') := by
  refine Ct.mk Tryd.func150 rfl Tryd.ntmps150 rfl ?_
  intro W0 hW0
  have o0 : Old H H := Old.refl H
  refine KC.sr ?_
  refine KL.m (M.alloc rfl zr229 rfl) rfl ?_
  rintro _ H1 ⟨rfl, n1⟩
  have z1 := n1.2.1
  have o0 := o0.trans n1.1
  have b1 := n1.2.2
  have b2 := b1
  refine KL.fin 1 rfl (KQ.sr ?_)
  refine KL.c rfl Tryd.call156 (high_any) ?_
  rintro vl H2 ⟨wl, ox⟩
  have zc_H2 := (ox).1
  have o0 := o0.trans ox
  have b2 := (ox).blk b2
  have hl := wl.sl ox (by decide)
  have hsub : ∀ r ∈ Opc.high, r ∈ Opc.rows := by intro r hr; unfold Opc.rows; simp [hr]
  refine KL.fin 1 rfl (KQ.seq (KC.seq (KC.sr (KL.fin 2 rfl (KQ.seq ?_)))))
  refine KC.iq rfl ?_ ?_
  · intro hc8
    refine KC.region ?_
    refine KL.c rfl Tryd.call157 (low_any) ?_
    rintro vl H3 ⟨wl, ox⟩
    have zc_H3 := (ox).1
    have o0 := o0.trans ox
    have b2 := (ox).blk b2
    have hl := hl.old ox
    have hl := wl.sl ox (by decide)
    have hsub : ∀ r ∈ Opc.low, r ∈ Opc.rows := by intro r hr; unfold Opc.rows; simp [hr]
    refine KL.fin 1 rfl (KQ.seq (KC.seq (KC.sr (KL.fin 1 rfl (KQ.seq (KC.block ?_))))))
    refine KC.loopD (κ := Nat) [13, 14, 15, 16, 19, 20, 21, 22, 23, 24, 25, 26, 27, 28, 29, 3, 17, 18, 5] (fun k => [(5, .int .i64 (k : Nat))]) (fun k Hl => k ≤ Opc.low.length ∧ H3 = Hl ∧ ∀ j, j < k → decide ((Opc.low.getD j default).op = op) = false) (fun k => Opc.low.length - k) 0 ?_ ?_ ?_
    · exact Sub.all rfl
    · exact ⟨Nat.zero_le _, rfl, fun j hj => by omega⟩
    rintro k H4 ⟨hk, rfl, hno⟩
    have hlen : Opc.low.length ≤ 120 := by decide
    refine KC.seq (KC.sr (KL.run 2 rfl (KL.q (R.lenS rfl Tryd.underlying243 rfl hl) rfl (KL.fin 1 rfl (KQ.seq ?_)))))
    refine KC.iq rfl ?_ ?_
    · intro hc16
      have hcx := hl.rowAt k (by omega)
      refine KC.skip (KQ.seq (KC.seq (KC.block (KC.sr (KL.run 2 rfl ?_)))))
      refine KL.q (R.index (j := k) rfl Tryd.underlying243 sz229 rfl rfl hl rfl (by omega)) rfl ?_
      refine KL.q (R.fieldAddrP rfl Tryd.underlying229 rfl rfl sz5 rfl) rfl (KL.ld rfl (cells_nth hcx rfl) (KL.fin 2 rfl (KQ.seq ?_)))
      refine KC.iq rfl ?_ ?_
      · intro hc25
        refine KC.sr (KL.run 2 rfl ?_)
        refine KL.q (R.index (j := k) rfl Tryd.underlying243 sz229 rfl rfl hl rfl (by omega)) rfl ?_
        refine KL.lda rfl hcx rfl ?_
        refine KL.opS (S.storeAgg rfl sz229 rfl rfl (rfl) (by intro u hu; simp only [Opc.Row.cells, List.mem_cons, List.not_mem_nil, or_false] at hu; rcases hu with rfl | rfl | rfl | rfl | rfl <;> rfl) b2 (by simp [Opc.Row.cells])) rfl rfl ?_
        rintro H5 ⟨u5, b5⟩
        have o0 := o0.upd u5 (by omega)
        have zu5 := u5.1
        have b2 := b5
        refine KL.fin 1 rfl (KQ.seq (KC.ret (KQ.retBlock (KQ.retThen (KQ.retThen (KQ.retBlock (KQ.retThen (KQ.ofRet ?_))))))))
        refine KQ.finCell2 Tryd.results150 rfl Tryd.underlying229 rfl sz229 (cells_of b2) (rfl) rfl ?_
        first
          | (have hf : Opc.rfind op = some (Opc.low.getD k default) := by
               unfold Opc.rfind Opc.part
               simp only [*, if_true, if_false]
               exact Opc.find_at (by omega) (by simpa using ‹_›) hno
             exact ⟨by rw [hf]; rfl, o0⟩)
      intro hc25
      refine KC.skip (KQ.normBlock (KQ.r (KL.run 1 rfl ?_)))
      refine KL.q ((R.add rfl rfl rfl (by dsimp only [InR]; omega)).val (congrArg (Value.int .i64) (show (k : Int) + 1 = ((k + 1 : Nat) : Int) by omega))) rfl ?_
      refine KL.fin 1 rfl ?_
      refine KQ.again (k + 1) ?_ ?_ ?_
      · exact Sub.all rfl
      · omega
      exact ⟨by omega, rfl, fun j hj => by
        by_cases e : j = k
        · subst e; simp_all
        exact hno j (by omega)⟩
    intro hc16
    refine KC.exit (KQ.exitThen (KQ.exitThen (KQ.hit (KQ.sr (KL.b0 bt229 rfl rfl ?_)))))
    refine KL.opS (S.storeAgg rfl sz229 rfl rfl (rfl) (by simp [Value.oneCell']) b2 (by simp)) rfl rfl ?_
    rintro H6 ⟨u6, b6⟩
    have o0 := o0.upd u6 (by omega)
    have zu6 := u6.1
    have b2 := b6
    refine KL.fin 1 rfl (KQ.seq (KC.ret (KQ.ofRet ?_)))
    refine KQ.finCell2 Tryd.results150 rfl Tryd.underlying229 rfl sz229 (cells_of b2) (rfl) rfl ?_
    first
      | (have hf : Opc.rfind op = none := by
           unfold Opc.rfind Opc.part
           simp only [*, if_true, if_false]
           exact Opc.find_no (fun j hj => hno j (by omega))
         exact ⟨by rw [hf]; rfl, o0⟩)
  intro hc8
  refine KC.sr (KL.fin 2 rfl (KQ.seq ?_))
  refine KC.iq rfl ?_ ?_
  · intro hc11
    refine KC.region ?_
    refine KL.c rfl Tryd.call158 (middle_any) ?_
    rintro vl H7 ⟨wl, ox⟩
    have zc_H7 := (ox).1
    have o0 := o0.trans ox
    have b2 := (ox).blk b2
    have hl := hl.old ox
    have hl := wl.sl ox (by decide)
    have hsub : ∀ r ∈ Opc.middle, r ∈ Opc.rows := by intro r hr; unfold Opc.rows; simp [hr]
    refine KL.fin 1 rfl (KQ.seq (KC.seq (KC.sr (KL.fin 1 rfl (KQ.seq (KC.block ?_))))))
    refine KC.loopD (κ := Nat) [13, 14, 15, 16, 19, 20, 21, 22, 23, 24, 25, 26, 27, 28, 29, 3, 17, 18, 5] (fun k => [(5, .int .i64 (k : Nat))]) (fun k Hl => k ≤ Opc.middle.length ∧ H7 = Hl ∧ ∀ j, j < k → decide ((Opc.middle.getD j default).op = op) = false) (fun k => Opc.middle.length - k) 0 ?_ ?_ ?_
    · exact Sub.all rfl
    · exact ⟨Nat.zero_le _, rfl, fun j hj => by omega⟩
    rintro k H8 ⟨hk, rfl, hno⟩
    have hlen : Opc.middle.length ≤ 120 := by decide
    refine KC.seq (KC.sr (KL.run 2 rfl (KL.q (R.lenS rfl Tryd.underlying243 rfl hl) rfl (KL.fin 1 rfl (KQ.seq ?_)))))
    refine KC.iq rfl ?_ ?_
    · intro hc16
      have hcx := hl.rowAt k (by omega)
      refine KC.skip (KQ.seq (KC.seq (KC.block (KC.sr (KL.run 2 rfl ?_)))))
      refine KL.q (R.index (j := k) rfl Tryd.underlying243 sz229 rfl rfl hl rfl (by omega)) rfl ?_
      refine KL.q (R.fieldAddrP rfl Tryd.underlying229 rfl rfl sz5 rfl) rfl (KL.ld rfl (cells_nth hcx rfl) (KL.fin 2 rfl (KQ.seq ?_)))
      refine KC.iq rfl ?_ ?_
      · intro hc25
        refine KC.sr (KL.run 2 rfl ?_)
        refine KL.q (R.index (j := k) rfl Tryd.underlying243 sz229 rfl rfl hl rfl (by omega)) rfl ?_
        refine KL.lda rfl hcx rfl ?_
        refine KL.opS (S.storeAgg rfl sz229 rfl rfl (rfl) (by intro u hu; simp only [Opc.Row.cells, List.mem_cons, List.not_mem_nil, or_false] at hu; rcases hu with rfl | rfl | rfl | rfl | rfl <;> rfl) b2 (by simp [Opc.Row.cells])) rfl rfl ?_
        rintro H9 ⟨u9, b9⟩
        have o0 := o0.upd u9 (by omega)
        have zu9 := u9.1
        have b2 := b9
        refine KL.fin 1 rfl (KQ.seq (KC.ret (KQ.retBlock (KQ.retThen (KQ.retThen (KQ.retBlock (KQ.retThen (KQ.ofRet ?_))))))))
        refine KQ.finCell2 Tryd.results150 rfl Tryd.underlying229 rfl sz229 (cells_of b2) (rfl) rfl ?_
        first
          | (have hf : Opc.rfind op = some (Opc.middle.getD k default) := by
               unfold Opc.rfind Opc.part
               simp only [*, if_true, if_false]
               exact Opc.find_at (by omega) (by simpa using ‹_›) hno
             exact ⟨by rw [hf]; rfl, o0⟩)
      intro hc25
      refine KC.skip (KQ.normBlock (KQ.r (KL.run 1 rfl ?_)))
      refine KL.q ((R.add rfl rfl rfl (by dsimp only [InR]; omega)).val (congrArg (Value.int .i64) (show (k : Int) + 1 = ((k + 1 : Nat) : Int) by omega))) rfl ?_
      refine KL.fin 1 rfl ?_
      refine KQ.again (k + 1) ?_ ?_ ?_
      · exact Sub.all rfl
      · omega
      exact ⟨by omega, rfl, fun j hj => by
        by_cases e : j = k
        · subst e; simp_all
        exact hno j (by omega)⟩
    intro hc16
    refine KC.exit (KQ.exitThen (KQ.exitThen (KQ.hit (KQ.sr (KL.b0 bt229 rfl rfl ?_)))))
    refine KL.opS (S.storeAgg rfl sz229 rfl rfl (rfl) (by simp [Value.oneCell']) b2 (by simp)) rfl rfl ?_
    rintro H10 ⟨u10, b10⟩
    have o0 := o0.upd u10 (by omega)
    have zu10 := u10.1
    have b2 := b10
    refine KL.fin 1 rfl (KQ.seq (KC.ret (KQ.ofRet ?_)))
    refine KQ.finCell2 Tryd.results150 rfl Tryd.underlying229 rfl sz229 (cells_of b2) (rfl) rfl ?_
    first
      | (have hf : Opc.rfind op = none := by
           unfold Opc.rfind Opc.part
           simp only [*, if_true, if_false]
           exact Opc.find_no (fun j hj => hno j (by omega))
         exact ⟨by rw [hf]; rfl, o0⟩)
  intro hc11
  refine KC.skip (KQ.seq (KC.seq (KC.sr (KL.fin 1 rfl (KQ.seq (KC.block ?_))))))
  refine KC.loopD (κ := Nat) [13, 14, 15, 16, 19, 20, 21, 22, 23, 24, 25, 26, 27, 28, 29, 3, 17, 18, 5] (fun k => [(5, .int .i64 (k : Nat))]) (fun k Hl => k ≤ Opc.high.length ∧ H2 = Hl ∧ ∀ j, j < k → decide ((Opc.high.getD j default).op = op) = false) (fun k => Opc.high.length - k) 0 ?_ ?_ ?_
  · exact Sub.all rfl
  · exact ⟨Nat.zero_le _, rfl, fun j hj => by omega⟩
  rintro k H11 ⟨hk, rfl, hno⟩
  have hlen : Opc.high.length ≤ 120 := by decide
  refine KC.seq (KC.sr (KL.run 2 rfl (KL.q (R.lenS rfl Tryd.underlying243 rfl hl) rfl (KL.fin 1 rfl (KQ.seq ?_)))))
  refine KC.iq rfl ?_ ?_
  · intro hc16
    have hcx := hl.rowAt k (by omega)
    refine KC.skip (KQ.seq (KC.seq (KC.block (KC.sr (KL.run 2 rfl ?_)))))
    refine KL.q (R.index (j := k) rfl Tryd.underlying243 sz229 rfl rfl hl rfl (by omega)) rfl ?_
    refine KL.q (R.fieldAddrP rfl Tryd.underlying229 rfl rfl sz5 rfl) rfl (KL.ld rfl (cells_nth hcx rfl) (KL.fin 2 rfl (KQ.seq ?_)))
    refine KC.iq rfl ?_ ?_
    · intro hc25
      refine KC.sr (KL.run 2 rfl ?_)
      refine KL.q (R.index (j := k) rfl Tryd.underlying243 sz229 rfl rfl hl rfl (by omega)) rfl ?_
      refine KL.lda rfl hcx rfl ?_
      refine KL.opS (S.storeAgg rfl sz229 rfl rfl (rfl) (by intro u hu; simp only [Opc.Row.cells, List.mem_cons, List.not_mem_nil, or_false] at hu; rcases hu with rfl | rfl | rfl | rfl | rfl <;> rfl) b2 (by simp [Opc.Row.cells])) rfl rfl ?_
      rintro H12 ⟨u12, b12⟩
      have o0 := o0.upd u12 (by omega)
      have zu12 := u12.1
      have b2 := b12
      refine KL.fin 1 rfl (KQ.seq (KC.ret (KQ.retBlock (KQ.retThen (KQ.retThen (KQ.retBlock (KQ.retThen (KQ.ofRet ?_))))))))
      refine KQ.finCell2 Tryd.results150 rfl Tryd.underlying229 rfl sz229 (cells_of b2) (rfl) rfl ?_
      first
        | (have hf : Opc.rfind op = some (Opc.high.getD k default) := by
             unfold Opc.rfind Opc.part
             simp only [*, if_true, if_false]
             exact Opc.find_at (by omega) (by simpa using ‹_›) hno
           exact ⟨by rw [hf]; rfl, o0⟩)
    intro hc25
    refine KC.skip (KQ.normBlock (KQ.r (KL.run 1 rfl ?_)))
    refine KL.q ((R.add rfl rfl rfl (by dsimp only [InR]; omega)).val (congrArg (Value.int .i64) (show (k : Int) + 1 = ((k + 1 : Nat) : Int) by omega))) rfl ?_
    refine KL.fin 1 rfl ?_
    refine KQ.again (k + 1) ?_ ?_ ?_
    · exact Sub.all rfl
    · omega
    exact ⟨by omega, rfl, fun j hj => by
      by_cases e : j = k
      · subst e; simp_all
      exact hno j (by omega)⟩
  intro hc16
  refine KC.exit (KQ.exitThen (KQ.exitThen (KQ.hit (KQ.sr (KL.b0 bt229 rfl rfl ?_)))))
  refine KL.opS (S.storeAgg rfl sz229 rfl rfl (rfl) (by simp [Value.oneCell']) b2 (by simp)) rfl rfl ?_
  rintro H13 ⟨u13, b13⟩
  have o0 := o0.upd u13 (by omega)
  have zu13 := u13.1
  have b2 := b13
  refine KL.fin 1 rfl (KQ.seq (KC.ret (KQ.ofRet ?_)))
  refine KQ.finCell2 Tryd.results150 rfl Tryd.underlying229 rfl sz229 (cells_of b2) (rfl) rfl ?_
  first
    | (have hf : Opc.rfind op = none := by
         unfold Opc.rfind Opc.part
         simp only [*, if_true, if_false]
         exact Opc.find_no (fun j hj => hno j (by omega))
       exact ⟨by rw [hf]; rfl, o0⟩)
end Go.Proofs.YtldmfchamcpmmaaDoor
namespace Go.Proofs.YtldmfchamcpmmaaDoor
open Go Go.RowKit
set_option linter.unusedVariables false
set_option linter.unusedSimpArgs false
set_option linter.unnecessarySimpa false
namespace Isp
theorem form_range {op : Int} (r : InR .u8 op) : 0 ≤ Opc.form op ∧ Opc.form op ≤ 9 := by
  exact Opc.all_ops (p := fun op => 0 ≤ Opc.form op ∧ Opc.form op ≤ 9) (by decide +kernel) r
/-- it has bytes, said by its fields -/
def mayC (f a b c : Int) (n : Nat) : Prop := (f ≠ 1 ∨ a = 64 ∨ a = 127 ∨ a = 126) ∧ (f ≠ 8 ∨ (-2147483648 ≤ c ∧ c ≤ 2147483647)) ∧ ((f ≠ 0 ∧ f ≤ 6) ∨ a = 0) ∧ (f = 6 ∨ b = 0) ∧ (8 ≤ f ∨ c = 0) ∧ (f = 3 ∨ n = 0)
theorem may_iff {x : Ins} (hx : InsR x) (hl : x.l.length < 4294967296) (hr : ∀ y ∈ x.l, InR .u32 y) : May x ↔ Opc.known x.op = true ∧ mayC (Opc.form x.op) x.a x.b x.c x.l.length := by
  obtain ⟨op, a, b, c, l⟩ := x
  obtain ⟨h1, h2, h3, h4⟩ := hx
  have hf := form_range h1
  dsimp only at *
  unfold May
  refine and_congr_right fun _ => ?_
  generalize Opc.form op = f at *
  have hr' : ∀ y ∈ l, okU y := fun y hy => by have := hr y hy; unfold okU; dsimp only [InR] at this; omega
  dsimp only [InR] at h2 h3 h4
  unfold bodyV mayC rest
  dsimp only
  have hc : f = 0 ∨ f = 1 ∨ f = 2 ∨ f = 3 ∨ f = 4 ∨ f = 5 ∨ f = 6 ∨ f = 7 ∨ f = 8 ∨ f = 9 := by omega
  cases l with
  | nil => rcases hc with rfl | rfl | rfl | rfl | rfl | rfl | rfl | rfl | rfl | rfl <;> simp [okU, okN, blkOk, labsV] <;> omega
  | cons y t =>
    have hn2 : (y :: t) ≠ [] := by simp
    have hL : (∀ z ∈ y :: t, 0 ≤ z ∧ z < 4294967296) := hr'
    generalize y :: t = l at *
    rcases hc with rfl | rfl | rfl | rfl | rfl | rfl | rfl | rfl | rfl | rfl <;> simp [okU, okN, blkOk, labsV, hn2] <;> ((intro h5 h6; exact ⟨hl, hL, by omega, by omega⟩))
end Isp
theorem RFindK {H : Heap} (op : Int) (hop : InR .u8 op) : Ct Tryd.prog 150 [.int .u8 op] H (fun u H' => (∃ a1 a2 a4 a5, u = .tuple #[.agg [.int .u8 a1, .string a2, .int .u8 (Opc.form op), .string a4, .int .i64 a5].toArray, .bool (Opc.known op)]) ∧ Old H H') :=
  (RFind_any op).mono fun v H' ⟨h, o⟩ => ⟨by
    obtain ⟨t1, t2⟩ := Opc.tabF hop
    rw [t1, t2]
    exact ⟨_, _, _, _, h⟩, o⟩
theorem Sl.rng {k : IntKind} {H : Heap} {v : Value} {l : List Int} (h : Sl 1 (EInt k) H v l) : ∀ y ∈ l, InR k y := by
  intro y hy
  obtain ⟨j, hj, rfl⟩ := List.getElem_of_mem hy
  have := (h.int j hj).2
  rwa [List.getD_eq_getElem?_getD, List.getElem?_eq_getElem hj] at this
theorem RMay_any {H : Heap} {x : Ins} {vl : Value} (hx : InsR x) (hll : x.l.length < 4294967296) (hs : Sl 1 (EInt .u32) H vl x.l) : Ct Tryd.prog 128 [insV x vl] H (fun u H' => (∃ b, u = .bool b ∧ (b = true ↔ Isp.May x)) ∧ Old H H') := by
  refine Ct.mk Tryd.func128 rfl Tryd.ntmps128 rfl ?_
  intro W0 hW0
  have o0 : Old H H := Old.refl H
  have hs0 := hs
  unfold insV
  have hfr := Isp.form_range hx.1
  refine KC.sr ?_
  refine KL.m (M.box rfl rfl rfl) rfl ?_
  rintro _ H1 ⟨rfl, n1⟩
  have z1 := n1.2.1
  have o0 := o0.trans n1.1
  have hs := hs.old n1.1
  have b1 := n1.2.2
  have bx := b1
  refine KL.fin 1 rfl (KQ.sr (KL.run 1 rfl (KL.ld rfl (cell_of bx rfl) ?_)))
  refine KL.c rfl Tryd.call150 (RFindK _ hx.1) ?_
  rintro _ H2 ⟨⟨a1, a2, a4, a5, rfl⟩, ox⟩
  have zc_H2 := (ox).1
  have o0 := o0.trans ox
  have hs := hs.old ox
  have bx := (ox).blk bx
  refine KL.run 3 rfl ?_
  refine KL.m (M.alloc rfl zr229 rfl) rfl ?_
  rintro _ H3 ⟨rfl, n3⟩
  have z3 := n3.2.1
  have o0 := o0.trans n3.1
  have hs := hs.old n3.1
  have bx := (n3.1).blk bx
  have b3 := n3.2.2
  have bw := b3
  refine KL.opS (S.storeAgg rfl sz229 rfl rfl (rfl) (by intro u hu; simp only [List.mem_cons, List.not_mem_nil, or_false] at hu; rcases hu with rfl | rfl | rfl | rfl | rfl <;> rfl) bw (by simp)) rfl rfl ?_
  rintro H4 ⟨u4, b4⟩
  have o0 := o0.upd u4 (by omega)
  have zu4 := u4.1
  have bx := ((u4).2 _ (by omega)).trans bx
  have bw := b4
  rw [over_all (by rfl)] at bw
  refine KL.fin 1 rfl (KQ.sr (KL.run 1 rfl (KL.ld rfl (cell_of bw rfl) (KL.fin 1 rfl (KQ.seq (KC.seq ?_))))))
  refine KC.cutD (κ := Unit) [14, 15, 16, 17, 18, 19, 20, 21, 22, 23, 24, 25, 26, 27, 28, 29, 30, 31, 32, 33, 34, 35, 36, 37, 38, 39, 40, 41, 42, 43, 44, 45, 46, 47, 48, 2] (fun _ => [(5, .int .u8 (Opc.form x.op))]) (fun _ Hl => H4 = Hl ∧ Opc.known x.op = true ∧ (Opc.form x.op ≠ 1 ∨ x.a = 64 ∨ x.a = 127 ∨ x.a = 126) ∧ (Opc.form x.op ≠ 8 ∨ (-2147483648 ≤ x.c ∧ x.c ≤ 2147483647))) ?_ ?_
  · skip
    refine KC.sr (KL.run 3 rfl ?_)
    refine KL.cq 16 rfl ?_ ?_
    · intro hg16
      refine KL.fin 32 rfl (KQ.seq (KC.condT rfl (KC.sr (KL.fin 1 rfl (KQ.seq (KC.ret (KQ.retThen (KQ.retThen (KQ.ofRet (KQ.fin1 Tryd.results128 rfl ?_))))))))))
      exact ⟨⟨false, rfl, fun h => absurd h (by decide), fun h => absurd ((Isp.may_iff hx hll (fun y hy => hs0.rng y hy)).1 h) (fun ⟨k1, k2⟩ => by simp_all)⟩, o0⟩
    intro hg16
    refine KL.run 3 rfl ?_
    refine KL.cq 19 rfl ?_ ?_
    · intro hg19
      refine KL.run 1 rfl (KL.ld rfl (cell_of bx rfl) (KL.run 3 rfl ?_))
      refine KL.cq 24 rfl ?_ ?_
      · intro hg24
        refine KL.run 1 rfl (KL.ld rfl (cell_of bx rfl) (KL.run 3 rfl ?_))
        refine KL.cq 29 rfl ?_ ?_
        · intro hg29
          refine KL.run 1 rfl (KL.ld rfl (cell_of bx rfl) (KL.run 4 rfl ?_))
          refine KL.cq 35 rfl ?_ ?_
          · intro hg35
            refine KL.fin 13 rfl (KQ.seq (KC.condT rfl (KC.sr (KL.fin 1 rfl (KQ.seq (KC.ret (KQ.retThen (KQ.retThen (KQ.ofRet (KQ.fin1 Tryd.results128 rfl ?_))))))))))
            (exact ⟨⟨false, rfl, fun h => absurd h (by decide), fun h => absurd ((Isp.may_iff hx hll (fun y hy => hs0.rng y hy)).1 h) (fun ⟨k1, k2⟩ => by (unfold Isp.mayC at k2; omega))⟩, o0⟩)
          intro hg35
          refine KL.run 3 rfl ?_
          refine KL.cq 38 rfl ?_ ?_
          · intro hg38
            refine KL.run 1 rfl (KL.ld rfl (cell_of bx rfl) (KL.run 2 rfl ?_))
            refine KL.cq 42 rfl ?_ ?_
            · intro hg42
              refine KL.fin 6 rfl (KQ.seq (KC.condT rfl (KC.sr (KL.fin 1 rfl (KQ.seq (KC.ret (KQ.retThen (KQ.retThen (KQ.ofRet (KQ.fin1 Tryd.results128 rfl ?_))))))))))
              (exact ⟨⟨false, rfl, fun h => absurd h (by decide), fun h => absurd ((Isp.may_iff hx hll (fun y hy => hs0.rng y hy)).1 h) (fun ⟨k1, k2⟩ => by (unfold Isp.mayC at k2; omega))⟩, o0⟩)
            intro hg42
            refine KL.run 1 rfl (KL.ld rfl (cell_of bx rfl) (KL.fin 4 rfl (KQ.seq ?_)))
            refine KC.iq rfl ?_ ?_
            · intro hc48
              refine KC.sr (KL.fin 1 rfl (KQ.seq (KC.ret (KQ.retThen (KQ.retThen (KQ.ofRet (KQ.fin1 Tryd.results128 rfl ?_)))))))
              (exact ⟨⟨false, rfl, fun h => absurd h (by decide), fun h => absurd ((Isp.may_iff hx hll (fun y hy => hs0.rng y hy)).1 h) (fun ⟨k1, k2⟩ => by (unfold Isp.mayC at k2; omega))⟩, o0⟩)
            intro hc48
            refine KC.skip ?_
            refine KQ.meet () ?_ ?_
            · exact Sub.all rfl
            exact ⟨rfl, by simp_all, by omega, by omega⟩
          intro hg38
          refine KL.fin 10 rfl (KQ.seq (KC.condF rfl (KC.skip ?_)))
          refine KQ.meet () ?_ ?_
          · exact Sub.all rfl
          exact ⟨rfl, by simp_all, by omega, by omega⟩
        intro hg29
        refine KL.run 9 rfl ?_
        refine KL.cq 38 rfl ?_ ?_
        · intro hg38
          refine KL.run 1 rfl (KL.ld rfl (cell_of bx rfl) (KL.run 2 rfl ?_))
          refine KL.cq 42 rfl ?_ ?_
          · intro hg42
            refine KL.fin 6 rfl (KQ.seq (KC.condT rfl (KC.sr (KL.fin 1 rfl (KQ.seq (KC.ret (KQ.retThen (KQ.retThen (KQ.ofRet (KQ.fin1 Tryd.results128 rfl ?_))))))))))
            (exact ⟨⟨false, rfl, fun h => absurd h (by decide), fun h => absurd ((Isp.may_iff hx hll (fun y hy => hs0.rng y hy)).1 h) (fun ⟨k1, k2⟩ => by (unfold Isp.mayC at k2; omega))⟩, o0⟩)
          intro hg42
          refine KL.run 1 rfl (KL.ld rfl (cell_of bx rfl) (KL.fin 4 rfl (KQ.seq ?_)))
          refine KC.iq rfl ?_ ?_
          · intro hc48
            refine KC.sr (KL.fin 1 rfl (KQ.seq (KC.ret (KQ.retThen (KQ.retThen (KQ.ofRet (KQ.fin1 Tryd.results128 rfl ?_)))))))
            (exact ⟨⟨false, rfl, fun h => absurd h (by decide), fun h => absurd ((Isp.may_iff hx hll (fun y hy => hs0.rng y hy)).1 h) (fun ⟨k1, k2⟩ => by (unfold Isp.mayC at k2; omega))⟩, o0⟩)
          intro hc48
          refine KC.skip ?_
          refine KQ.meet () ?_ ?_
          · exact Sub.all rfl
          exact ⟨rfl, by simp_all, by omega, by omega⟩
        intro hg38
        refine KL.fin 10 rfl (KQ.seq (KC.condF rfl (KC.skip ?_)))
        refine KQ.meet () ?_ ?_
        · exact Sub.all rfl
        exact ⟨rfl, by simp_all, by omega, by omega⟩
      intro hg24
      refine KL.run 14 rfl ?_
      refine KL.cq 38 rfl ?_ ?_
      · intro hg38
        refine KL.run 1 rfl (KL.ld rfl (cell_of bx rfl) (KL.run 2 rfl ?_))
        refine KL.cq 42 rfl ?_ ?_
        · intro hg42
          refine KL.fin 6 rfl (KQ.seq (KC.condT rfl (KC.sr (KL.fin 1 rfl (KQ.seq (KC.ret (KQ.retThen (KQ.retThen (KQ.ofRet (KQ.fin1 Tryd.results128 rfl ?_))))))))))
          (exact ⟨⟨false, rfl, fun h => absurd h (by decide), fun h => absurd ((Isp.may_iff hx hll (fun y hy => hs0.rng y hy)).1 h) (fun ⟨k1, k2⟩ => by (unfold Isp.mayC at k2; omega))⟩, o0⟩)
        intro hg42
        refine KL.run 1 rfl (KL.ld rfl (cell_of bx rfl) (KL.fin 4 rfl (KQ.seq ?_)))
        refine KC.iq rfl ?_ ?_
        · intro hc48
          refine KC.sr (KL.fin 1 rfl (KQ.seq (KC.ret (KQ.retThen (KQ.retThen (KQ.ofRet (KQ.fin1 Tryd.results128 rfl ?_)))))))
          (exact ⟨⟨false, rfl, fun h => absurd h (by decide), fun h => absurd ((Isp.may_iff hx hll (fun y hy => hs0.rng y hy)).1 h) (fun ⟨k1, k2⟩ => by (unfold Isp.mayC at k2; omega))⟩, o0⟩)
        intro hc48
        refine KC.skip ?_
        refine KQ.meet () ?_ ?_
        · exact Sub.all rfl
        exact ⟨rfl, by simp_all, by omega, by omega⟩
      intro hg38
      refine KL.fin 10 rfl (KQ.seq (KC.condF rfl (KC.skip ?_)))
      refine KQ.meet () ?_ ?_
      · exact Sub.all rfl
      exact ⟨rfl, by simp_all, by omega, by omega⟩
    intro hg19
    refine KL.run 19 rfl ?_
    refine KL.cq 38 rfl ?_ ?_
    · intro hg38
      refine KL.run 1 rfl (KL.ld rfl (cell_of bx rfl) (KL.run 2 rfl ?_))
      refine KL.cq 42 rfl ?_ ?_
      · intro hg42
        refine KL.fin 6 rfl (KQ.seq (KC.condT rfl (KC.sr (KL.fin 1 rfl (KQ.seq (KC.ret (KQ.retThen (KQ.retThen (KQ.ofRet (KQ.fin1 Tryd.results128 rfl ?_))))))))))
        (exact ⟨⟨false, rfl, fun h => absurd h (by decide), fun h => absurd ((Isp.may_iff hx hll (fun y hy => hs0.rng y hy)).1 h) (fun ⟨k1, k2⟩ => by (unfold Isp.mayC at k2; omega))⟩, o0⟩)
      intro hg42
      refine KL.run 1 rfl (KL.ld rfl (cell_of bx rfl) (KL.fin 4 rfl (KQ.seq ?_)))
      refine KC.iq rfl ?_ ?_
      · intro hc48
        refine KC.sr (KL.fin 1 rfl (KQ.seq (KC.ret (KQ.retThen (KQ.retThen (KQ.ofRet (KQ.fin1 Tryd.results128 rfl ?_)))))))
        (exact ⟨⟨false, rfl, fun h => absurd h (by decide), fun h => absurd ((Isp.may_iff hx hll (fun y hy => hs0.rng y hy)).1 h) (fun ⟨k1, k2⟩ => by (unfold Isp.mayC at k2; omega))⟩, o0⟩)
      intro hc48
      refine KC.skip ?_
      refine KQ.meet () ?_ ?_
      · exact Sub.all rfl
      exact ⟨rfl, by simp_all, by omega, by omega⟩
    intro hg38
    refine KL.fin 10 rfl (KQ.seq (KC.condF rfl (KC.skip ?_)))
    refine KQ.meet () ?_ ?_
    · exact Sub.all rfl
    exact ⟨rfl, by simp_all, by omega, by omega⟩
  rintro _ _ ⟨rfl, hk, h1, h8⟩
  refine KQ.seq (KC.seq (KC.sr (KL.run 3 rfl ?_)))
  refine KL.cq 51 rfl ?_ ?_
  · intro hg51
    refine KL.run 5 rfl (KL.ld rfl (cell_of bx rfl) (KL.run 3 rfl ?_))
    refine KL.cq 60 rfl ?_ ?_
    · intro hg60
      refine KL.fin 27 rfl (KQ.seq (KC.condT rfl (KC.sr (KL.fin 1 rfl (KQ.seq (KC.ret (KQ.retThen (KQ.ofRet (KQ.fin1 Tryd.results128 rfl ?_)))))))))
      (exact ⟨⟨false, rfl, fun h => absurd h (by decide), fun h => absurd ((Isp.may_iff hx hll (fun y hy => hs0.rng y hy)).1 h) (fun ⟨k1, k2⟩ => by (unfold Isp.mayC at k2; omega))⟩, o0⟩)
    intro hg60
    refine KL.run 3 rfl ?_
    refine KL.cq 63 rfl ?_ ?_
    · intro hg63
      refine KL.run 1 rfl (KL.ld rfl (cell_of bx rfl) (KL.run 4 rfl ?_))
      refine KL.cq 69 rfl ?_ ?_
      · intro hg69
        refine KL.fin 18 rfl (KQ.seq (KC.condT rfl (KC.sr (KL.fin 1 rfl (KQ.seq (KC.ret (KQ.retThen (KQ.ofRet (KQ.fin1 Tryd.results128 rfl ?_)))))))))
        (exact ⟨⟨false, rfl, fun h => absurd h (by decide), fun h => absurd ((Isp.may_iff hx hll (fun y hy => hs0.rng y hy)).1 h) (fun ⟨k1, k2⟩ => by (unfold Isp.mayC at k2; omega))⟩, o0⟩)
      intro hg69
      refine KL.run 3 rfl ?_
      refine KL.cq 72 rfl ?_ ?_
      · intro hg72
        refine KL.run 1 rfl (KL.ld rfl (cell_of bx rfl) (KL.run 4 rfl ?_))
        refine KL.cq 78 rfl ?_ ?_
        · intro hg78
          refine KL.fin 9 rfl (KQ.seq (KC.condT rfl (KC.sr (KL.fin 1 rfl (KQ.seq (KC.ret (KQ.retThen (KQ.ofRet (KQ.fin1 Tryd.results128 rfl ?_)))))))))
          (exact ⟨⟨false, rfl, fun h => absurd h (by decide), fun h => absurd ((Isp.may_iff hx hll (fun y hy => hs0.rng y hy)).1 h) (fun ⟨k1, k2⟩ => by (unfold Isp.mayC at k2; omega))⟩, o0⟩)
        intro hg78
        refine KL.run 3 rfl ?_
        refine KL.cq 81 rfl ?_ ?_
        · intro hg81
          refine KL.run 1 rfl (KL.ld rfl (cell_of bx rfl) ?_)
          refine KL.q (by exact R.lenS rfl Tryd.underlying24 rfl (by first | assumption)) rfl ?_
          refine KL.fin 3 rfl (KQ.seq ?_)
          refine KC.iq rfl ?_ ?_
          · intro hc87
            refine KC.sr (KL.fin 1 rfl (KQ.seq (KC.ret (KQ.retThen (KQ.ofRet (KQ.fin1 Tryd.results128 rfl ?_))))))
            (exact ⟨⟨false, rfl, fun h => absurd h (by decide), fun h => absurd ((Isp.may_iff hx hll (fun y hy => hs0.rng y hy)).1 h) (fun ⟨k1, k2⟩ => by (unfold Isp.mayC at k2; omega))⟩, o0⟩)
          intro hc87
          refine KC.skip (KQ.sr (KL.fin 1 rfl (KQ.seq (KC.ret (KQ.ofRet (KQ.fin1 Tryd.results128 rfl ?_))))))
          (exact ⟨⟨true, rfl, fun _ => (Isp.may_iff hx hll (fun y hy => hs0.rng y hy)).2 ⟨hk, by unfold Isp.mayC; omega⟩, fun _ => rfl⟩, o0⟩)
        intro hg81
        refine KL.fin 6 rfl (KQ.seq (KC.condF rfl (KC.skip (KQ.sr (KL.fin 1 rfl (KQ.seq (KC.ret (KQ.ofRet (KQ.fin1 Tryd.results128 rfl ?_)))))))))
        (exact ⟨⟨true, rfl, fun _ => (Isp.may_iff hx hll (fun y hy => hs0.rng y hy)).2 ⟨hk, by unfold Isp.mayC; omega⟩, fun _ => rfl⟩, o0⟩)
      intro hg72
      refine KL.run 9 rfl ?_
      refine KL.cq 81 rfl ?_ ?_
      · intro hg81
        refine KL.run 1 rfl (KL.ld rfl (cell_of bx rfl) ?_)
        refine KL.q (by exact R.lenS rfl Tryd.underlying24 rfl (by first | assumption)) rfl ?_
        refine KL.fin 3 rfl (KQ.seq ?_)
        refine KC.iq rfl ?_ ?_
        · intro hc87
          refine KC.sr (KL.fin 1 rfl (KQ.seq (KC.ret (KQ.retThen (KQ.ofRet (KQ.fin1 Tryd.results128 rfl ?_))))))
          (exact ⟨⟨false, rfl, fun h => absurd h (by decide), fun h => absurd ((Isp.may_iff hx hll (fun y hy => hs0.rng y hy)).1 h) (fun ⟨k1, k2⟩ => by (unfold Isp.mayC at k2; omega))⟩, o0⟩)
        intro hc87
        refine KC.skip (KQ.sr (KL.fin 1 rfl (KQ.seq (KC.ret (KQ.ofRet (KQ.fin1 Tryd.results128 rfl ?_))))))
        (exact ⟨⟨true, rfl, fun _ => (Isp.may_iff hx hll (fun y hy => hs0.rng y hy)).2 ⟨hk, by unfold Isp.mayC; omega⟩, fun _ => rfl⟩, o0⟩)
      intro hg81
      refine KL.fin 6 rfl (KQ.seq (KC.condF rfl (KC.skip (KQ.sr (KL.fin 1 rfl (KQ.seq (KC.ret (KQ.ofRet (KQ.fin1 Tryd.results128 rfl ?_)))))))))
      (exact ⟨⟨true, rfl, fun _ => (Isp.may_iff hx hll (fun y hy => hs0.rng y hy)).2 ⟨hk, by unfold Isp.mayC; omega⟩, fun _ => rfl⟩, o0⟩)
    intro hg63
    refine KL.run 9 rfl ?_
    refine KL.cq 72 rfl ?_ ?_
    · intro hg72
      refine KL.run 1 rfl (KL.ld rfl (cell_of bx rfl) (KL.run 4 rfl ?_))
      refine KL.cq 78 rfl ?_ ?_
      · intro hg78
        refine KL.fin 9 rfl (KQ.seq (KC.condT rfl (KC.sr (KL.fin 1 rfl (KQ.seq (KC.ret (KQ.retThen (KQ.ofRet (KQ.fin1 Tryd.results128 rfl ?_)))))))))
        (exact ⟨⟨false, rfl, fun h => absurd h (by decide), fun h => absurd ((Isp.may_iff hx hll (fun y hy => hs0.rng y hy)).1 h) (fun ⟨k1, k2⟩ => by (unfold Isp.mayC at k2; omega))⟩, o0⟩)
      intro hg78
      refine KL.run 3 rfl ?_
      refine KL.cq 81 rfl ?_ ?_
      · intro hg81
        refine KL.run 1 rfl (KL.ld rfl (cell_of bx rfl) ?_)
        refine KL.q (by exact R.lenS rfl Tryd.underlying24 rfl (by first | assumption)) rfl ?_
        refine KL.fin 3 rfl (KQ.seq ?_)
        refine KC.iq rfl ?_ ?_
        · intro hc87
          refine KC.sr (KL.fin 1 rfl (KQ.seq (KC.ret (KQ.retThen (KQ.ofRet (KQ.fin1 Tryd.results128 rfl ?_))))))
          (exact ⟨⟨false, rfl, fun h => absurd h (by decide), fun h => absurd ((Isp.may_iff hx hll (fun y hy => hs0.rng y hy)).1 h) (fun ⟨k1, k2⟩ => by (unfold Isp.mayC at k2; omega))⟩, o0⟩)
        intro hc87
        refine KC.skip (KQ.sr (KL.fin 1 rfl (KQ.seq (KC.ret (KQ.ofRet (KQ.fin1 Tryd.results128 rfl ?_))))))
        (exact ⟨⟨true, rfl, fun _ => (Isp.may_iff hx hll (fun y hy => hs0.rng y hy)).2 ⟨hk, by unfold Isp.mayC; omega⟩, fun _ => rfl⟩, o0⟩)
      intro hg81
      refine KL.fin 6 rfl (KQ.seq (KC.condF rfl (KC.skip (KQ.sr (KL.fin 1 rfl (KQ.seq (KC.ret (KQ.ofRet (KQ.fin1 Tryd.results128 rfl ?_)))))))))
      (exact ⟨⟨true, rfl, fun _ => (Isp.may_iff hx hll (fun y hy => hs0.rng y hy)).2 ⟨hk, by unfold Isp.mayC; omega⟩, fun _ => rfl⟩, o0⟩)
    intro hg72
    refine KL.run 9 rfl ?_
    refine KL.cq 81 rfl ?_ ?_
    · intro hg81
      refine KL.run 1 rfl (KL.ld rfl (cell_of bx rfl) ?_)
      refine KL.q (by exact R.lenS rfl Tryd.underlying24 rfl (by first | assumption)) rfl ?_
      refine KL.fin 3 rfl (KQ.seq ?_)
      refine KC.iq rfl ?_ ?_
      · intro hc87
        refine KC.sr (KL.fin 1 rfl (KQ.seq (KC.ret (KQ.retThen (KQ.ofRet (KQ.fin1 Tryd.results128 rfl ?_))))))
        (exact ⟨⟨false, rfl, fun h => absurd h (by decide), fun h => absurd ((Isp.may_iff hx hll (fun y hy => hs0.rng y hy)).1 h) (fun ⟨k1, k2⟩ => by (unfold Isp.mayC at k2; omega))⟩, o0⟩)
      intro hc87
      refine KC.skip (KQ.sr (KL.fin 1 rfl (KQ.seq (KC.ret (KQ.ofRet (KQ.fin1 Tryd.results128 rfl ?_))))))
      (exact ⟨⟨true, rfl, fun _ => (Isp.may_iff hx hll (fun y hy => hs0.rng y hy)).2 ⟨hk, by unfold Isp.mayC; omega⟩, fun _ => rfl⟩, o0⟩)
    intro hg81
    refine KL.fin 6 rfl (KQ.seq (KC.condF rfl (KC.skip (KQ.sr (KL.fin 1 rfl (KQ.seq (KC.ret (KQ.ofRet (KQ.fin1 Tryd.results128 rfl ?_)))))))))
    (exact ⟨⟨true, rfl, fun _ => (Isp.may_iff hx hll (fun y hy => hs0.rng y hy)).2 ⟨hk, by unfold Isp.mayC; omega⟩, fun _ => rfl⟩, o0⟩)
  intro hg51
  refine KL.run 4 rfl ?_
  refine KL.cq 55 rfl ?_ ?_
  · intro hg55
    refine KL.run 1 rfl (KL.ld rfl (cell_of bx rfl) (KL.run 3 rfl ?_))
    refine KL.cq 60 rfl ?_ ?_
    · intro hg60
      refine KL.fin 27 rfl (KQ.seq (KC.condT rfl (KC.sr (KL.fin 1 rfl (KQ.seq (KC.ret (KQ.retThen (KQ.ofRet (KQ.fin1 Tryd.results128 rfl ?_)))))))))
      (exact ⟨⟨false, rfl, fun h => absurd h (by decide), fun h => absurd ((Isp.may_iff hx hll (fun y hy => hs0.rng y hy)).1 h) (fun ⟨k1, k2⟩ => by (unfold Isp.mayC at k2; omega))⟩, o0⟩)
    intro hg60
    refine KL.run 3 rfl ?_
    refine KL.cq 63 rfl ?_ ?_
    · intro hg63
      refine KL.run 1 rfl (KL.ld rfl (cell_of bx rfl) (KL.run 4 rfl ?_))
      refine KL.cq 69 rfl ?_ ?_
      · intro hg69
        refine KL.fin 18 rfl (KQ.seq (KC.condT rfl (KC.sr (KL.fin 1 rfl (KQ.seq (KC.ret (KQ.retThen (KQ.ofRet (KQ.fin1 Tryd.results128 rfl ?_)))))))))
        (exact ⟨⟨false, rfl, fun h => absurd h (by decide), fun h => absurd ((Isp.may_iff hx hll (fun y hy => hs0.rng y hy)).1 h) (fun ⟨k1, k2⟩ => by (unfold Isp.mayC at k2; omega))⟩, o0⟩)
      intro hg69
      refine KL.run 3 rfl ?_
      refine KL.cq 72 rfl ?_ ?_
      · intro hg72
        refine KL.run 1 rfl (KL.ld rfl (cell_of bx rfl) (KL.run 4 rfl ?_))
        refine KL.cq 78 rfl ?_ ?_
        · intro hg78
          refine KL.fin 9 rfl (KQ.seq (KC.condT rfl (KC.sr (KL.fin 1 rfl (KQ.seq (KC.ret (KQ.retThen (KQ.ofRet (KQ.fin1 Tryd.results128 rfl ?_)))))))))
          (exact ⟨⟨false, rfl, fun h => absurd h (by decide), fun h => absurd ((Isp.may_iff hx hll (fun y hy => hs0.rng y hy)).1 h) (fun ⟨k1, k2⟩ => by (unfold Isp.mayC at k2; omega))⟩, o0⟩)
        intro hg78
        refine KL.run 3 rfl ?_
        refine KL.cq 81 rfl ?_ ?_
        · intro hg81
          refine KL.run 1 rfl (KL.ld rfl (cell_of bx rfl) ?_)
          refine KL.q (by exact R.lenS rfl Tryd.underlying24 rfl (by first | assumption)) rfl ?_
          refine KL.fin 3 rfl (KQ.seq ?_)
          refine KC.iq rfl ?_ ?_
          · intro hc87
            refine KC.sr (KL.fin 1 rfl (KQ.seq (KC.ret (KQ.retThen (KQ.ofRet (KQ.fin1 Tryd.results128 rfl ?_))))))
            (exact ⟨⟨false, rfl, fun h => absurd h (by decide), fun h => absurd ((Isp.may_iff hx hll (fun y hy => hs0.rng y hy)).1 h) (fun ⟨k1, k2⟩ => by (unfold Isp.mayC at k2; omega))⟩, o0⟩)
          intro hc87
          refine KC.skip (KQ.sr (KL.fin 1 rfl (KQ.seq (KC.ret (KQ.ofRet (KQ.fin1 Tryd.results128 rfl ?_))))))
          (exact ⟨⟨true, rfl, fun _ => (Isp.may_iff hx hll (fun y hy => hs0.rng y hy)).2 ⟨hk, by unfold Isp.mayC; omega⟩, fun _ => rfl⟩, o0⟩)
        intro hg81
        refine KL.fin 6 rfl (KQ.seq (KC.condF rfl (KC.skip (KQ.sr (KL.fin 1 rfl (KQ.seq (KC.ret (KQ.ofRet (KQ.fin1 Tryd.results128 rfl ?_)))))))))
        (exact ⟨⟨true, rfl, fun _ => (Isp.may_iff hx hll (fun y hy => hs0.rng y hy)).2 ⟨hk, by unfold Isp.mayC; omega⟩, fun _ => rfl⟩, o0⟩)
      intro hg72
      refine KL.run 9 rfl ?_
      refine KL.cq 81 rfl ?_ ?_
      · intro hg81
        refine KL.run 1 rfl (KL.ld rfl (cell_of bx rfl) ?_)
        refine KL.q (by exact R.lenS rfl Tryd.underlying24 rfl (by first | assumption)) rfl ?_
        refine KL.fin 3 rfl (KQ.seq ?_)
        refine KC.iq rfl ?_ ?_
        · intro hc87
          refine KC.sr (KL.fin 1 rfl (KQ.seq (KC.ret (KQ.retThen (KQ.ofRet (KQ.fin1 Tryd.results128 rfl ?_))))))
          (exact ⟨⟨false, rfl, fun h => absurd h (by decide), fun h => absurd ((Isp.may_iff hx hll (fun y hy => hs0.rng y hy)).1 h) (fun ⟨k1, k2⟩ => by (unfold Isp.mayC at k2; omega))⟩, o0⟩)
        intro hc87
        refine KC.skip (KQ.sr (KL.fin 1 rfl (KQ.seq (KC.ret (KQ.ofRet (KQ.fin1 Tryd.results128 rfl ?_))))))
        (exact ⟨⟨true, rfl, fun _ => (Isp.may_iff hx hll (fun y hy => hs0.rng y hy)).2 ⟨hk, by unfold Isp.mayC; omega⟩, fun _ => rfl⟩, o0⟩)
      intro hg81
      refine KL.fin 6 rfl (KQ.seq (KC.condF rfl (KC.skip (KQ.sr (KL.fin 1 rfl (KQ.seq (KC.ret (KQ.ofRet (KQ.fin1 Tryd.results128 rfl ?_)))))))))
      (exact ⟨⟨true, rfl, fun _ => (Isp.may_iff hx hll (fun y hy => hs0.rng y hy)).2 ⟨hk, by unfold Isp.mayC; omega⟩, fun _ => rfl⟩, o0⟩)
    intro hg63
    refine KL.run 9 rfl ?_
    refine KL.cq 72 rfl ?_ ?_
    · intro hg72
      refine KL.run 1 rfl (KL.ld rfl (cell_of bx rfl) (KL.run 4 rfl ?_))
      refine KL.cq 78 rfl ?_ ?_
      · intro hg78
        refine KL.fin 9 rfl (KQ.seq (KC.condT rfl (KC.sr (KL.fin 1 rfl (KQ.seq (KC.ret (KQ.retThen (KQ.ofRet (KQ.fin1 Tryd.results128 rfl ?_)))))))))
        (exact ⟨⟨false, rfl, fun h => absurd h (by decide), fun h => absurd ((Isp.may_iff hx hll (fun y hy => hs0.rng y hy)).1 h) (fun ⟨k1, k2⟩ => by (unfold Isp.mayC at k2; omega))⟩, o0⟩)
      intro hg78
      refine KL.run 3 rfl ?_
      refine KL.cq 81 rfl ?_ ?_
      · intro hg81
        refine KL.run 1 rfl (KL.ld rfl (cell_of bx rfl) ?_)
        refine KL.q (by exact R.lenS rfl Tryd.underlying24 rfl (by first | assumption)) rfl ?_
        refine KL.fin 3 rfl (KQ.seq ?_)
        refine KC.iq rfl ?_ ?_
        · intro hc87
          refine KC.sr (KL.fin 1 rfl (KQ.seq (KC.ret (KQ.retThen (KQ.ofRet (KQ.fin1 Tryd.results128 rfl ?_))))))
          (exact ⟨⟨false, rfl, fun h => absurd h (by decide), fun h => absurd ((Isp.may_iff hx hll (fun y hy => hs0.rng y hy)).1 h) (fun ⟨k1, k2⟩ => by (unfold Isp.mayC at k2; omega))⟩, o0⟩)
        intro hc87
        refine KC.skip (KQ.sr (KL.fin 1 rfl (KQ.seq (KC.ret (KQ.ofRet (KQ.fin1 Tryd.results128 rfl ?_))))))
        (exact ⟨⟨true, rfl, fun _ => (Isp.may_iff hx hll (fun y hy => hs0.rng y hy)).2 ⟨hk, by unfold Isp.mayC; omega⟩, fun _ => rfl⟩, o0⟩)
      intro hg81
      refine KL.fin 6 rfl (KQ.seq (KC.condF rfl (KC.skip (KQ.sr (KL.fin 1 rfl (KQ.seq (KC.ret (KQ.ofRet (KQ.fin1 Tryd.results128 rfl ?_)))))))))
      (exact ⟨⟨true, rfl, fun _ => (Isp.may_iff hx hll (fun y hy => hs0.rng y hy)).2 ⟨hk, by unfold Isp.mayC; omega⟩, fun _ => rfl⟩, o0⟩)
    intro hg72
    refine KL.run 9 rfl ?_
    refine KL.cq 81 rfl ?_ ?_
    · intro hg81
      refine KL.run 1 rfl (KL.ld rfl (cell_of bx rfl) ?_)
      refine KL.q (by exact R.lenS rfl Tryd.underlying24 rfl (by first | assumption)) rfl ?_
      refine KL.fin 3 rfl (KQ.seq ?_)
      refine KC.iq rfl ?_ ?_
      · intro hc87
        refine KC.sr (KL.fin 1 rfl (KQ.seq (KC.ret (KQ.retThen (KQ.ofRet (KQ.fin1 Tryd.results128 rfl ?_))))))
        (exact ⟨⟨false, rfl, fun h => absurd h (by decide), fun h => absurd ((Isp.may_iff hx hll (fun y hy => hs0.rng y hy)).1 h) (fun ⟨k1, k2⟩ => by (unfold Isp.mayC at k2; omega))⟩, o0⟩)
      intro hc87
      refine KC.skip (KQ.sr (KL.fin 1 rfl (KQ.seq (KC.ret (KQ.ofRet (KQ.fin1 Tryd.results128 rfl ?_))))))
      (exact ⟨⟨true, rfl, fun _ => (Isp.may_iff hx hll (fun y hy => hs0.rng y hy)).2 ⟨hk, by unfold Isp.mayC; omega⟩, fun _ => rfl⟩, o0⟩)
    intro hg81
    refine KL.fin 6 rfl (KQ.seq (KC.condF rfl (KC.skip (KQ.sr (KL.fin 1 rfl (KQ.seq (KC.ret (KQ.ofRet (KQ.fin1 Tryd.results128 rfl ?_)))))))))
    (exact ⟨⟨true, rfl, fun _ => (Isp.may_iff hx hll (fun y hy => hs0.rng y hy)).2 ⟨hk, by unfold Isp.mayC; omega⟩, fun _ => rfl⟩, o0⟩)
  intro hg55
  refine KL.run 8 rfl ?_
  refine KL.cq 63 rfl ?_ ?_
  · intro hg63
    refine KL.run 1 rfl (KL.ld rfl (cell_of bx rfl) (KL.run 4 rfl ?_))
    refine KL.cq 69 rfl ?_ ?_
    · intro hg69
      refine KL.fin 18 rfl (KQ.seq (KC.condT rfl (KC.sr (KL.fin 1 rfl (KQ.seq (KC.ret (KQ.retThen (KQ.ofRet (KQ.fin1 Tryd.results128 rfl ?_)))))))))
      (exact ⟨⟨false, rfl, fun h => absurd h (by decide), fun h => absurd ((Isp.may_iff hx hll (fun y hy => hs0.rng y hy)).1 h) (fun ⟨k1, k2⟩ => by (unfold Isp.mayC at k2; omega))⟩, o0⟩)
    intro hg69
    refine KL.run 3 rfl ?_
    refine KL.cq 72 rfl ?_ ?_
    · intro hg72
      refine KL.run 1 rfl (KL.ld rfl (cell_of bx rfl) (KL.run 4 rfl ?_))
      refine KL.cq 78 rfl ?_ ?_
      · intro hg78
        refine KL.fin 9 rfl (KQ.seq (KC.condT rfl (KC.sr (KL.fin 1 rfl (KQ.seq (KC.ret (KQ.retThen (KQ.ofRet (KQ.fin1 Tryd.results128 rfl ?_)))))))))
        (exact ⟨⟨false, rfl, fun h => absurd h (by decide), fun h => absurd ((Isp.may_iff hx hll (fun y hy => hs0.rng y hy)).1 h) (fun ⟨k1, k2⟩ => by (unfold Isp.mayC at k2; omega))⟩, o0⟩)
      intro hg78
      refine KL.run 3 rfl ?_
      refine KL.cq 81 rfl ?_ ?_
      · intro hg81
        refine KL.run 1 rfl (KL.ld rfl (cell_of bx rfl) ?_)
        refine KL.q (by exact R.lenS rfl Tryd.underlying24 rfl (by first | assumption)) rfl ?_
        refine KL.fin 3 rfl (KQ.seq ?_)
        refine KC.iq rfl ?_ ?_
        · intro hc87
          refine KC.sr (KL.fin 1 rfl (KQ.seq (KC.ret (KQ.retThen (KQ.ofRet (KQ.fin1 Tryd.results128 rfl ?_))))))
          (exact ⟨⟨false, rfl, fun h => absurd h (by decide), fun h => absurd ((Isp.may_iff hx hll (fun y hy => hs0.rng y hy)).1 h) (fun ⟨k1, k2⟩ => by (unfold Isp.mayC at k2; omega))⟩, o0⟩)
        intro hc87
        refine KC.skip (KQ.sr (KL.fin 1 rfl (KQ.seq (KC.ret (KQ.ofRet (KQ.fin1 Tryd.results128 rfl ?_))))))
        (exact ⟨⟨true, rfl, fun _ => (Isp.may_iff hx hll (fun y hy => hs0.rng y hy)).2 ⟨hk, by unfold Isp.mayC; omega⟩, fun _ => rfl⟩, o0⟩)
      intro hg81
      refine KL.fin 6 rfl (KQ.seq (KC.condF rfl (KC.skip (KQ.sr (KL.fin 1 rfl (KQ.seq (KC.ret (KQ.ofRet (KQ.fin1 Tryd.results128 rfl ?_)))))))))
      (exact ⟨⟨true, rfl, fun _ => (Isp.may_iff hx hll (fun y hy => hs0.rng y hy)).2 ⟨hk, by unfold Isp.mayC; omega⟩, fun _ => rfl⟩, o0⟩)
    intro hg72
    refine KL.run 9 rfl ?_
    refine KL.cq 81 rfl ?_ ?_
    · intro hg81
      refine KL.run 1 rfl (KL.ld rfl (cell_of bx rfl) ?_)
      refine KL.q (by exact R.lenS rfl Tryd.underlying24 rfl (by first | assumption)) rfl ?_
      refine KL.fin 3 rfl (KQ.seq ?_)
      refine KC.iq rfl ?_ ?_
      · intro hc87
        refine KC.sr (KL.fin 1 rfl (KQ.seq (KC.ret (KQ.retThen (KQ.ofRet (KQ.fin1 Tryd.results128 rfl ?_))))))
        (exact ⟨⟨false, rfl, fun h => absurd h (by decide), fun h => absurd ((Isp.may_iff hx hll (fun y hy => hs0.rng y hy)).1 h) (fun ⟨k1, k2⟩ => by (unfold Isp.mayC at k2; omega))⟩, o0⟩)
      intro hc87
      refine KC.skip (KQ.sr (KL.fin 1 rfl (KQ.seq (KC.ret (KQ.ofRet (KQ.fin1 Tryd.results128 rfl ?_))))))
      (exact ⟨⟨true, rfl, fun _ => (Isp.may_iff hx hll (fun y hy => hs0.rng y hy)).2 ⟨hk, by unfold Isp.mayC; omega⟩, fun _ => rfl⟩, o0⟩)
    intro hg81
    refine KL.fin 6 rfl (KQ.seq (KC.condF rfl (KC.skip (KQ.sr (KL.fin 1 rfl (KQ.seq (KC.ret (KQ.ofRet (KQ.fin1 Tryd.results128 rfl ?_)))))))))
    (exact ⟨⟨true, rfl, fun _ => (Isp.may_iff hx hll (fun y hy => hs0.rng y hy)).2 ⟨hk, by unfold Isp.mayC; omega⟩, fun _ => rfl⟩, o0⟩)
  intro hg63
  refine KL.run 9 rfl ?_
  refine KL.cq 72 rfl ?_ ?_
  · intro hg72
    refine KL.run 1 rfl (KL.ld rfl (cell_of bx rfl) (KL.run 4 rfl ?_))
    refine KL.cq 78 rfl ?_ ?_
    · intro hg78
      refine KL.fin 9 rfl (KQ.seq (KC.condT rfl (KC.sr (KL.fin 1 rfl (KQ.seq (KC.ret (KQ.retThen (KQ.ofRet (KQ.fin1 Tryd.results128 rfl ?_)))))))))
      (exact ⟨⟨false, rfl, fun h => absurd h (by decide), fun h => absurd ((Isp.may_iff hx hll (fun y hy => hs0.rng y hy)).1 h) (fun ⟨k1, k2⟩ => by (unfold Isp.mayC at k2; omega))⟩, o0⟩)
    intro hg78
    refine KL.run 3 rfl ?_
    refine KL.cq 81 rfl ?_ ?_
    · intro hg81
      refine KL.run 1 rfl (KL.ld rfl (cell_of bx rfl) ?_)
      refine KL.q (by exact R.lenS rfl Tryd.underlying24 rfl (by first | assumption)) rfl ?_
      refine KL.fin 3 rfl (KQ.seq ?_)
      refine KC.iq rfl ?_ ?_
      · intro hc87
        refine KC.sr (KL.fin 1 rfl (KQ.seq (KC.ret (KQ.retThen (KQ.ofRet (KQ.fin1 Tryd.results128 rfl ?_))))))
        (exact ⟨⟨false, rfl, fun h => absurd h (by decide), fun h => absurd ((Isp.may_iff hx hll (fun y hy => hs0.rng y hy)).1 h) (fun ⟨k1, k2⟩ => by (unfold Isp.mayC at k2; omega))⟩, o0⟩)
      intro hc87
      refine KC.skip (KQ.sr (KL.fin 1 rfl (KQ.seq (KC.ret (KQ.ofRet (KQ.fin1 Tryd.results128 rfl ?_))))))
      (exact ⟨⟨true, rfl, fun _ => (Isp.may_iff hx hll (fun y hy => hs0.rng y hy)).2 ⟨hk, by unfold Isp.mayC; omega⟩, fun _ => rfl⟩, o0⟩)
    intro hg81
    refine KL.fin 6 rfl (KQ.seq (KC.condF rfl (KC.skip (KQ.sr (KL.fin 1 rfl (KQ.seq (KC.ret (KQ.ofRet (KQ.fin1 Tryd.results128 rfl ?_)))))))))
    (exact ⟨⟨true, rfl, fun _ => (Isp.may_iff hx hll (fun y hy => hs0.rng y hy)).2 ⟨hk, by unfold Isp.mayC; omega⟩, fun _ => rfl⟩, o0⟩)
  intro hg72
  refine KL.run 9 rfl ?_
  refine KL.cq 81 rfl ?_ ?_
  · intro hg81
    refine KL.run 1 rfl (KL.ld rfl (cell_of bx rfl) ?_)
    refine KL.q (by exact R.lenS rfl Tryd.underlying24 rfl (by first | assumption)) rfl ?_
    refine KL.fin 3 rfl (KQ.seq ?_)
    refine KC.iq rfl ?_ ?_
    · intro hc87
      refine KC.sr (KL.fin 1 rfl (KQ.seq (KC.ret (KQ.retThen (KQ.ofRet (KQ.fin1 Tryd.results128 rfl ?_))))))
      (exact ⟨⟨false, rfl, fun h => absurd h (by decide), fun h => absurd ((Isp.may_iff hx hll (fun y hy => hs0.rng y hy)).1 h) (fun ⟨k1, k2⟩ => by (unfold Isp.mayC at k2; omega))⟩, o0⟩)
    intro hc87
    refine KC.skip (KQ.sr (KL.fin 1 rfl (KQ.seq (KC.ret (KQ.ofRet (KQ.fin1 Tryd.results128 rfl ?_))))))
    (exact ⟨⟨true, rfl, fun _ => (Isp.may_iff hx hll (fun y hy => hs0.rng y hy)).2 ⟨hk, by unfold Isp.mayC; omega⟩, fun _ => rfl⟩, o0⟩)
  intro hg81
  refine KL.fin 6 rfl (KQ.seq (KC.condF rfl (KC.skip (KQ.sr (KL.fin 1 rfl (KQ.seq (KC.ret (KQ.ofRet (KQ.fin1 Tryd.results128 rfl ?_)))))))))
  (exact ⟨⟨true, rfl, fun _ => (Isp.may_iff hx hll (fun y hy => hs0.rng y hy)).2 ⟨hk, by unfold Isp.mayC; omega⟩, fun _ => rfl⟩, o0⟩)
end Go.Proofs.YtldmfchamcpmmaaDoor
namespace Go.Proofs.YtldmfchamcpmmaaDoor
open Go Go.RowKit
set_option linter.unusedVariables false
set_option linter.unusedSimpArgs false
set_option linter.unnecessarySimpa false
theorem Few_k {H : Heap} (z : Int) (h : InR .u32 z) : Ct Tryd.prog 86 [.int .u64 z, .bool false] H (fun u H' => Own 1 (EInt .u8) 5 #[] H.size H' u (Isp.apN false z) ∧ Old H H') :=
  Fewest_k z (by dsimp only [InR] at h; omega) (by dsimp only [InR] at h; omega)
theorem FewS_k {H : Heap} (c : Int) (h : InR .i64 c) : Ct Tryd.prog 86 [.int .u64 (IntKind.u64.wrap c), .bool true] H (fun u H' => Own 1 (EInt .u8) 5 #[] H.size H' u (Isp.apN true c) ∧ Old H H') :=
  Ct.fresh rfl fun w hw => Fewest_any _ c true w (by
    dsimp only [InR] at h
    have e : IntKind.u64.wrap c = c % 18446744073709551616 := by simp [IntKind.wrap, IntKind.bits, IntKind.signed]
    rw [e]
    refine ⟨by omega, by rw [show (2 : Int) ^ 64 = 18446744073709551616 by decide]; omega, ?_⟩
    rw [show (2 : Int) ^ 64 = 18446744073709551616 by decide]
    split <;> simp at * <;> omega)
theorem apL {z : Int} (h : InR .u32 z) : (Isp.apN false z).length ≤ 10 := (Isp.apN_len (b := 32) (by omega) ((Isp.okU_iff z).1 ⟨by dsimp only [InR] at h; omega, by dsimp only [InR] at h; omega⟩)).2
theorem apS {z : Int} (h : InR .i64 z) : (Isp.apN true z).length ≤ 10 := (Isp.apN_len (sg := true) (b := 64) (by omega) (by unfold Isp.okN; dsimp only [InR] at h; simp; omega)).2
theorem apF {xs : List Int} (h : ∀ y ∈ xs, InR .u32 y) : (xs.flatMap (Isp.apN false)).length ≤ 10 * xs.length := by
  induction xs with
  | nil => simp
  | cons y t ih =>
    have := apL (h y (by simp))
    have := ih (fun z hz => h z (by simp [hz]))
    simp only [List.flatMap_cons, List.length_append, List.length_cons]
    omega
theorem fm_take {xs : List Int} {k : Nat} (hk : k < xs.length) : (xs.take (k + 1)).flatMap (Isp.apN false) = (xs.take k).flatMap (Isp.apN false) ++ Isp.apN false (xs.getD k default) := by
  rw [List.take_add_one, List.getElem?_eq_getElem hk, List.flatMap_append, List.getD_eq_getElem?_getD, List.getElem?_eq_getElem hk]
  simp
theorem RBytes0 {H : Heap} {x : Ins} {vl : Value} (hx : InsR x) (hll : x.l.length ≤ 100000000) (hs : Sl 1 (EInt .u32) H vl x.l) (hf : Opc.form x.op = 0) : Ct Tryd.prog 129 [insV x vl] H (fun u H' => Own 1 (EInt .u8) 5 #[] H.size H' u (Isp.bytes x) ∧ Old H H') := by
  refine Ct.mk Tryd.func129 rfl Tryd.ntmps129 rfl ?_
  intro W0 hW0
  have o0 : Old H H := Old.refl H
  have hs0 := hs
  have hxa := hx.2.1
  have hxb := hx.2.2.1
  dsimp only [InR] at hxa hxb
  unfold insV
  refine KC.sr ?_
  refine KL.m (M.box rfl rfl rfl) rfl ?_
  rintro _ H1 ⟨rfl, n1⟩
  have z1 := n1.2.1
  have o0 := o0.trans n1.1
  have hs := hs.old n1.1
  have b1 := n1.2.2
  have bx := b1
  refine KL.fin 1 rfl (KQ.sr (KL.run 1 rfl (KL.ld rfl (cell_of bx rfl) ?_)))
  refine KL.c rfl Tryd.call150 (RFindK _ hx.1) ?_
  rintro _ H2 ⟨⟨a1, a2, a4, a5, rfl⟩, ox⟩
  have zc_H2 := (ox).1
  have o0 := o0.trans ox
  have hs := hs.old ox
  have bx := (ox).blk bx
  rw [hf]
  refine KL.run 3 rfl ?_
  refine KL.m (M.alloc rfl zr229 rfl) rfl ?_
  rintro _ H3 ⟨rfl, n3⟩
  have z3 := n3.2.1
  have o0 := o0.trans n3.1
  have hs := hs.old n3.1
  have bx := (n3.1).blk bx
  have b3 := n3.2.2
  have bw := b3
  refine KL.opS (S.storeAgg rfl sz229 rfl rfl (rfl) (by intro u hu; simp only [List.mem_cons, List.not_mem_nil, or_false] at hu; rcases hu with rfl | rfl | rfl | rfl | rfl <;> rfl) bw (by simp)) rfl rfl ?_
  rintro H4 ⟨u4, b4⟩
  have o0 := o0.upd u4 (by omega)
  have zu4 := u4.1
  have bx := ((u4).2 _ (by omega)).trans bx
  have bw := b4
  rw [over_all (by rfl)] at bw
  refine KL.fin 1 rfl (KQ.sr (KL.run 1 rfl (KL.ld rfl (cell_of bx rfl) ?_)))
  refine KL.m (M.lit rfl Tryd.underlying36 zs5 (by decide) rfl rfl rfl) rfl ?_
  rintro _ H5 ⟨rfl, n5⟩
  have z5 := n5.2.1
  have o0 := o0.trans n5.1
  have bx := (n5.1).blk bx
  have bw := (n5.1).blk bw
  have b5 := n5.2.2
  have hvb : vblock (Value.slice (some ⟨Array.size H4, 0, none⟩) 1 1) = Array.size H4 := rfl
  have wo : Own 1 (EInt .u8) 5 #[] (Array.size H4) H5 _ [x.op] := Own.litI (l := [x.op]) (m := 1) n5 (by omega) rfl (by decide) (by intro y hy; simp only [List.mem_cons, List.not_mem_nil, or_false] at hy; subst hy; exact hx.1)
  refine KL.fin 1 rfl (KQ.seq (KC.seq (KC.sr (KL.run 1 rfl (KL.ld rfl (cell_of bw rfl) (KL.fin 1 rfl (KQ.seq ?_)))))))
  refine KC.condIs false rfl (by decide) ?_
  refine KC.skip (KQ.seq (KC.seq (KC.sr (KL.run 1 rfl (KL.ld rfl (cell_of bw rfl) (KL.fin 1 rfl (KQ.seq ?_)))))))
  refine KC.condIs false rfl (by decide) ?_
  refine KC.skip (KQ.seq (KC.seq (KC.sr (KL.run 1 rfl (KL.ld rfl (cell_of bw rfl) (KL.q ((R.geq rfl rfl rfl).val (congrArg Value.bool (decide_eq_false (by decide)))) rfl (KL.fin 5 rfl (KQ.seq (KC.condF rfl (KC.skip (KQ.seq (KC.seq ?_))))))))))))
  refine KC.sr (KL.run 1 rfl (KL.ld rfl (cell_of bw rfl) (KL.fin 1 rfl (KQ.seq ?_))))
  refine KC.condIs false rfl (by decide) ?_
  refine KC.skip (KQ.seq (KC.seq (KC.sr (KL.run 1 rfl (KL.ld rfl (cell_of bw rfl) (KL.e0 rfl (by decide) (KL.run 2 rfl (KL.ld rfl (cell_of bw rfl) (KL.e0 rfl (by decide) (KL.fin 1 rfl (KQ.seq (KC.condF rfl ?_))))))))))))
  refine KC.skip (KQ.seq (KC.seq (KC.sr (KL.run 1 rfl (KL.ld rfl (cell_of bw rfl) (KL.fin 1 rfl (KQ.seq ?_)))))))
  refine KC.condIs false rfl (by decide) ?_
  refine KC.skip (KQ.sr (KL.fin 2 rfl (KQ.seq (KC.ret (KQ.ofRet (KQ.fin1 Tryd.results129 rfl ?_))))))
  have e : Isp.bytes x = x.op :: [] := by unfold Isp.bytes Isp.bodyE Isp.rest Isp.labsE; rw [hf]; simp
  rw [e]
  exact ⟨by simpa [List.append_assoc] using wo.weak (by omega), o0⟩
theorem RBytes1 {H : Heap} {x : Ins} {vl : Value} (hx : InsR x) (hll : x.l.length ≤ 100000000) (hs : Sl 1 (EInt .u32) H vl x.l) (hf : Opc.form x.op = 1) (ha : x.a = 64 ∨ x.a = 127 ∨ x.a = 126) : Ct Tryd.prog 129 [insV x vl] H (fun u H' => Own 1 (EInt .u8) 5 #[] H.size H' u (Isp.bytes x) ∧ Old H H') := by
  refine Ct.mk Tryd.func129 rfl Tryd.ntmps129 rfl ?_
  intro W0 hW0
  have o0 : Old H H := Old.refl H
  have hs0 := hs
  have hxa := hx.2.1
  have hxb := hx.2.2.1
  dsimp only [InR] at hxa hxb
  unfold insV
  refine KC.sr ?_
  refine KL.m (M.box rfl rfl rfl) rfl ?_
  rintro _ H1 ⟨rfl, n1⟩
  have z1 := n1.2.1
  have o0 := o0.trans n1.1
  have hs := hs.old n1.1
  have b1 := n1.2.2
  have bx := b1
  refine KL.fin 1 rfl (KQ.sr (KL.run 1 rfl (KL.ld rfl (cell_of bx rfl) ?_)))
  refine KL.c rfl Tryd.call150 (RFindK _ hx.1) ?_
  rintro _ H2 ⟨⟨a1, a2, a4, a5, rfl⟩, ox⟩
  have zc_H2 := (ox).1
  have o0 := o0.trans ox
  have hs := hs.old ox
  have bx := (ox).blk bx
  rw [hf]
  refine KL.run 3 rfl ?_
  refine KL.m (M.alloc rfl zr229 rfl) rfl ?_
  rintro _ H3 ⟨rfl, n3⟩
  have z3 := n3.2.1
  have o0 := o0.trans n3.1
  have hs := hs.old n3.1
  have bx := (n3.1).blk bx
  have b3 := n3.2.2
  have bw := b3
  refine KL.opS (S.storeAgg rfl sz229 rfl rfl (rfl) (by intro u hu; simp only [List.mem_cons, List.not_mem_nil, or_false] at hu; rcases hu with rfl | rfl | rfl | rfl | rfl <;> rfl) bw (by simp)) rfl rfl ?_
  rintro H4 ⟨u4, b4⟩
  have o0 := o0.upd u4 (by omega)
  have zu4 := u4.1
  have bx := ((u4).2 _ (by omega)).trans bx
  have bw := b4
  rw [over_all (by rfl)] at bw
  refine KL.fin 1 rfl (KQ.sr (KL.run 1 rfl (KL.ld rfl (cell_of bx rfl) ?_)))
  refine KL.m (M.lit rfl Tryd.underlying36 zs5 (by decide) rfl rfl rfl) rfl ?_
  rintro _ H5 ⟨rfl, n5⟩
  have z5 := n5.2.1
  have o0 := o0.trans n5.1
  have bx := (n5.1).blk bx
  have bw := (n5.1).blk bw
  have b5 := n5.2.2
  have hvb : vblock (Value.slice (some ⟨Array.size H4, 0, none⟩) 1 1) = Array.size H4 := rfl
  have wo : Own 1 (EInt .u8) 5 #[] (Array.size H4) H5 _ [x.op] := Own.litI (l := [x.op]) (m := 1) n5 (by omega) rfl (by decide) (by intro y hy; simp only [List.mem_cons, List.not_mem_nil, or_false] at hy; subst hy; exact hx.1)
  refine KL.fin 1 rfl (KQ.seq (KC.seq (KC.sr (KL.run 1 rfl (KL.ld rfl (cell_of bw rfl) (KL.fin 1 rfl (KQ.seq ?_)))))))
  refine KC.condIs false rfl (by decide) ?_
  refine KC.skip (KQ.seq (KC.seq (KC.sr (KL.run 1 rfl (KL.ld rfl (cell_of bw rfl) (KL.fin 1 rfl (KQ.seq ?_)))))))
  refine KC.condIs true rfl (by decide) ?_
  refine KC.region (KL.run 2 rfl (KL.ld rfl (cell_of bx rfl) ?_))
  refine KL.q (R.convI rfl Tryd.underlying28 Tryd.underlying5 rfl (by dsimp only [InR]; omega)) rfl ?_
  refine KL.m (M.lit rfl Tryd.underlying36 zs5 (by decide) rfl rfl rfl) rfl ?_
  rintro _ H6 ⟨rfl, n6⟩
  have z6 := n6.2.1
  have o0 := o0.trans n6.1
  have bx := (n6.1).blk bx
  have bw := (n6.1).blk bw
  have wo := wo.old n6.1
  have b6 := n6.2.2
  have hap : Sl 1 (EInt .u8) H6 _ [x.a] := Sl.lits (l := [x.a]) n6 rfl (by simp) (by intro y hy; simp only [List.mem_cons, List.not_mem_nil, or_false] at hy; subst hy; dsimp only [InR]; omega)
  have lt7 := wo.lt
  refine KL.m (M.append rfl Tryd.underlying36 inf5 rfl (by decide) rfl rfl wo hap (fun _ _ h _ => h) (by omega) (by simp only [List.length_append, List.length_cons, List.length_nil, List.length_take]; omega) (by unfold maxLen; simp only [List.length_append, List.length_cons, List.length_nil]; omega)) rfl ?_
  rintro vo H7 ⟨w7, g7⟩
  have ob7 := g7.oldB wo (by omega)
  have o0 := o0.then ob7 (by omega)
  have z7 := ob7.1
  have bx := (g7.2 _ (blk_lt bx) (by exact .inr (by omega))).trans bx
  have bw := (g7.2 _ (blk_lt bw) (by exact .inr (by omega))).trans bw
  have wo := w7
  refine KL.fin 1 rfl (KQ.seq (KC.seq (KC.sr (KL.run 1 rfl (KL.ld rfl (cell_of bw rfl) (KL.q ((R.geq rfl rfl rfl).val (congrArg Value.bool (decide_eq_false (by decide)))) rfl (KL.fin 5 rfl (KQ.seq (KC.condF rfl (KC.skip (KQ.seq (KC.seq ?_))))))))))))
  refine KC.sr (KL.run 1 rfl (KL.ld rfl (cell_of bw rfl) (KL.fin 1 rfl (KQ.seq ?_))))
  refine KC.condIs false rfl (by decide) ?_
  refine KC.skip (KQ.seq (KC.seq (KC.sr (KL.run 1 rfl (KL.ld rfl (cell_of bw rfl) (KL.e0 rfl (by decide) (KL.run 2 rfl (KL.ld rfl (cell_of bw rfl) (KL.e0 rfl (by decide) (KL.fin 1 rfl (KQ.seq (KC.condF rfl ?_))))))))))))
  refine KC.skip (KQ.seq (KC.seq (KC.sr (KL.run 1 rfl (KL.ld rfl (cell_of bw rfl) (KL.fin 1 rfl (KQ.seq ?_)))))))
  refine KC.condIs false rfl (by decide) ?_
  refine KC.skip (KQ.sr (KL.fin 2 rfl (KQ.seq (KC.ret (KQ.ofRet (KQ.fin1 Tryd.results129 rfl ?_))))))
  have e : Isp.bytes x = x.op :: [x.a] := by unfold Isp.bytes Isp.bodyE Isp.rest Isp.labsE; rw [hf]; simp
  rw [e]
  exact ⟨by simpa [List.append_assoc] using wo.weak (by omega), o0⟩
theorem RBytes2 {H : Heap} {x : Ins} {vl : Value} (hx : InsR x) (hll : x.l.length ≤ 100000000) (hs : Sl 1 (EInt .u32) H vl x.l) (hf : Opc.form x.op = 2) : Ct Tryd.prog 129 [insV x vl] H (fun u H' => Own 1 (EInt .u8) 5 #[] H.size H' u (Isp.bytes x) ∧ Old H H') := by
  refine Ct.mk Tryd.func129 rfl Tryd.ntmps129 rfl ?_
  intro W0 hW0
  have o0 : Old H H := Old.refl H
  have hs0 := hs
  have hxa := hx.2.1
  have hxb := hx.2.2.1
  dsimp only [InR] at hxa hxb
  unfold insV
  refine KC.sr ?_
  refine KL.m (M.box rfl rfl rfl) rfl ?_
  rintro _ H1 ⟨rfl, n1⟩
  have z1 := n1.2.1
  have o0 := o0.trans n1.1
  have hs := hs.old n1.1
  have b1 := n1.2.2
  have bx := b1
  refine KL.fin 1 rfl (KQ.sr (KL.run 1 rfl (KL.ld rfl (cell_of bx rfl) ?_)))
  refine KL.c rfl Tryd.call150 (RFindK _ hx.1) ?_
  rintro _ H2 ⟨⟨a1, a2, a4, a5, rfl⟩, ox⟩
  have zc_H2 := (ox).1
  have o0 := o0.trans ox
  have hs := hs.old ox
  have bx := (ox).blk bx
  rw [hf]
  refine KL.run 3 rfl ?_
  refine KL.m (M.alloc rfl zr229 rfl) rfl ?_
  rintro _ H3 ⟨rfl, n3⟩
  have z3 := n3.2.1
  have o0 := o0.trans n3.1
  have hs := hs.old n3.1
  have bx := (n3.1).blk bx
  have b3 := n3.2.2
  have bw := b3
  refine KL.opS (S.storeAgg rfl sz229 rfl rfl (rfl) (by intro u hu; simp only [List.mem_cons, List.not_mem_nil, or_false] at hu; rcases hu with rfl | rfl | rfl | rfl | rfl <;> rfl) bw (by simp)) rfl rfl ?_
  rintro H4 ⟨u4, b4⟩
  have o0 := o0.upd u4 (by omega)
  have zu4 := u4.1
  have bx := ((u4).2 _ (by omega)).trans bx
  have bw := b4
  rw [over_all (by rfl)] at bw
  refine KL.fin 1 rfl (KQ.sr (KL.run 1 rfl (KL.ld rfl (cell_of bx rfl) ?_)))
  refine KL.m (M.lit rfl Tryd.underlying36 zs5 (by decide) rfl rfl rfl) rfl ?_
  rintro _ H5 ⟨rfl, n5⟩
  have z5 := n5.2.1
  have o0 := o0.trans n5.1
  have bx := (n5.1).blk bx
  have bw := (n5.1).blk bw
  have b5 := n5.2.2
  have hvb : vblock (Value.slice (some ⟨Array.size H4, 0, none⟩) 1 1) = Array.size H4 := rfl
  have wo : Own 1 (EInt .u8) 5 #[] (Array.size H4) H5 _ [x.op] := Own.litI (l := [x.op]) (m := 1) n5 (by omega) rfl (by decide) (by intro y hy; simp only [List.mem_cons, List.not_mem_nil, or_false] at hy; subst hy; exact hx.1)
  refine KL.fin 1 rfl (KQ.seq (KC.seq (KC.sr (KL.run 1 rfl (KL.ld rfl (cell_of bw rfl) (KL.fin 1 rfl (KQ.seq ?_)))))))
  refine KC.condIs false rfl (by decide) ?_
  refine KC.skip (KQ.seq (KC.seq (KC.sr (KL.run 1 rfl (KL.ld rfl (cell_of bw rfl) (KL.fin 1 rfl (KQ.seq ?_)))))))
  refine KC.condIs false rfl (by decide) ?_
  refine KC.skip (KQ.seq (KC.seq (KC.sr (KL.run 1 rfl (KL.ld rfl (cell_of bw rfl) (KL.q ((R.geq rfl rfl rfl).val (congrArg Value.bool (decide_eq_true (by decide)))) rfl (KL.run 2 rfl (KL.ld rfl (cell_of bw rfl) (KL.q ((R.leq rfl rfl rfl).val (congrArg Value.bool (decide_eq_true (by decide)))) rfl (KL.fin 1 rfl (KQ.seq (KC.condT rfl ?_))))))))))))
  refine KC.region (KL.run 2 rfl (KL.ld rfl (cell_of bx rfl) ?_))
  refine KL.q (R.convI rfl Tryd.underlying28 Tryd.underlying101 rfl (by dsimp only [InR]; omega)) rfl ?_
  refine KL.c rfl Tryd.call86 (Few_k _ hx.2.1) ?_
  rintro va H6 ⟨wa, ox⟩
  have zc_H6 := (ox).1
  have o0 := o0.trans ox
  have bx := (ox).blk bx
  have bw := (ox).blk bw
  have wo := wo.old ox
  have hap := wa.sl (emptyOld _) (by omega)
  have hapl := apL hx.2.1
  have lt7 := wo.lt
  refine KL.m (M.append rfl Tryd.underlying36 inf5 rfl (by decide) rfl rfl wo hap (fun _ _ h _ => h) (by omega) (by simp only [List.length_append, List.length_cons, List.length_nil, List.length_take]; omega) (by unfold maxLen; simp only [List.length_append, List.length_cons, List.length_nil]; omega)) rfl ?_
  rintro vp H7 ⟨w7, g7⟩
  have ob7 := g7.oldB wo (by omega)
  have o0 := o0.then ob7 (by omega)
  have z7 := ob7.1
  have bx := (g7.2 _ (blk_lt bx) (by exact .inr (by omega))).trans bx
  have bw := (g7.2 _ (blk_lt bw) (by exact .inr (by omega))).trans bw
  have wo := w7
  refine KL.fin 1 rfl (KQ.seq (KC.seq (KC.sr (KL.run 1 rfl (KL.ld rfl (cell_of bw rfl) (KL.fin 1 rfl (KQ.seq ?_)))))))
  refine KC.condIs false rfl (by decide) ?_
  refine KC.skip (KQ.seq (KC.seq (KC.sr (KL.run 1 rfl (KL.ld rfl (cell_of bw rfl) (KL.e0 rfl (by decide) (KL.run 2 rfl (KL.ld rfl (cell_of bw rfl) (KL.e0 rfl (by decide) (KL.fin 1 rfl (KQ.seq (KC.condF rfl ?_))))))))))))
  refine KC.skip (KQ.seq (KC.seq (KC.sr (KL.run 1 rfl (KL.ld rfl (cell_of bw rfl) (KL.fin 1 rfl (KQ.seq ?_)))))))
  refine KC.condIs false rfl (by decide) ?_
  refine KC.skip (KQ.sr (KL.fin 2 rfl (KQ.seq (KC.ret (KQ.ofRet (KQ.fin1 Tryd.results129 rfl ?_))))))
  have e : Isp.bytes x = x.op :: Isp.apN false x.a := by unfold Isp.bytes Isp.bodyE Isp.rest Isp.labsE; rw [hf]; simp
  rw [e]
  exact ⟨by simpa [List.append_assoc] using wo.weak (by omega), o0⟩
theorem RBytes3 {H : Heap} {x : Ins} {vl : Value} (hx : InsR x) (hll : x.l.length ≤ 100000000) (hs : Sl 1 (EInt .u32) H vl x.l) (hf : Opc.form x.op = 3) : Ct Tryd.prog 129 [insV x vl] H (fun u H' => Own 1 (EInt .u8) 5 #[] H.size H' u (Isp.bytes x) ∧ Old H H') := by
  refine Ct.mk Tryd.func129 rfl Tryd.ntmps129 rfl ?_
  intro W0 hW0
  have o0 : Old H H := Old.refl H
  have hs0 := hs
  have hxa := hx.2.1
  have hxb := hx.2.2.1
  dsimp only [InR] at hxa hxb
  unfold insV
  refine KC.sr ?_
  refine KL.m (M.box rfl rfl rfl) rfl ?_
  rintro _ H1 ⟨rfl, n1⟩
  have z1 := n1.2.1
  have o0 := o0.trans n1.1
  have hs := hs.old n1.1
  have b1 := n1.2.2
  have bx := b1
  refine KL.fin 1 rfl (KQ.sr (KL.run 1 rfl (KL.ld rfl (cell_of bx rfl) ?_)))
  refine KL.c rfl Tryd.call150 (RFindK _ hx.1) ?_
  rintro _ H2 ⟨⟨a1, a2, a4, a5, rfl⟩, ox⟩
  have zc_H2 := (ox).1
  have o0 := o0.trans ox
  have hs := hs.old ox
  have bx := (ox).blk bx
  rw [hf]
  refine KL.run 3 rfl ?_
  refine KL.m (M.alloc rfl zr229 rfl) rfl ?_
  rintro _ H3 ⟨rfl, n3⟩
  have z3 := n3.2.1
  have o0 := o0.trans n3.1
  have hs := hs.old n3.1
  have bx := (n3.1).blk bx
  have b3 := n3.2.2
  have bw := b3
  refine KL.opS (S.storeAgg rfl sz229 rfl rfl (rfl) (by intro u hu; simp only [List.mem_cons, List.not_mem_nil, or_false] at hu; rcases hu with rfl | rfl | rfl | rfl | rfl <;> rfl) bw (by simp)) rfl rfl ?_
  rintro H4 ⟨u4, b4⟩
  have o0 := o0.upd u4 (by omega)
  have zu4 := u4.1
  have bx := ((u4).2 _ (by omega)).trans bx
  have bw := b4
  rw [over_all (by rfl)] at bw
  refine KL.fin 1 rfl (KQ.sr (KL.run 1 rfl (KL.ld rfl (cell_of bx rfl) ?_)))
  refine KL.m (M.lit rfl Tryd.underlying36 zs5 (by decide) rfl rfl rfl) rfl ?_
  rintro _ H5 ⟨rfl, n5⟩
  have z5 := n5.2.1
  have o0 := o0.trans n5.1
  have bx := (n5.1).blk bx
  have bw := (n5.1).blk bw
  have b5 := n5.2.2
  have hvb : vblock (Value.slice (some ⟨Array.size H4, 0, none⟩) 1 1) = Array.size H4 := rfl
  have wo : Own 1 (EInt .u8) 5 #[] (Array.size H4) H5 _ [x.op] := Own.litI (l := [x.op]) (m := 1) n5 (by omega) rfl (by decide) (by intro y hy; simp only [List.mem_cons, List.not_mem_nil, or_false] at hy; subst hy; exact hx.1)
  refine KL.fin 1 rfl (KQ.seq (KC.seq (KC.sr (KL.run 1 rfl (KL.ld rfl (cell_of bw rfl) (KL.fin 1 rfl (KQ.seq ?_)))))))
  refine KC.condIs true rfl (by decide) ?_
  refine KC.sr (KL.run 2 rfl (KL.ld rfl (cell_of bx rfl) ?_))
  refine KL.q (by exact R.lenS rfl Tryd.underlying24 rfl (by first | assumption)) rfl ?_
  refine KL.q (R.convI rfl Tryd.underlying3 Tryd.underlying101 rfl (by dsimp only [InR]; omega)) rfl ?_
  refine KL.c rfl Tryd.call86 (Few_k _ (by dsimp only [InR]; omega)) ?_
  rintro va H6 ⟨wa, ox⟩
  have zc_H6 := (ox).1
  have o0 := o0.trans ox
  have bx := (ox).blk bx
  have bw := (ox).blk bw
  have wo := wo.old ox
  have hap := wa.sl (emptyOld _) (by omega)
  have hapl := apL (z := ((x.l.length : Nat) : Int)) (by dsimp only [InR]; omega)
  have lt7 := wo.lt
  refine KL.m (M.append rfl Tryd.underlying36 inf5 rfl (by decide) rfl rfl wo hap (fun _ _ h _ => h) (by omega) (by simp only [List.length_append, List.length_cons, List.length_nil, List.length_take]; omega) (by unfold maxLen; simp only [List.length_append, List.length_cons, List.length_nil]; omega)) rfl ?_
  rintro vo H7 ⟨w7, g7⟩
  have ob7 := g7.oldB wo (by omega)
  have o0 := o0.then ob7 (by omega)
  have z7 := ob7.1
  have bx := (g7.2 _ (blk_lt bx) (by exact .inr (by omega))).trans bx
  have bw := (g7.2 _ (blk_lt bw) (by exact .inr (by omega))).trans bw
  have wo := w7
  refine KL.fin 1 rfl (KQ.sr (KL.fin 1 rfl (KQ.seq (KC.block ?_))))
  refine KC.loopD (κ := Nat × Value) [26, 27, 28, 29, 30, 33, 34, 35, 36, 37, 38, 39, 40, 41, 5, 31, 32, 6] (fun k => [(6, .int .i64 (k.1 : Nat)), (5, k.2)]) (fun k Hl => k.1 ≤ x.l.length ∧ Own 1 (EInt .u8) 5 #[] (Array.size H4) Hl k.2 ([x.op] ++ Isp.apN false (x.l.length : Nat) ++ (x.l.take k.1).flatMap (Isp.apN false)) ∧ OldB (Array.size H4) H7 Hl) (fun k => x.l.length - k.1) (0, vo) ?_ ?_ ?_
  · exact Sub.all rfl
  · exact ⟨Nat.zero_le _, by simpa using wo, OldB.refl _ _⟩
  rintro ⟨k, vo⟩ H8 ⟨hk, wo, oL⟩
  dsimp only at hk wo
  have zl := oL.1
  have o0 := o0.then oL (by omega)
  have bx := (oL.2 _ (by omega)).trans bx
  have bw := (oL.2 _ (by omega)).trans bw
  have hs := hs0.old o0
  have hlen1 := apL (z := ((x.l.length : Nat) : Int)) (by dsimp only [InR]; omega)
  have hlen2 := apF (xs := x.l.take k) (fun y hy => hs0.rng y (List.mem_of_mem_take hy))
  rw [List.length_take] at hlen2
  refine KC.seq (KC.sr (KL.run 2 rfl (KL.ld rfl (cell_of bx rfl) ?_)))
  refine KL.q (by exact R.lenS rfl Tryd.underlying24 rfl hs) rfl ?_
  refine KL.fin 1 rfl (KQ.seq ?_)
  refine KC.iq rfl ?_ ?_
  · intro hc30
    try dsimp only at hc30
    refine KC.skip (KQ.seq (KC.seq (KC.block (KC.region (KL.run 2 rfl (KL.ld rfl (cell_of bx rfl) (KL.run 1 rfl ?_)))))))
    refine KL.q (R.index1 (j := k) rfl Tryd.underlying24 sz28 rfl rfl hs rfl (by omega)) rfl ?_
    refine KL.ld rfl (hs.int k (by omega)).1 ?_
    have hkr := (hs0.int k (by omega)).2
    dsimp only [InR] at hkr
    refine KL.q (R.convI rfl Tryd.underlying28 Tryd.underlying101 rfl (by dsimp only [InR]; omega)) rfl ?_
    refine KL.c rfl Tryd.call86 (Few_k _ (hs0.int k (by omega)).2) ?_
    rintro va H9 ⟨wa, ox⟩
    have zc_H9 := (ox).1
    have o0 := o0.trans ox
    have bx := (ox).blk bx
    have bw := (ox).blk bw
    have hs := hs.old ox
    have wo := wo.old ox
    have oL := oL.trans ((ox).b (by omega))
    have hap := wa.sl (emptyOld _) (by omega)
    have hapl := apL (hs0.int k (by omega)).2
    have lt10 := wo.lt
    refine KL.m (M.append rfl Tryd.underlying36 inf5 rfl (by decide) rfl rfl wo hap (fun _ _ h _ => h) (by omega) (by simp only [List.length_append, List.length_cons, List.length_nil, List.length_take]; omega) (by unfold maxLen; simp only [List.length_append, List.length_cons, List.length_nil]; omega)) rfl ?_
    rintro vn H10 ⟨w10, g10⟩
    try dsimp only at g10
    have ob10 := g10.oldB wo (by omega)
    have o0 := o0.then ob10 (by omega)
    have z10 := ob10.1
    have bx := (g10.2 _ (blk_lt bx) (by exact lt10.imp id (fun h => by omega))).trans bx
    have bw := (g10.2 _ (blk_lt bw) (by exact lt10.imp id (fun h => by omega))).trans bw
    have oL := oL.trans (ob10.mono (by omega))
    have wo := w10
    refine KL.fin 1 rfl (KQ.normBlock (KQ.r (KL.run 1 rfl ?_)))
    refine KL.q ((R.add rfl rfl rfl (by dsimp only [InR]; omega)).val (congrArg (Value.int .i64) (show (k : Int) + 1 = ((k + 1 : Nat) : Int) by omega))) rfl ?_
    refine KL.fin 1 rfl ?_
    refine KQ.again ((k + 1, vn)) ?_ ?_ ?_
    · exact Sub.all rfl
    · show x.l.length - (k + 1) < x.l.length - k; omega
    exact ⟨by show k + 1 ≤ _; omega, by dsimp only; rw [fm_take (by omega), ← List.append_assoc]; exact wo, oL⟩
  intro hc30
  try dsimp only at hc30
  refine KC.exit (KQ.exitThen (KQ.exitThen (KQ.hit (KQ.seq (KC.seq (KC.sr (KL.run 1 rfl (KL.ld rfl (cell_of bw rfl) (KL.fin 1 rfl (KQ.seq ?_))))))))))
  refine KC.condIs false rfl (by decide) ?_
  refine KC.skip (KQ.seq (KC.seq (KC.sr (KL.run 1 rfl (KL.ld rfl (cell_of bw rfl) (KL.q ((R.geq rfl rfl rfl).val (congrArg Value.bool (decide_eq_true (by decide)))) rfl (KL.run 2 rfl (KL.ld rfl (cell_of bw rfl) (KL.q ((R.leq rfl rfl rfl).val (congrArg Value.bool (decide_eq_true (by decide)))) rfl (KL.fin 1 rfl (KQ.seq (KC.condT rfl ?_))))))))))))
  refine KC.region (KL.run 2 rfl (KL.ld rfl (cell_of bx rfl) ?_))
  refine KL.q (R.convI rfl Tryd.underlying28 Tryd.underlying101 rfl (by dsimp only [InR]; omega)) rfl ?_
  refine KL.c rfl Tryd.call86 (Few_k _ hx.2.1) ?_
  rintro va H11 ⟨wa, ox⟩
  have zc_H11 := (ox).1
  have o0 := o0.trans ox
  have bx := (ox).blk bx
  have bw := (ox).blk bw
  have hs := hs.old ox
  have wo := wo.old ox
  have oL := oL.trans ((ox).b (by omega))
  have hap := wa.sl (emptyOld _) (by omega)
  have hapl := apL hx.2.1
  have lt12 := wo.lt
  refine KL.m (M.append rfl Tryd.underlying36 inf5 rfl (by decide) rfl rfl wo hap (fun _ _ h _ => h) (by omega) (by simp only [List.length_append, List.length_cons, List.length_nil, List.length_take]; omega) (by unfold maxLen; simp only [List.length_append, List.length_cons, List.length_nil]; omega)) rfl ?_
  rintro vp H12 ⟨w12, g12⟩
  try dsimp only at g12
  have ob12 := g12.oldB wo (by omega)
  have o0 := o0.then ob12 (by omega)
  have z12 := ob12.1
  have bx := (g12.2 _ (blk_lt bx) (by exact lt12.imp id (fun h => by omega))).trans bx
  have bw := (g12.2 _ (blk_lt bw) (by exact lt12.imp id (fun h => by omega))).trans bw
  have oL := oL.trans (ob12.mono (by omega))
  have wo := w12
  refine KL.fin 1 rfl (KQ.seq (KC.seq (KC.sr (KL.run 1 rfl (KL.ld rfl (cell_of bw rfl) (KL.fin 1 rfl (KQ.seq ?_)))))))
  refine KC.condIs false rfl (by decide) ?_
  refine KC.skip (KQ.seq (KC.seq (KC.sr (KL.run 1 rfl (KL.ld rfl (cell_of bw rfl) (KL.e0 rfl (by decide) (KL.run 2 rfl (KL.ld rfl (cell_of bw rfl) (KL.e0 rfl (by decide) (KL.fin 1 rfl (KQ.seq (KC.condF rfl ?_))))))))))))
  refine KC.skip (KQ.seq (KC.seq (KC.sr (KL.run 1 rfl (KL.ld rfl (cell_of bw rfl) (KL.fin 1 rfl (KQ.seq ?_)))))))
  refine KC.condIs false rfl (by decide) ?_
  refine KC.skip (KQ.sr (KL.fin 2 rfl (KQ.seq (KC.ret (KQ.ofRet (KQ.fin1 Tryd.results129 rfl ?_))))))
  have e : Isp.bytes x = x.op :: (Isp.apN false (x.l.length : Nat) ++ x.l.flatMap (Isp.apN false) ++ Isp.apN false x.a) := by unfold Isp.bytes Isp.bodyE Isp.rest Isp.labsE; rw [hf]; simp
  rw [e]
  have hkl : k = x.l.length := by omega
  rw [hkl, List.take_length] at wo
  exact ⟨by simpa [List.append_assoc] using wo.weak (by omega), o0⟩
theorem RBytes4 {H : Heap} {x : Ins} {vl : Value} (hx : InsR x) (hll : x.l.length ≤ 100000000) (hs : Sl 1 (EInt .u32) H vl x.l) (hf : Opc.form x.op = 4) : Ct Tryd.prog 129 [insV x vl] H (fun u H' => Own 1 (EInt .u8) 5 #[] H.size H' u (Isp.bytes x) ∧ Old H H') := by
  refine Ct.mk Tryd.func129 rfl Tryd.ntmps129 rfl ?_
  intro W0 hW0
  have o0 : Old H H := Old.refl H
  have hs0 := hs
  have hxa := hx.2.1
  have hxb := hx.2.2.1
  dsimp only [InR] at hxa hxb
  unfold insV
  refine KC.sr ?_
  refine KL.m (M.box rfl rfl rfl) rfl ?_
  rintro _ H1 ⟨rfl, n1⟩
  have z1 := n1.2.1
  have o0 := o0.trans n1.1
  have hs := hs.old n1.1
  have b1 := n1.2.2
  have bx := b1
  refine KL.fin 1 rfl (KQ.sr (KL.run 1 rfl (KL.ld rfl (cell_of bx rfl) ?_)))
  refine KL.c rfl Tryd.call150 (RFindK _ hx.1) ?_
  rintro _ H2 ⟨⟨a1, a2, a4, a5, rfl⟩, ox⟩
  have zc_H2 := (ox).1
  have o0 := o0.trans ox
  have hs := hs.old ox
  have bx := (ox).blk bx
  rw [hf]
  refine KL.run 3 rfl ?_
  refine KL.m (M.alloc rfl zr229 rfl) rfl ?_
  rintro _ H3 ⟨rfl, n3⟩
  have z3 := n3.2.1
  have o0 := o0.trans n3.1
  have hs := hs.old n3.1
  have bx := (n3.1).blk bx
  have b3 := n3.2.2
  have bw := b3
  refine KL.opS (S.storeAgg rfl sz229 rfl rfl (rfl) (by intro u hu; simp only [List.mem_cons, List.not_mem_nil, or_false] at hu; rcases hu with rfl | rfl | rfl | rfl | rfl <;> rfl) bw (by simp)) rfl rfl ?_
  rintro H4 ⟨u4, b4⟩
  have o0 := o0.upd u4 (by omega)
  have zu4 := u4.1
  have bx := ((u4).2 _ (by omega)).trans bx
  have bw := b4
  rw [over_all (by rfl)] at bw
  refine KL.fin 1 rfl (KQ.sr (KL.run 1 rfl (KL.ld rfl (cell_of bx rfl) ?_)))
  refine KL.m (M.lit rfl Tryd.underlying36 zs5 (by decide) rfl rfl rfl) rfl ?_
  rintro _ H5 ⟨rfl, n5⟩
  have z5 := n5.2.1
  have o0 := o0.trans n5.1
  have bx := (n5.1).blk bx
  have bw := (n5.1).blk bw
  have b5 := n5.2.2
  have hvb : vblock (Value.slice (some ⟨Array.size H4, 0, none⟩) 1 1) = Array.size H4 := rfl
  have wo : Own 1 (EInt .u8) 5 #[] (Array.size H4) H5 _ [x.op] := Own.litI (l := [x.op]) (m := 1) n5 (by omega) rfl (by decide) (by intro y hy; simp only [List.mem_cons, List.not_mem_nil, or_false] at hy; subst hy; exact hx.1)
  refine KL.fin 1 rfl (KQ.seq (KC.seq (KC.sr (KL.run 1 rfl (KL.ld rfl (cell_of bw rfl) (KL.fin 1 rfl (KQ.seq ?_)))))))
  refine KC.condIs false rfl (by decide) ?_
  refine KC.skip (KQ.seq (KC.seq (KC.sr (KL.run 1 rfl (KL.ld rfl (cell_of bw rfl) (KL.fin 1 rfl (KQ.seq ?_)))))))
  refine KC.condIs false rfl (by decide) ?_
  refine KC.skip (KQ.seq (KC.seq (KC.sr (KL.run 1 rfl (KL.ld rfl (cell_of bw rfl) (KL.q ((R.geq rfl rfl rfl).val (congrArg Value.bool (decide_eq_true (by decide)))) rfl (KL.run 2 rfl (KL.ld rfl (cell_of bw rfl) (KL.q ((R.leq rfl rfl rfl).val (congrArg Value.bool (decide_eq_true (by decide)))) rfl (KL.fin 1 rfl (KQ.seq (KC.condT rfl ?_))))))))))))
  refine KC.region (KL.run 2 rfl (KL.ld rfl (cell_of bx rfl) ?_))
  refine KL.q (R.convI rfl Tryd.underlying28 Tryd.underlying101 rfl (by dsimp only [InR]; omega)) rfl ?_
  refine KL.c rfl Tryd.call86 (Few_k _ hx.2.1) ?_
  rintro va H6 ⟨wa, ox⟩
  have zc_H6 := (ox).1
  have o0 := o0.trans ox
  have bx := (ox).blk bx
  have bw := (ox).blk bw
  have wo := wo.old ox
  have hap := wa.sl (emptyOld _) (by omega)
  have hapl := apL hx.2.1
  have lt7 := wo.lt
  refine KL.m (M.append rfl Tryd.underlying36 inf5 rfl (by decide) rfl rfl wo hap (fun _ _ h _ => h) (by omega) (by simp only [List.length_append, List.length_cons, List.length_nil, List.length_take]; omega) (by unfold maxLen; simp only [List.length_append, List.length_cons, List.length_nil]; omega)) rfl ?_
  rintro vp H7 ⟨w7, g7⟩
  have ob7 := g7.oldB wo (by omega)
  have o0 := o0.then ob7 (by omega)
  have z7 := ob7.1
  have bx := (g7.2 _ (blk_lt bx) (by exact .inr (by omega))).trans bx
  have bw := (g7.2 _ (blk_lt bw) (by exact .inr (by omega))).trans bw
  have wo := w7
  refine KL.fin 1 rfl (KQ.seq (KC.seq (KC.sr (KL.run 1 rfl (KL.ld rfl (cell_of bw rfl) (KL.fin 1 rfl (KQ.seq ?_)))))))
  refine KC.condIs false rfl (by decide) ?_
  refine KC.skip (KQ.seq (KC.seq (KC.sr (KL.run 1 rfl (KL.ld rfl (cell_of bw rfl) (KL.e0 rfl (by decide) (KL.run 2 rfl (KL.ld rfl (cell_of bw rfl) (KL.e0 rfl (by decide) (KL.fin 1 rfl (KQ.seq (KC.condF rfl ?_))))))))))))
  refine KC.skip (KQ.seq (KC.seq (KC.sr (KL.run 1 rfl (KL.ld rfl (cell_of bw rfl) (KL.fin 1 rfl (KQ.seq ?_)))))))
  refine KC.condIs false rfl (by decide) ?_
  refine KC.skip (KQ.sr (KL.fin 2 rfl (KQ.seq (KC.ret (KQ.ofRet (KQ.fin1 Tryd.results129 rfl ?_))))))
  have e : Isp.bytes x = x.op :: Isp.apN false x.a := by unfold Isp.bytes Isp.bodyE Isp.rest Isp.labsE; rw [hf]; simp
  rw [e]
  exact ⟨by simpa [List.append_assoc] using wo.weak (by omega), o0⟩
theorem RBytes5 {H : Heap} {x : Ins} {vl : Value} (hx : InsR x) (hll : x.l.length ≤ 100000000) (hs : Sl 1 (EInt .u32) H vl x.l) (hf : Opc.form x.op = 5) : Ct Tryd.prog 129 [insV x vl] H (fun u H' => Own 1 (EInt .u8) 5 #[] H.size H' u (Isp.bytes x) ∧ Old H H') := by
  refine Ct.mk Tryd.func129 rfl Tryd.ntmps129 rfl ?_
  intro W0 hW0
  have o0 : Old H H := Old.refl H
  have hs0 := hs
  have hxa := hx.2.1
  have hxb := hx.2.2.1
  dsimp only [InR] at hxa hxb
  unfold insV
  refine KC.sr ?_
  refine KL.m (M.box rfl rfl rfl) rfl ?_
  rintro _ H1 ⟨rfl, n1⟩
  have z1 := n1.2.1
  have o0 := o0.trans n1.1
  have hs := hs.old n1.1
  have b1 := n1.2.2
  have bx := b1
  refine KL.fin 1 rfl (KQ.sr (KL.run 1 rfl (KL.ld rfl (cell_of bx rfl) ?_)))
  refine KL.c rfl Tryd.call150 (RFindK _ hx.1) ?_
  rintro _ H2 ⟨⟨a1, a2, a4, a5, rfl⟩, ox⟩
  have zc_H2 := (ox).1
  have o0 := o0.trans ox
  have hs := hs.old ox
  have bx := (ox).blk bx
  rw [hf]
  refine KL.run 3 rfl ?_
  refine KL.m (M.alloc rfl zr229 rfl) rfl ?_
  rintro _ H3 ⟨rfl, n3⟩
  have z3 := n3.2.1
  have o0 := o0.trans n3.1
  have hs := hs.old n3.1
  have bx := (n3.1).blk bx
  have b3 := n3.2.2
  have bw := b3
  refine KL.opS (S.storeAgg rfl sz229 rfl rfl (rfl) (by intro u hu; simp only [List.mem_cons, List.not_mem_nil, or_false] at hu; rcases hu with rfl | rfl | rfl | rfl | rfl <;> rfl) bw (by simp)) rfl rfl ?_
  rintro H4 ⟨u4, b4⟩
  have o0 := o0.upd u4 (by omega)
  have zu4 := u4.1
  have bx := ((u4).2 _ (by omega)).trans bx
  have bw := b4
  rw [over_all (by rfl)] at bw
  refine KL.fin 1 rfl (KQ.sr (KL.run 1 rfl (KL.ld rfl (cell_of bx rfl) ?_)))
  refine KL.m (M.lit rfl Tryd.underlying36 zs5 (by decide) rfl rfl rfl) rfl ?_
  rintro _ H5 ⟨rfl, n5⟩
  have z5 := n5.2.1
  have o0 := o0.trans n5.1
  have bx := (n5.1).blk bx
  have bw := (n5.1).blk bw
  have b5 := n5.2.2
  have hvb : vblock (Value.slice (some ⟨Array.size H4, 0, none⟩) 1 1) = Array.size H4 := rfl
  have wo : Own 1 (EInt .u8) 5 #[] (Array.size H4) H5 _ [x.op] := Own.litI (l := [x.op]) (m := 1) n5 (by omega) rfl (by decide) (by intro y hy; simp only [List.mem_cons, List.not_mem_nil, or_false] at hy; subst hy; exact hx.1)
  refine KL.fin 1 rfl (KQ.seq (KC.seq (KC.sr (KL.run 1 rfl (KL.ld rfl (cell_of bw rfl) (KL.fin 1 rfl (KQ.seq ?_)))))))
  refine KC.condIs false rfl (by decide) ?_
  refine KC.skip (KQ.seq (KC.seq (KC.sr (KL.run 1 rfl (KL.ld rfl (cell_of bw rfl) (KL.fin 1 rfl (KQ.seq ?_)))))))
  refine KC.condIs false rfl (by decide) ?_
  refine KC.skip (KQ.seq (KC.seq (KC.sr (KL.run 1 rfl (KL.ld rfl (cell_of bw rfl) (KL.q ((R.geq rfl rfl rfl).val (congrArg Value.bool (decide_eq_true (by decide)))) rfl (KL.run 2 rfl (KL.ld rfl (cell_of bw rfl) (KL.q ((R.leq rfl rfl rfl).val (congrArg Value.bool (decide_eq_true (by decide)))) rfl (KL.fin 1 rfl (KQ.seq (KC.condT rfl ?_))))))))))))
  refine KC.region (KL.run 2 rfl (KL.ld rfl (cell_of bx rfl) ?_))
  refine KL.q (R.convI rfl Tryd.underlying28 Tryd.underlying101 rfl (by dsimp only [InR]; omega)) rfl ?_
  refine KL.c rfl Tryd.call86 (Few_k _ hx.2.1) ?_
  rintro va H6 ⟨wa, ox⟩
  have zc_H6 := (ox).1
  have o0 := o0.trans ox
  have bx := (ox).blk bx
  have bw := (ox).blk bw
  have wo := wo.old ox
  have hap := wa.sl (emptyOld _) (by omega)
  have hapl := apL hx.2.1
  have lt7 := wo.lt
  refine KL.m (M.append rfl Tryd.underlying36 inf5 rfl (by decide) rfl rfl wo hap (fun _ _ h _ => h) (by omega) (by simp only [List.length_append, List.length_cons, List.length_nil, List.length_take]; omega) (by unfold maxLen; simp only [List.length_append, List.length_cons, List.length_nil]; omega)) rfl ?_
  rintro vp H7 ⟨w7, g7⟩
  have ob7 := g7.oldB wo (by omega)
  have o0 := o0.then ob7 (by omega)
  have z7 := ob7.1
  have bx := (g7.2 _ (blk_lt bx) (by exact .inr (by omega))).trans bx
  have bw := (g7.2 _ (blk_lt bw) (by exact .inr (by omega))).trans bw
  have wo := w7
  refine KL.fin 1 rfl (KQ.seq (KC.seq (KC.sr (KL.run 1 rfl (KL.ld rfl (cell_of bw rfl) (KL.fin 1 rfl (KQ.seq ?_)))))))
  refine KC.condIs false rfl (by decide) ?_
  refine KC.skip (KQ.seq (KC.seq (KC.sr (KL.run 1 rfl (KL.ld rfl (cell_of bw rfl) (KL.e1 rfl (by decide) (KL.fin 5 rfl (KQ.seq (KC.condT rfl (KC.region (KL.run 1 rfl ?_)))))))))))
  refine KL.m (M.lit rfl Tryd.underlying36 zs5 (by decide) rfl rfl rfl) rfl ?_
  rintro _ H8 ⟨rfl, n8⟩
  have z8 := n8.2.1
  have o0 := o0.trans n8.1
  have bx := (n8.1).blk bx
  have bw := (n8.1).blk bw
  have wo := wo.old n8.1
  have b8 := n8.2.2
  have hap : Sl 1 (EInt .u8) H8 _ [0] := Sl.lits (l := [0]) n8 rfl (by simp) (by decide)
  have lt9 := wo.lt
  refine KL.m (M.append rfl Tryd.underlying36 inf5 rfl (by decide) rfl rfl wo hap (fun _ _ h _ => h) (by omega) (by simp only [List.length_append, List.length_cons, List.length_nil, List.length_take]; omega) (by unfold maxLen; simp only [List.length_append, List.length_cons, List.length_nil]; omega)) rfl ?_
  rintro vr H9 ⟨w9, g9⟩
  have ob9 := g9.oldB wo (by omega)
  have o0 := o0.then ob9 (by omega)
  have z9 := ob9.1
  have bx := (g9.2 _ (blk_lt bx) (by exact lt9.imp id (fun h => by omega))).trans bx
  have bw := (g9.2 _ (blk_lt bw) (by exact lt9.imp id (fun h => by omega))).trans bw
  have wo := w9
  refine KL.fin 1 rfl (KQ.seq (KC.seq (KC.sr (KL.run 1 rfl (KL.ld rfl (cell_of bw rfl) (KL.fin 1 rfl (KQ.seq ?_)))))))
  refine KC.condIs false rfl (by decide) ?_
  refine KC.skip (KQ.sr (KL.fin 2 rfl (KQ.seq (KC.ret (KQ.ofRet (KQ.fin1 Tryd.results129 rfl ?_))))))
  have e : Isp.bytes x = x.op :: (Isp.apN false x.a ++ [0]) := by unfold Isp.bytes Isp.bodyE Isp.rest Isp.labsE; rw [hf]; simp
  rw [e]
  exact ⟨by simpa [List.append_assoc] using wo.weak (by omega), o0⟩
theorem RBytes6 {H : Heap} {x : Ins} {vl : Value} (hx : InsR x) (hll : x.l.length ≤ 100000000) (hs : Sl 1 (EInt .u32) H vl x.l) (hf : Opc.form x.op = 6) : Ct Tryd.prog 129 [insV x vl] H (fun u H' => Own 1 (EInt .u8) 5 #[] H.size H' u (Isp.bytes x) ∧ Old H H') := by
  refine Ct.mk Tryd.func129 rfl Tryd.ntmps129 rfl ?_
  intro W0 hW0
  have o0 : Old H H := Old.refl H
  have hs0 := hs
  have hxa := hx.2.1
  have hxb := hx.2.2.1
  dsimp only [InR] at hxa hxb
  unfold insV
  refine KC.sr ?_
  refine KL.m (M.box rfl rfl rfl) rfl ?_
  rintro _ H1 ⟨rfl, n1⟩
  have z1 := n1.2.1
  have o0 := o0.trans n1.1
  have hs := hs.old n1.1
  have b1 := n1.2.2
  have bx := b1
  refine KL.fin 1 rfl (KQ.sr (KL.run 1 rfl (KL.ld rfl (cell_of bx rfl) ?_)))
  refine KL.c rfl Tryd.call150 (RFindK _ hx.1) ?_
  rintro _ H2 ⟨⟨a1, a2, a4, a5, rfl⟩, ox⟩
  have zc_H2 := (ox).1
  have o0 := o0.trans ox
  have hs := hs.old ox
  have bx := (ox).blk bx
  rw [hf]
  refine KL.run 3 rfl ?_
  refine KL.m (M.alloc rfl zr229 rfl) rfl ?_
  rintro _ H3 ⟨rfl, n3⟩
  have z3 := n3.2.1
  have o0 := o0.trans n3.1
  have hs := hs.old n3.1
  have bx := (n3.1).blk bx
  have b3 := n3.2.2
  have bw := b3
  refine KL.opS (S.storeAgg rfl sz229 rfl rfl (rfl) (by intro u hu; simp only [List.mem_cons, List.not_mem_nil, or_false] at hu; rcases hu with rfl | rfl | rfl | rfl | rfl <;> rfl) bw (by simp)) rfl rfl ?_
  rintro H4 ⟨u4, b4⟩
  have o0 := o0.upd u4 (by omega)
  have zu4 := u4.1
  have bx := ((u4).2 _ (by omega)).trans bx
  have bw := b4
  rw [over_all (by rfl)] at bw
  refine KL.fin 1 rfl (KQ.sr (KL.run 1 rfl (KL.ld rfl (cell_of bx rfl) ?_)))
  refine KL.m (M.lit rfl Tryd.underlying36 zs5 (by decide) rfl rfl rfl) rfl ?_
  rintro _ H5 ⟨rfl, n5⟩
  have z5 := n5.2.1
  have o0 := o0.trans n5.1
  have bx := (n5.1).blk bx
  have bw := (n5.1).blk bw
  have b5 := n5.2.2
  have hvb : vblock (Value.slice (some ⟨Array.size H4, 0, none⟩) 1 1) = Array.size H4 := rfl
  have wo : Own 1 (EInt .u8) 5 #[] (Array.size H4) H5 _ [x.op] := Own.litI (l := [x.op]) (m := 1) n5 (by omega) rfl (by decide) (by intro y hy; simp only [List.mem_cons, List.not_mem_nil, or_false] at hy; subst hy; exact hx.1)
  refine KL.fin 1 rfl (KQ.seq (KC.seq (KC.sr (KL.run 1 rfl (KL.ld rfl (cell_of bw rfl) (KL.fin 1 rfl (KQ.seq ?_)))))))
  refine KC.condIs false rfl (by decide) ?_
  refine KC.skip (KQ.seq (KC.seq (KC.sr (KL.run 1 rfl (KL.ld rfl (cell_of bw rfl) (KL.fin 1 rfl (KQ.seq ?_)))))))
  refine KC.condIs false rfl (by decide) ?_
  refine KC.skip (KQ.seq (KC.seq (KC.sr (KL.run 1 rfl (KL.ld rfl (cell_of bw rfl) (KL.q ((R.geq rfl rfl rfl).val (congrArg Value.bool (decide_eq_true (by decide)))) rfl (KL.run 2 rfl (KL.ld rfl (cell_of bw rfl) (KL.q ((R.leq rfl rfl rfl).val (congrArg Value.bool (decide_eq_true (by decide)))) rfl (KL.fin 1 rfl (KQ.seq (KC.condT rfl ?_))))))))))))
  refine KC.region (KL.run 2 rfl (KL.ld rfl (cell_of bx rfl) ?_))
  refine KL.q (R.convI rfl Tryd.underlying28 Tryd.underlying101 rfl (by dsimp only [InR]; omega)) rfl ?_
  refine KL.c rfl Tryd.call86 (Few_k _ hx.2.1) ?_
  rintro va H6 ⟨wa, ox⟩
  have zc_H6 := (ox).1
  have o0 := o0.trans ox
  have bx := (ox).blk bx
  have bw := (ox).blk bw
  have wo := wo.old ox
  have hap := wa.sl (emptyOld _) (by omega)
  have hapl := apL hx.2.1
  have lt7 := wo.lt
  refine KL.m (M.append rfl Tryd.underlying36 inf5 rfl (by decide) rfl rfl wo hap (fun _ _ h _ => h) (by omega) (by simp only [List.length_append, List.length_cons, List.length_nil, List.length_take]; omega) (by unfold maxLen; simp only [List.length_append, List.length_cons, List.length_nil]; omega)) rfl ?_
  rintro vp H7 ⟨w7, g7⟩
  have ob7 := g7.oldB wo (by omega)
  have o0 := o0.then ob7 (by omega)
  have z7 := ob7.1
  have bx := (g7.2 _ (blk_lt bx) (by exact .inr (by omega))).trans bx
  have bw := (g7.2 _ (blk_lt bw) (by exact .inr (by omega))).trans bw
  have wo := w7
  refine KL.fin 1 rfl (KQ.seq (KC.seq (KC.sr (KL.run 1 rfl (KL.ld rfl (cell_of bw rfl) (KL.fin 1 rfl (KQ.seq ?_)))))))
  refine KC.condIs true rfl (by decide) ?_
  refine KC.region (KL.run 2 rfl (KL.ld rfl (cell_of bx rfl) ?_))
  refine KL.q (R.convI rfl Tryd.underlying28 Tryd.underlying101 rfl (by dsimp only [InR]; omega)) rfl ?_
  refine KL.c rfl Tryd.call86 (Few_k _ hx.2.2.1) ?_
  rintro va H8 ⟨wa, ox⟩
  have zc_H8 := (ox).1
  have o0 := o0.trans ox
  have bx := (ox).blk bx
  have bw := (ox).blk bw
  have wo := wo.old ox
  have hap := wa.sl (emptyOld _) (by omega)
  have hapl := apL hx.2.2.1
  have lt9 := wo.lt
  refine KL.m (M.append rfl Tryd.underlying36 inf5 rfl (by decide) rfl rfl wo hap (fun _ _ h _ => h) (by omega) (by simp only [List.length_append, List.length_cons, List.length_nil, List.length_take]; omega) (by unfold maxLen; simp only [List.length_append, List.length_cons, List.length_nil]; omega)) rfl ?_
  rintro vq H9 ⟨w9, g9⟩
  have ob9 := g9.oldB wo (by omega)
  have o0 := o0.then ob9 (by omega)
  have z9 := ob9.1
  have bx := (g9.2 _ (blk_lt bx) (by exact lt9.imp id (fun h => by omega))).trans bx
  have bw := (g9.2 _ (blk_lt bw) (by exact lt9.imp id (fun h => by omega))).trans bw
  have wo := w9
  refine KL.fin 1 rfl (KQ.seq (KC.seq (KC.sr (KL.run 1 rfl (KL.ld rfl (cell_of bw rfl) (KL.e0 rfl (by decide) (KL.run 2 rfl (KL.ld rfl (cell_of bw rfl) (KL.e0 rfl (by decide) (KL.fin 1 rfl (KQ.seq (KC.condF rfl ?_))))))))))))
  refine KC.skip (KQ.seq (KC.seq (KC.sr (KL.run 1 rfl (KL.ld rfl (cell_of bw rfl) (KL.fin 1 rfl (KQ.seq ?_)))))))
  refine KC.condIs false rfl (by decide) ?_
  refine KC.skip (KQ.sr (KL.fin 2 rfl (KQ.seq (KC.ret (KQ.ofRet (KQ.fin1 Tryd.results129 rfl ?_))))))
  have e : Isp.bytes x = x.op :: (Isp.apN false x.a ++ Isp.apN false x.b) := by unfold Isp.bytes Isp.bodyE Isp.rest Isp.labsE; rw [hf]; simp
  rw [e]
  exact ⟨by simpa [List.append_assoc] using wo.weak (by omega), o0⟩
theorem RBytes7 {H : Heap} {x : Ins} {vl : Value} (hx : InsR x) (hll : x.l.length ≤ 100000000) (hs : Sl 1 (EInt .u32) H vl x.l) (hf : Opc.form x.op = 7) : Ct Tryd.prog 129 [insV x vl] H (fun u H' => Own 1 (EInt .u8) 5 #[] H.size H' u (Isp.bytes x) ∧ Old H H') := by
  refine Ct.mk Tryd.func129 rfl Tryd.ntmps129 rfl ?_
  intro W0 hW0
  have o0 : Old H H := Old.refl H
  have hs0 := hs
  have hxa := hx.2.1
  have hxb := hx.2.2.1
  dsimp only [InR] at hxa hxb
  unfold insV
  refine KC.sr ?_
  refine KL.m (M.box rfl rfl rfl) rfl ?_
  rintro _ H1 ⟨rfl, n1⟩
  have z1 := n1.2.1
  have o0 := o0.trans n1.1
  have hs := hs.old n1.1
  have b1 := n1.2.2
  have bx := b1
  refine KL.fin 1 rfl (KQ.sr (KL.run 1 rfl (KL.ld rfl (cell_of bx rfl) ?_)))
  refine KL.c rfl Tryd.call150 (RFindK _ hx.1) ?_
  rintro _ H2 ⟨⟨a1, a2, a4, a5, rfl⟩, ox⟩
  have zc_H2 := (ox).1
  have o0 := o0.trans ox
  have hs := hs.old ox
  have bx := (ox).blk bx
  rw [hf]
  refine KL.run 3 rfl ?_
  refine KL.m (M.alloc rfl zr229 rfl) rfl ?_
  rintro _ H3 ⟨rfl, n3⟩
  have z3 := n3.2.1
  have o0 := o0.trans n3.1
  have hs := hs.old n3.1
  have bx := (n3.1).blk bx
  have b3 := n3.2.2
  have bw := b3
  refine KL.opS (S.storeAgg rfl sz229 rfl rfl (rfl) (by intro u hu; simp only [List.mem_cons, List.not_mem_nil, or_false] at hu; rcases hu with rfl | rfl | rfl | rfl | rfl <;> rfl) bw (by simp)) rfl rfl ?_
  rintro H4 ⟨u4, b4⟩
  have o0 := o0.upd u4 (by omega)
  have zu4 := u4.1
  have bx := ((u4).2 _ (by omega)).trans bx
  have bw := b4
  rw [over_all (by rfl)] at bw
  refine KL.fin 1 rfl (KQ.sr (KL.run 1 rfl (KL.ld rfl (cell_of bx rfl) ?_)))
  refine KL.m (M.lit rfl Tryd.underlying36 zs5 (by decide) rfl rfl rfl) rfl ?_
  rintro _ H5 ⟨rfl, n5⟩
  have z5 := n5.2.1
  have o0 := o0.trans n5.1
  have bx := (n5.1).blk bx
  have bw := (n5.1).blk bw
  have b5 := n5.2.2
  have hvb : vblock (Value.slice (some ⟨Array.size H4, 0, none⟩) 1 1) = Array.size H4 := rfl
  have wo : Own 1 (EInt .u8) 5 #[] (Array.size H4) H5 _ [x.op] := Own.litI (l := [x.op]) (m := 1) n5 (by omega) rfl (by decide) (by intro y hy; simp only [List.mem_cons, List.not_mem_nil, or_false] at hy; subst hy; exact hx.1)
  refine KL.fin 1 rfl (KQ.seq (KC.seq (KC.sr (KL.run 1 rfl (KL.ld rfl (cell_of bw rfl) (KL.fin 1 rfl (KQ.seq ?_)))))))
  refine KC.condIs false rfl (by decide) ?_
  refine KC.skip (KQ.seq (KC.seq (KC.sr (KL.run 1 rfl (KL.ld rfl (cell_of bw rfl) (KL.fin 1 rfl (KQ.seq ?_)))))))
  refine KC.condIs false rfl (by decide) ?_
  refine KC.skip (KQ.seq (KC.seq (KC.sr (KL.run 1 rfl (KL.ld rfl (cell_of bw rfl) (KL.q ((R.geq rfl rfl rfl).val (congrArg Value.bool (decide_eq_true (by decide)))) rfl (KL.run 2 rfl (KL.ld rfl (cell_of bw rfl) (KL.q ((R.leq rfl rfl rfl).val (congrArg Value.bool (decide_eq_false (by decide)))) rfl (KL.fin 1 rfl (KQ.seq (KC.condF rfl ?_))))))))))))
  refine KC.skip (KQ.seq (KC.seq (KC.sr (KL.run 1 rfl (KL.ld rfl (cell_of bw rfl) (KL.fin 1 rfl (KQ.seq ?_)))))))
  refine KC.condIs false rfl (by decide) ?_
  refine KC.skip (KQ.seq (KC.seq (KC.sr (KL.run 1 rfl (KL.ld rfl (cell_of bw rfl) (KL.e0 rfl (by decide) (KL.run 2 rfl (KL.ld rfl (cell_of bw rfl) (KL.e1 rfl (by decide) (KL.fin 1 rfl (KQ.seq (KC.condT rfl ?_))))))))))))
  refine KC.region (KL.run 1 rfl ?_)
  refine KL.m (M.lit rfl Tryd.underlying36 zs5 (by decide) rfl rfl rfl) rfl ?_
  rintro _ H6 ⟨rfl, n6⟩
  have z6 := n6.2.1
  have o0 := o0.trans n6.1
  have bx := (n6.1).blk bx
  have bw := (n6.1).blk bw
  have wo := wo.old n6.1
  have b6 := n6.2.2
  have hap : Sl 1 (EInt .u8) H6 _ [0] := Sl.lits (l := [0]) n6 rfl (by simp) (by decide)
  have lt7 := wo.lt
  refine KL.m (M.append rfl Tryd.underlying36 inf5 rfl (by decide) rfl rfl wo hap (fun _ _ h _ => h) (by omega) (by simp only [List.length_append, List.length_cons, List.length_nil, List.length_take]; omega) (by unfold maxLen; simp only [List.length_append, List.length_cons, List.length_nil]; omega)) rfl ?_
  rintro vr H7 ⟨w7, g7⟩
  have ob7 := g7.oldB wo (by omega)
  have o0 := o0.then ob7 (by omega)
  have z7 := ob7.1
  have bx := (g7.2 _ (blk_lt bx) (by exact .inr (by omega))).trans bx
  have bw := (g7.2 _ (blk_lt bw) (by exact .inr (by omega))).trans bw
  have wo := w7
  refine KL.fin 1 rfl (KQ.seq (KC.seq (KC.sr (KL.run 1 rfl (KL.ld rfl (cell_of bw rfl) (KL.fin 1 rfl (KQ.seq ?_)))))))
  refine KC.condIs false rfl (by decide) ?_
  refine KC.skip (KQ.sr (KL.fin 2 rfl (KQ.seq (KC.ret (KQ.ofRet (KQ.fin1 Tryd.results129 rfl ?_))))))
  have e : Isp.bytes x = x.op :: [0] := by unfold Isp.bytes Isp.bodyE Isp.rest Isp.labsE; rw [hf]; simp
  rw [e]
  exact ⟨by simpa [List.append_assoc] using wo.weak (by omega), o0⟩
theorem RBytes8 {H : Heap} {x : Ins} {vl : Value} (hx : InsR x) (hll : x.l.length ≤ 100000000) (hs : Sl 1 (EInt .u32) H vl x.l) (hf : Opc.form x.op = 8) : Ct Tryd.prog 129 [insV x vl] H (fun u H' => Own 1 (EInt .u8) 5 #[] H.size H' u (Isp.bytes x) ∧ Old H H') := by
  refine Ct.mk Tryd.func129 rfl Tryd.ntmps129 rfl ?_
  intro W0 hW0
  have o0 : Old H H := Old.refl H
  have hs0 := hs
  have hxa := hx.2.1
  have hxb := hx.2.2.1
  dsimp only [InR] at hxa hxb
  unfold insV
  refine KC.sr ?_
  refine KL.m (M.box rfl rfl rfl) rfl ?_
  rintro _ H1 ⟨rfl, n1⟩
  have z1 := n1.2.1
  have o0 := o0.trans n1.1
  have hs := hs.old n1.1
  have b1 := n1.2.2
  have bx := b1
  refine KL.fin 1 rfl (KQ.sr (KL.run 1 rfl (KL.ld rfl (cell_of bx rfl) ?_)))
  refine KL.c rfl Tryd.call150 (RFindK _ hx.1) ?_
  rintro _ H2 ⟨⟨a1, a2, a4, a5, rfl⟩, ox⟩
  have zc_H2 := (ox).1
  have o0 := o0.trans ox
  have hs := hs.old ox
  have bx := (ox).blk bx
  rw [hf]
  refine KL.run 3 rfl ?_
  refine KL.m (M.alloc rfl zr229 rfl) rfl ?_
  rintro _ H3 ⟨rfl, n3⟩
  have z3 := n3.2.1
  have o0 := o0.trans n3.1
  have hs := hs.old n3.1
  have bx := (n3.1).blk bx
  have b3 := n3.2.2
  have bw := b3
  refine KL.opS (S.storeAgg rfl sz229 rfl rfl (rfl) (by intro u hu; simp only [List.mem_cons, List.not_mem_nil, or_false] at hu; rcases hu with rfl | rfl | rfl | rfl | rfl <;> rfl) bw (by simp)) rfl rfl ?_
  rintro H4 ⟨u4, b4⟩
  have o0 := o0.upd u4 (by omega)
  have zu4 := u4.1
  have bx := ((u4).2 _ (by omega)).trans bx
  have bw := b4
  rw [over_all (by rfl)] at bw
  refine KL.fin 1 rfl (KQ.sr (KL.run 1 rfl (KL.ld rfl (cell_of bx rfl) ?_)))
  refine KL.m (M.lit rfl Tryd.underlying36 zs5 (by decide) rfl rfl rfl) rfl ?_
  rintro _ H5 ⟨rfl, n5⟩
  have z5 := n5.2.1
  have o0 := o0.trans n5.1
  have bx := (n5.1).blk bx
  have bw := (n5.1).blk bw
  have b5 := n5.2.2
  have hvb : vblock (Value.slice (some ⟨Array.size H4, 0, none⟩) 1 1) = Array.size H4 := rfl
  have wo : Own 1 (EInt .u8) 5 #[] (Array.size H4) H5 _ [x.op] := Own.litI (l := [x.op]) (m := 1) n5 (by omega) rfl (by decide) (by intro y hy; simp only [List.mem_cons, List.not_mem_nil, or_false] at hy; subst hy; exact hx.1)
  refine KL.fin 1 rfl (KQ.seq (KC.seq (KC.sr (KL.run 1 rfl (KL.ld rfl (cell_of bw rfl) (KL.fin 1 rfl (KQ.seq ?_)))))))
  refine KC.condIs false rfl (by decide) ?_
  refine KC.skip (KQ.seq (KC.seq (KC.sr (KL.run 1 rfl (KL.ld rfl (cell_of bw rfl) (KL.fin 1 rfl (KQ.seq ?_)))))))
  refine KC.condIs false rfl (by decide) ?_
  refine KC.skip (KQ.seq (KC.seq (KC.sr (KL.run 1 rfl (KL.ld rfl (cell_of bw rfl) (KL.q ((R.geq rfl rfl rfl).val (congrArg Value.bool (decide_eq_true (by decide)))) rfl (KL.run 2 rfl (KL.ld rfl (cell_of bw rfl) (KL.q ((R.leq rfl rfl rfl).val (congrArg Value.bool (decide_eq_false (by decide)))) rfl (KL.fin 1 rfl (KQ.seq (KC.condF rfl ?_))))))))))))
  refine KC.skip (KQ.seq (KC.seq (KC.sr (KL.run 1 rfl (KL.ld rfl (cell_of bw rfl) (KL.fin 1 rfl (KQ.seq ?_)))))))
  refine KC.condIs false rfl (by decide) ?_
  refine KC.skip (KQ.seq (KC.seq (KC.sr (KL.run 1 rfl (KL.ld rfl (cell_of bw rfl) (KL.e0 rfl (by decide) (KL.run 2 rfl (KL.ld rfl (cell_of bw rfl) (KL.e0 rfl (by decide) (KL.fin 1 rfl (KQ.seq (KC.condF rfl ?_))))))))))))
  refine KC.skip (KQ.seq (KC.seq (KC.sr (KL.run 1 rfl (KL.ld rfl (cell_of bw rfl) (KL.fin 1 rfl (KQ.seq ?_)))))))
  refine KC.condIs true rfl (by decide) ?_
  refine KC.region (KL.run 2 rfl (KL.ld rfl (cell_of bx rfl) (KL.q (R.convW rfl Tryd.underlying2 Tryd.underlying101 rfl) rfl ?_)))
  refine KL.c rfl Tryd.call86 (FewS_k _ hx.2.2.2) ?_
  rintro va H6 ⟨wa, ox⟩
  have zc_H6 := (ox).1
  have o0 := o0.trans ox
  have bx := (ox).blk bx
  have bw := (ox).blk bw
  have wo := wo.old ox
  have hap := wa.sl (emptyOld _) (by omega)
  have hapl := apS hx.2.2.2
  have lt7 := wo.lt
  refine KL.m (M.append rfl Tryd.underlying36 inf5 rfl (by decide) rfl rfl wo hap (fun _ _ h _ => h) (by omega) (by simp only [List.length_append, List.length_cons, List.length_nil, List.length_take]; omega) (by unfold maxLen; simp only [List.length_append, List.length_cons, List.length_nil]; omega)) rfl ?_
  rintro vs H7 ⟨w7, g7⟩
  have ob7 := g7.oldB wo (by omega)
  have o0 := o0.then ob7 (by omega)
  have z7 := ob7.1
  have bx := (g7.2 _ (blk_lt bx) (by exact .inr (by omega))).trans bx
  have bw := (g7.2 _ (blk_lt bw) (by exact .inr (by omega))).trans bw
  have wo := w7
  refine KL.fin 1 rfl (KQ.sr (KL.fin 2 rfl (KQ.seq (KC.ret (KQ.ofRet (KQ.fin1 Tryd.results129 rfl ?_))))))
  have e : Isp.bytes x = x.op :: Isp.apN true x.c := by unfold Isp.bytes Isp.bodyE Isp.rest Isp.labsE; rw [hf]; simp
  rw [e]
  exact ⟨by simpa [List.append_assoc] using wo.weak (by omega), o0⟩
theorem RBytes9 {H : Heap} {x : Ins} {vl : Value} (hx : InsR x) (hll : x.l.length ≤ 100000000) (hs : Sl 1 (EInt .u32) H vl x.l) (hf : Opc.form x.op = 9) : Ct Tryd.prog 129 [insV x vl] H (fun u H' => Own 1 (EInt .u8) 5 #[] H.size H' u (Isp.bytes x) ∧ Old H H') := by
  refine Ct.mk Tryd.func129 rfl Tryd.ntmps129 rfl ?_
  intro W0 hW0
  have o0 : Old H H := Old.refl H
  have hs0 := hs
  have hxa := hx.2.1
  have hxb := hx.2.2.1
  dsimp only [InR] at hxa hxb
  unfold insV
  refine KC.sr ?_
  refine KL.m (M.box rfl rfl rfl) rfl ?_
  rintro _ H1 ⟨rfl, n1⟩
  have z1 := n1.2.1
  have o0 := o0.trans n1.1
  have hs := hs.old n1.1
  have b1 := n1.2.2
  have bx := b1
  refine KL.fin 1 rfl (KQ.sr (KL.run 1 rfl (KL.ld rfl (cell_of bx rfl) ?_)))
  refine KL.c rfl Tryd.call150 (RFindK _ hx.1) ?_
  rintro _ H2 ⟨⟨a1, a2, a4, a5, rfl⟩, ox⟩
  have zc_H2 := (ox).1
  have o0 := o0.trans ox
  have hs := hs.old ox
  have bx := (ox).blk bx
  rw [hf]
  refine KL.run 3 rfl ?_
  refine KL.m (M.alloc rfl zr229 rfl) rfl ?_
  rintro _ H3 ⟨rfl, n3⟩
  have z3 := n3.2.1
  have o0 := o0.trans n3.1
  have hs := hs.old n3.1
  have bx := (n3.1).blk bx
  have b3 := n3.2.2
  have bw := b3
  refine KL.opS (S.storeAgg rfl sz229 rfl rfl (rfl) (by intro u hu; simp only [List.mem_cons, List.not_mem_nil, or_false] at hu; rcases hu with rfl | rfl | rfl | rfl | rfl <;> rfl) bw (by simp)) rfl rfl ?_
  rintro H4 ⟨u4, b4⟩
  have o0 := o0.upd u4 (by omega)
  have zu4 := u4.1
  have bx := ((u4).2 _ (by omega)).trans bx
  have bw := b4
  rw [over_all (by rfl)] at bw
  refine KL.fin 1 rfl (KQ.sr (KL.run 1 rfl (KL.ld rfl (cell_of bx rfl) ?_)))
  refine KL.m (M.lit rfl Tryd.underlying36 zs5 (by decide) rfl rfl rfl) rfl ?_
  rintro _ H5 ⟨rfl, n5⟩
  have z5 := n5.2.1
  have o0 := o0.trans n5.1
  have bx := (n5.1).blk bx
  have bw := (n5.1).blk bw
  have b5 := n5.2.2
  have hvb : vblock (Value.slice (some ⟨Array.size H4, 0, none⟩) 1 1) = Array.size H4 := rfl
  have wo : Own 1 (EInt .u8) 5 #[] (Array.size H4) H5 _ [x.op] := Own.litI (l := [x.op]) (m := 1) n5 (by omega) rfl (by decide) (by intro y hy; simp only [List.mem_cons, List.not_mem_nil, or_false] at hy; subst hy; exact hx.1)
  refine KL.fin 1 rfl (KQ.seq (KC.seq (KC.sr (KL.run 1 rfl (KL.ld rfl (cell_of bw rfl) (KL.fin 1 rfl (KQ.seq ?_)))))))
  refine KC.condIs false rfl (by decide) ?_
  refine KC.skip (KQ.seq (KC.seq (KC.sr (KL.run 1 rfl (KL.ld rfl (cell_of bw rfl) (KL.fin 1 rfl (KQ.seq ?_)))))))
  refine KC.condIs false rfl (by decide) ?_
  refine KC.skip (KQ.seq (KC.seq (KC.sr (KL.run 1 rfl (KL.ld rfl (cell_of bw rfl) (KL.q ((R.geq rfl rfl rfl).val (congrArg Value.bool (decide_eq_true (by decide)))) rfl (KL.run 2 rfl (KL.ld rfl (cell_of bw rfl) (KL.q ((R.leq rfl rfl rfl).val (congrArg Value.bool (decide_eq_false (by decide)))) rfl (KL.fin 1 rfl (KQ.seq (KC.condF rfl ?_))))))))))))
  refine KC.skip (KQ.seq (KC.seq (KC.sr (KL.run 1 rfl (KL.ld rfl (cell_of bw rfl) (KL.fin 1 rfl (KQ.seq ?_)))))))
  refine KC.condIs false rfl (by decide) ?_
  refine KC.skip (KQ.seq (KC.seq (KC.sr (KL.run 1 rfl (KL.ld rfl (cell_of bw rfl) (KL.e0 rfl (by decide) (KL.run 2 rfl (KL.ld rfl (cell_of bw rfl) (KL.e0 rfl (by decide) (KL.fin 1 rfl (KQ.seq (KC.condF rfl ?_))))))))))))
  refine KC.skip (KQ.seq (KC.seq (KC.sr (KL.run 1 rfl (KL.ld rfl (cell_of bw rfl) (KL.fin 1 rfl (KQ.seq ?_)))))))
  refine KC.condIs true rfl (by decide) ?_
  refine KC.region (KL.run 2 rfl (KL.ld rfl (cell_of bx rfl) (KL.q (R.convW rfl Tryd.underlying2 Tryd.underlying101 rfl) rfl ?_)))
  refine KL.c rfl Tryd.call86 (FewS_k _ hx.2.2.2) ?_
  rintro va H6 ⟨wa, ox⟩
  have zc_H6 := (ox).1
  have o0 := o0.trans ox
  have bx := (ox).blk bx
  have bw := (ox).blk bw
  have wo := wo.old ox
  have hap := wa.sl (emptyOld _) (by omega)
  have hapl := apS hx.2.2.2
  have lt7 := wo.lt
  refine KL.m (M.append rfl Tryd.underlying36 inf5 rfl (by decide) rfl rfl wo hap (fun _ _ h _ => h) (by omega) (by simp only [List.length_append, List.length_cons, List.length_nil, List.length_take]; omega) (by unfold maxLen; simp only [List.length_append, List.length_cons, List.length_nil]; omega)) rfl ?_
  rintro vs H7 ⟨w7, g7⟩
  have ob7 := g7.oldB wo (by omega)
  have o0 := o0.then ob7 (by omega)
  have z7 := ob7.1
  have bx := (g7.2 _ (blk_lt bx) (by exact .inr (by omega))).trans bx
  have bw := (g7.2 _ (blk_lt bw) (by exact .inr (by omega))).trans bw
  have wo := w7
  refine KL.fin 1 rfl (KQ.sr (KL.fin 2 rfl (KQ.seq (KC.ret (KQ.ofRet (KQ.fin1 Tryd.results129 rfl ?_))))))
  have e : Isp.bytes x = x.op :: Isp.apN true x.c := by unfold Isp.bytes Isp.bodyE Isp.rest Isp.labsE; rw [hf]; simp
  rw [e]
  exact ⟨by simpa [List.append_assoc] using wo.weak (by omega), o0⟩
theorem RBytes_any {H : Heap} {x : Ins} {vl : Value} (hx : InsR x) (hll : x.l.length ≤ 100000000) (hs : Sl 1 (EInt .u32) H vl x.l) (hM : Isp.May x) : Ct Tryd.prog 129 [insV x vl] H (fun u H' => Own 1 (EInt .u8) 5 #[] H.size H' u (Isp.bytes x) ∧ Old H H') := by
  have hfr := Isp.form_range hx.1
  have hc : Opc.form x.op = 0 ∨ Opc.form x.op = 1 ∨ Opc.form x.op = 2 ∨ Opc.form x.op = 3 ∨ Opc.form x.op = 4 ∨ Opc.form x.op = 5 ∨ Opc.form x.op = 6 ∨ Opc.form x.op = 7 ∨ Opc.form x.op = 8 ∨ Opc.form x.op = 9 := by omega
  rcases hc with h | h | h | h | h | h | h | h | h | h
  · exact RBytes0 hx hll hs h
  · exact RBytes1 hx hll hs h (by have := ((Isp.may_iff hx (by omega) (fun y hy => hs.rng y hy)).1 hM).2.1; omega)
  · exact RBytes2 hx hll hs h
  · exact RBytes3 hx hll hs h
  · exact RBytes4 hx hll hs h
  · exact RBytes5 hx hll hs h
  · exact RBytes6 hx hll hs h
  · exact RBytes7 hx hll hs h
  · exact RBytes8 hx hll hs h
  exact RBytes9 hx hll hs h
end Go.Proofs.YtldmfchamcpmmaaDoor
namespace Go.Proofs.YtldmfchamcpmmaaDoor
open Go Go.RowKit
set_option linter.unusedVariables false
set_option linter.unusedSimpArgs false
set_option linter.unnecessarySimpa false
namespace Isp
/-- the document's marks -/
def opn (l : List Int) (op : Int) : Option (List Int) :=
  if op = 2 ∨ op = 3 then some (l ++ [1])
  else if op = 4 then some (l ++ [2])
  else if op = 5 then (if l = [] ∨ l.getD (l.length - 1) default ≠ 2 then none else some (l.take (l.length - 1) ++ [3]))
  else if op = 11 then (if l = [] then none else some (l.take (l.length - 1)))
  else some l
def dm (m : Int) : Int := if m = 4 then 2 else if m = 5 then 3 else 1
def okm (m : List Int) : Prop := ∀ x ∈ m, x = 2 ∨ x = 3 ∨ x = 4 ∨ x = 5
theorem opn_nx {m : List Int} (hm : okm m) (op : Int) : opn (m.map dm) op = (match nx m op with | .go m' => some (m'.map dm) | _ => none) ∧ ∀ m', nx m op = .go m' → okm m' := by
  have hl : m ≠ [] → (m.map dm).getD (m.length - 1) default = dm (m.getD (m.length - 1) default) := by
    intro h
    have : m.length ≠ 0 := fun e => h (List.eq_nil_of_length_eq_zero e)
    rw [List.getD_eq_getElem?_getD, List.getElem?_map, List.getElem?_eq_getElem (by omega), List.getD_eq_getElem?_getD, List.getElem?_eq_getElem (by omega)]
    rfl
  have ht : ∀ n, okm (m.take n) := fun n x hx => hm x (List.mem_of_mem_take hx)
  have ha : ∀ (l : List Int) (x : Int), okm l → (x = 2 ∨ x = 3 ∨ x = 4 ∨ x = 5) → okm (l ++ [x]) := by
    intro l x h hx y hy
    rcases List.mem_append.1 hy with hy | hy
    · exact h y hy
    simp at hy; subst hy; exact hx
  unfold opn nx
  by_cases h2 : op = 2
  · subst h2; simp [dm]; exact ha _ _ hm (.inl rfl)
  by_cases h3 : op = 3
  · subst h3; simp [dm]; exact ha _ _ hm (.inr (.inl rfl))
  by_cases h4 : op = 4
  · subst h4; simp [dm]; exact ha _ _ hm (.inr (.inr (.inl rfl)))
  by_cases h5 : op = 5
  · subst h5
    simp only [List.length_map, List.map_eq_nil_iff]
    by_cases he : m = []
    · subst he; simp
    rw [hl he]
    have hmem : m.getD (m.length - 1) default = 2 ∨ m.getD (m.length - 1) default = 3 ∨ m.getD (m.length - 1) default = 4 ∨ m.getD (m.length - 1) default = 5 := by
      have : m.length ≠ 0 := fun e => he (List.eq_nil_of_length_eq_zero e)
      refine hm _ ?_
      rw [List.getD_eq_getElem?_getD, List.getElem?_eq_getElem (by omega)]
      exact List.getElem_mem _
    generalize m.getD (m.length - 1) default = y at *
    rcases hmem with rfl | rfl | rfl | rfl <;> simp [he, dm, List.map_take]
    exact ha _ _ (ht _) (.inr (.inr (.inr rfl)))
  by_cases h11 : op = 11
  · subst h11
    simp only [List.length_map, List.map_eq_nil_iff]
    by_cases he : m = []
    · subst he; simp
    simp [he, List.map_take]; exact ht _
  simp [h2, h3, h4, h5, h11]; exact hm
/-- how much there is -/
def bulk (l : List Ins) : Nat := (l.map fun x => 1 + x.l.length).sum
theorem bulk_mem {l : List Ins} {x : Ins} (h : x ∈ l) : 1 + x.l.length ≤ bulk l := by
  induction l with
  | nil => cases h
  | cons y l ih =>
    simp only [bulk, List.map_cons, List.sum_cons] at *
    rcases List.mem_cons.1 h with h | h
    · subst h; omega
    have := ih h; omega
theorem bulk_len (l : List Ins) : l.length ≤ bulk l := by
  induction l with
  | nil => simp [bulk]
  | cons x l ih => simp only [bulk, List.map_cons, List.sum_cons, List.length_cons] at *; omega
theorem bulk_step {l : List Ins} {k : Nat} (hk : k < l.length) : bulk (l.take (k + 1)) = bulk (l.take k) + 1 + (l.getD k default).l.length := by
  unfold bulk
  rw [List.take_add_one, List.getElem?_eq_getElem hk, List.map_append, List.sum_append, List.getD_eq_getElem?_getD, List.getElem?_eq_getElem hk]
  simp
  omega
theorem bulk_take {l : List Ins} (k : Nat) : bulk (l.take k) ≤ bulk l := by
  have h := congrArg bulk (List.take_append_drop k l)
  unfold bulk at *
  rw [List.map_append, List.sum_append] at h
  omega
theorem bytes_len {x : Ins} (hx : InsR x) (hr : ∀ y ∈ x.l, InR .u32 y) (hl : x.l.length ≤ 100000000) : (bytes x).length ≤ 31 * (1 + x.l.length) := by
  have h1 := apL hx.2.1
  have h2 := apL hx.2.2.1
  have h3 := apS hx.2.2.2
  have h4 := apF hr
  have h5 := apL (z := ((x.l.length : Nat) : Int)) (by dsimp only [InR]; omega)
  unfold bytes bodyE rest labsE
  dsimp only
  simp only [List.length_cons]
  repeat' split
  all_goals try simp only [List.length_append, List.length_cons, List.length_nil]
  all_goals omega
theorem flat_le {l : List Ins} (h : ∀ x ∈ l, InsR x ∧ (∀ y ∈ x.l, InR .u32 y) ∧ x.l.length ≤ 100000000) : (flat l).length ≤ 31 * bulk l := by
  induction l with
  | nil => simp [flat, bulk]
  | cons x l ih =>
    have h1 := bytes_len (h x (by simp)).1 (h x (by simp)).2.1 (h x (by simp)).2.2
    have h2 := ih (fun y hy => h y (by simp [hy]))
    simp only [flat, bulk, List.flatMap_cons, List.map_cons, List.sum_cons, List.length_append] at *
    omega
theorem walk_step {l : List Ins} {k : Nat} {m m' : List Int} (hk : k < l.length) (h : walkM [] (l.take k) = some m) (hn : nx m (l.getD k default).op = .go m') : walkM [] (l.take (k + 1)) = some m' := by
  have key : ∀ (xs : List Ins) (a : List Int) (y : Ins), walkM a xs = some m → nx m y.op = .go m' → walkM a (xs ++ [y]) = some m' := by
    intro xs
    induction xs with
    | nil => intro a y h1 h2; simp only [walkM, Option.some.injEq] at h1; subst h1; simp [walkM, h2]
    | cons z xs ih =>
      intro a y h1 h2
      simp only [walkM, List.cons_append] at h1 ⊢
      split at h1
      · next a' e => exact ih _ _ h1 h2
      cases h1
  rw [List.take_add_one, List.getElem?_eq_getElem hk]
  refine key _ _ _ h ?_
  rw [List.getD_eq_getElem?_getD, List.getElem?_eq_getElem hk] at hn
  exact hn
theorem walk_stop {l : List Ins} {k : Nat} {m : List Int} (hk : k < l.length) (h : walkM [] (l.take k) = some m) (hn : ∀ m', nx m (l.getD k default).op ≠ .go m') : walkM [] l = none := by
  have key : ∀ (xs ys : List Ins) (a : List Int) (y : Ins), walkM a xs = some m → (∀ m', nx m y.op ≠ .go m') → walkM a (xs ++ y :: ys) = none := by
    intro xs ys
    induction xs with
    | nil =>
      intro a y h1 h2
      simp only [walkM, Option.some.injEq] at h1; subst h1
      simp only [List.nil_append, walkM] <;> (cases hq : nx a y.op <;> first | rfl | exact absurd hq (h2 _))
    | cons z xs ih =>
      intro a y h1 h2
      simp only [walkM, List.cons_append] at h1 ⊢
      split at h1
      · next a' e => exact ih _ _ h1 h2
      cases h1
  have e : l = l.take k ++ l.getD k default :: l.drop (k + 1) := by
    rw [List.getD_eq_getElem?_getD, List.getElem?_eq_getElem hk]
    conv => lhs; rw [← List.take_append_drop k l, List.drop_eq_getElem_cons hk]
    rfl
  rw [e]; exact key _ _ _ _ h hn
theorem flat_step {l : List Ins} {k : Nat} (hk : k < l.length) : flat (l.take (k + 1)) = flat (l.take k) ++ bytes (l.getD k default) := by
  unfold flat
  rw [List.take_add_one, List.getElem?_eq_getElem hk, List.flatMap_append, List.getD_eq_getElem?_getD, List.getElem?_eq_getElem hk]
  simp
end Isp
theorem Open_any {H : Heap} {v : Value} {l : List Int} (op : Int) (hs : Sl 1 (EInt .i64) H v l) (hl : l.length ≤ 100000000) : Ct Tryd.prog 127 [v, .int .u8 op] H (fun u H' => (match Isp.opn l op with | none => u = .tuple #[.slice none 0 0, .bool false] | some l' => ∃ v', u = .tuple #[v', .bool true] ∧ Own 1 (EInt .i64) 3 #[] H.size H' v' l') ∧ Old H H') := by
  refine Ct.mk Tryd.func127 rfl Tryd.ntmps127 rfl ?_
  intro W0 hW0
  have o0 : Old H H := Old.refl H
  refine KC.sr (KL.fin 2 rfl (KQ.sr ?_))
  refine KL.m (M.lit rfl Tryd.underlying157 zs3 (by decide) rfl rfl rfl) rfl ?_
  rintro _ H1 ⟨rfl, n1⟩
  have z1 := n1.2.1
  have o0 := o0.trans n1.1
  have hs := hs.old n1.1
  have b1 := n1.2.2
  have wa : Own 1 (EInt .i64) 3 #[] H.size H1 _ [] := Own.litI (l := []) n1 (Nat.le_refl _) rfl (by decide) (by intro x hx; cases hx)
  refine KL.run 1 rfl ?_
  have lt2 := wa.lt
  refine KL.m (M.append rfl Tryd.underlying157 inf3 rfl (by decide) rfl rfl wa hs (fun _ _ h _ => h) (by omega) (by simp; omega) (by unfold maxLen; simp; omega)) rfl ?_
  rintro v0 H2 ⟨w2, g2⟩
  have ob2 := g2.oldB wa (by omega)
  have o0 := o0.then ob2 (by omega)
  have z2 := ob2.1
  have wa := w2
  rw [List.nil_append] at wa
  refine KL.fin 1 rfl (KQ.sr (KL.run 1 rfl (KL.q (R.lenO rfl Tryd.underlying157 rfl wa) rfl (KL.fin 1 rfl (KQ.seq (KC.seq (KC.sr (KL.fin 1 rfl (KQ.seq (KC.block ?_))))))))))
  refine KC.seq (KC.sr (KL.fin 2 rfl (KQ.seq ?_)))
  refine KC.iq rfl ?_ ?_
  · intro hc14
    refine KC.skip (KQ.seq (KC.condT rfl (KC.sr (KL.run 1 rfl ?_))))
    refine KL.m (M.lit rfl Tryd.underlying157 zs3 (by decide) rfl rfl rfl) rfl ?_
    rintro _ H3 ⟨rfl, n3⟩
    have z3 := n3.2.1
    have o0 := o0.trans n3.1
    have wa := wa.old n3.1
    have b3 := n3.2.2
    have h1 : Sl 1 (EInt .i64) H3 _ [1] := Sl.lits (l := [1]) n3 rfl (by simp) (by decide)
    have lt4 := wa.lt
    refine KL.m (M.append rfl Tryd.underlying157 inf3 rfl (by decide) rfl rfl wa h1 (fun _ _ h _ => h) (by omega) (by simp; omega) (by unfold maxLen; simp; omega)) rfl ?_
    rintro v1 H4 ⟨w4, g4⟩
    have ob4 := g4.oldB wa (by omega)
    have o0 := o0.then ob4 (by omega)
    have z4 := ob4.1
    have wa := w4
    refine KL.fin 2 rfl (KQ.seq (KC.ret (KQ.retBlock (KQ.retThen (KQ.ofRet (KQ.fin2 Tryd.results127 rfl rfl ?_))))))
    (exact ⟨by unfold Isp.opn; rw [if_pos (by exact .inl hc14)]; exact ⟨_, rfl, wa⟩, o0⟩)
  intro hc14
  refine KC.region (KL.fin 2 rfl (KQ.seq ?_))
  refine KC.iq rfl ?_ ?_
  · intro hc14
    refine KC.sr (KL.run 1 rfl ?_)
    refine KL.m (M.lit rfl Tryd.underlying157 zs3 (by decide) rfl rfl rfl) rfl ?_
    rintro _ H5 ⟨rfl, n5⟩
    have z5 := n5.2.1
    have o0 := o0.trans n5.1
    have wa := wa.old n5.1
    have b5 := n5.2.2
    have h1 : Sl 1 (EInt .i64) H5 _ [1] := Sl.lits (l := [1]) n5 rfl (by simp) (by decide)
    have lt6 := wa.lt
    refine KL.m (M.append rfl Tryd.underlying157 inf3 rfl (by decide) rfl rfl wa h1 (fun _ _ h _ => h) (by omega) (by simp; omega) (by unfold maxLen; simp; omega)) rfl ?_
    rintro v1 H6 ⟨w6, g6⟩
    have ob6 := g6.oldB wa (by omega)
    have o0 := o0.then ob6 (by omega)
    have z6 := ob6.1
    have wa := w6
    refine KL.fin 2 rfl (KQ.seq (KC.ret (KQ.retBlock (KQ.retThen (KQ.ofRet (KQ.fin2 Tryd.results127 rfl rfl ?_))))))
    (exact ⟨by unfold Isp.opn; rw [if_pos (by exact .inr hc14)]; exact ⟨_, rfl, wa⟩, o0⟩)
  intro hc14
  refine KC.sr (KL.fin 2 rfl (KQ.seq ?_))
  refine KC.iq rfl ?_ ?_
  · intro hc20
    refine KC.sr (KL.run 1 rfl ?_)
    refine KL.m (M.lit rfl Tryd.underlying157 zs3 (by decide) rfl rfl rfl) rfl ?_
    rintro _ H7 ⟨rfl, n7⟩
    have z7 := n7.2.1
    have o0 := o0.trans n7.1
    have wa := wa.old n7.1
    have b7 := n7.2.2
    have h1 : Sl 1 (EInt .i64) H7 _ [2] := Sl.lits (l := [2]) n7 rfl (by simp) (by decide)
    have lt8 := wa.lt
    refine KL.m (M.append rfl Tryd.underlying157 inf3 rfl (by decide) rfl rfl wa h1 (fun _ _ h _ => h) (by omega) (by simp; omega) (by unfold maxLen; simp; omega)) rfl ?_
    rintro v2 H8 ⟨w8, g8⟩
    have ob8 := g8.oldB wa (by omega)
    have o0 := o0.then ob8 (by omega)
    have z8 := ob8.1
    have wa := w8
    refine KL.fin 2 rfl (KQ.seq (KC.ret (KQ.retBlock (KQ.retThen (KQ.ofRet (KQ.fin2 Tryd.results127 rfl rfl ?_))))))
    (exact ⟨by unfold Isp.opn; rw [if_neg (by omega), if_pos (by omega)]; exact ⟨_, rfl, wa⟩, o0⟩)
  intro hc20
  refine KC.sr (KL.fin 2 rfl (KQ.seq ?_))
  refine KC.iq rfl ?_ ?_
  · intro hc25
    refine KC.seq (KC.sr (KL.run 3 rfl ?_))
    refine KL.cq 29 rfl ?_ ?_
    · intro hg29
      refine KL.fin 7 rfl (KQ.seq (KC.condT rfl (KC.sr (KL.fin 2 rfl (KQ.seq (KC.ret (KQ.retThen (KQ.retBlock (KQ.retThen (KQ.ofRet (KQ.fin2 Tryd.results127 rfl rfl ?_)))))))))))
      (exact ⟨by unfold Isp.opn; rw [if_neg (by omega), if_neg (by omega), if_pos (by omega), if_pos (by exact .inl (List.eq_nil_of_length_eq_zero (by omega)))], o0⟩)
    intro hg29
    refine KL.run 2 rfl ?_
    refine KL.q ((R.sub rfl rfl rfl (by dsimp only [InR]; omega)).val (congrArg (Value.int .i64) (show (l.length : Int) - 1 = ((l.length - 1 : Nat) : Int) by omega))) rfl ?_
    refine KL.q (R.indexO1 (j := l.length - 1) rfl Tryd.underlying157 sz3 rfl rfl wa (by omega) (by omega)) rfl ?_
    refine KL.ld rfl (wa.int (l.length - 1) (by omega)).1 ?_
    refine KL.fin 2 rfl (KQ.seq ?_)
    refine KC.iq rfl ?_ ?_
    · intro hc36
      refine KC.sr (KL.fin 2 rfl (KQ.seq (KC.ret (KQ.retThen (KQ.retBlock (KQ.retThen (KQ.ofRet (KQ.fin2 Tryd.results127 rfl rfl ?_))))))))
      (exact ⟨by unfold Isp.opn; rw [if_neg (by omega), if_neg (by omega), if_pos (by omega), if_pos (by exact .inr (by assumption))], o0⟩)
    intro hc36
    refine KC.skip (KQ.r (KL.run 2 rfl ?_))
    refine KL.q ((R.sub rfl rfl rfl (by dsimp only [InR]; omega)).val (congrArg (Value.int .i64) (show (l.length : Int) - 1 = ((l.length - 1 : Nat) : Int) by omega))) rfl ?_
    refine KL.q (R.indexO1 (j := l.length - 1) rfl Tryd.underlying157 sz3 rfl rfl wa (by omega) (by omega)) rfl ?_
    have hvb := wa.lt.resolve_left (Own.not_nil wa (by omega))
    refine KL.opS (S.own1 rfl sz3 rfl rfl rfl rfl wa (by omega) ⟨rfl, by decide⟩) rfl rfl ?_
    rintro H9 ⟨u9, w9⟩
    have o0 := o0.upd u9 (by omega)
    have zu9 := u9.1
    have wa := w9
    rw [Isp.set_last (by omega)] at wa
    refine KL.nil (KQ.normBlock (KQ.sr (KL.fin 3 rfl (KQ.seq (KC.ret (KQ.ofRet (KQ.fin2 Tryd.results127 rfl rfl ?_)))))))
    (exact ⟨by unfold Isp.opn; rw [if_neg (by omega), if_neg (by omega), if_pos (by omega), if_neg (fun h => h.elim (fun e => absurd (congrArg List.length e) (by simp only [List.length_nil]; omega)) (fun e => e (by assumption)))]; exact ⟨_, rfl, wa⟩, o0⟩)
  intro hc25
  refine KC.sr (KL.fin 2 rfl (KQ.seq ?_))
  refine KC.iq rfl ?_ ?_
  · intro hc41
    refine KC.seq (KC.sr (KL.fin 2 rfl (KQ.seq ?_)))
    refine KC.iq rfl ?_ ?_
    · intro hc44
      refine KC.sr (KL.fin 2 rfl (KQ.seq (KC.ret (KQ.retThen (KQ.retBlock (KQ.retThen (KQ.ofRet (KQ.fin2 Tryd.results127 rfl rfl ?_))))))))
      (exact ⟨by unfold Isp.opn; rw [if_neg (by omega), if_neg (by omega), if_neg (by omega), if_pos (by omega), if_pos (List.eq_nil_of_length_eq_zero (by omega))], o0⟩)
    intro hc44
    refine KC.skip (KQ.sr (KL.run 2 rfl ?_))
    refine KL.q ((R.sub rfl rfl rfl (by dsimp only [InR]; omega)).val (congrArg (Value.int .i64) (show (l.length : Int) - 1 = ((l.length - 1 : Nat) : Int) by omega))) rfl ?_
    refine KL.q (R.sliceTo (j := l.length - 1) rfl Tryd.underlying157 sz3 rfl rfl wa (by omega) (by omega)) rfl ?_
    have wt := (wa.to (j := l.length - 1) (by omega)).1
    refine KL.fin 2 rfl (KQ.seq (KC.ret (KQ.retBlock (KQ.retThen (KQ.ofRet (KQ.fin2 Tryd.results127 rfl rfl ?_))))))
    (exact ⟨by unfold Isp.opn; rw [if_neg (by omega), if_neg (by omega), if_neg (by omega), if_pos (by omega), if_neg (by rintro e; subst e; simp at *)]; exact ⟨_, rfl, wt⟩, o0⟩)
  intro hc41
  refine KC.skip (KQ.normBlock (KQ.sr (KL.fin 3 rfl (KQ.seq (KC.ret (KQ.ofRet (KQ.fin2 Tryd.results127 rfl rfl ?_)))))))
  (exact ⟨by unfold Isp.opn; rw [if_neg (by omega), if_neg (by omega), if_neg (by omega), if_neg (by omega)]; exact ⟨_, rfl, wa⟩, o0⟩)
end Go.Proofs.YtldmfchamcpmmaaDoor
namespace Go.Proofs.YtldmfchamcpmmaaDoor
open Go Go.RowKit
set_option linter.unusedVariables false
set_option linter.unusedSimpArgs false
set_option linter.unnecessarySimpa false
section
variable {H : Heap} {v : Value} {l : List Ins}
theorem Sl.insV (h : Sl 5 EIns H v l) (j : Nat) (hj : j < l.length) : ∃ vl, CellsH H ((vbase v).add (j * 5)) [.int .u8 (l.getD j default).op, .int .u32 (l.getD j default).a, .int .u32 (l.getD j default).b, .int .i64 (l.getD j default).c, vl] ∧ Sl 1 (EInt .u32) H vl (l.getD j default).l ∧ InsR (l.getD j default) := by
  obtain ⟨u, h1, h2, h3, h4, h5, h6⟩ := h.insAt j hj
  exact ⟨u, h1, h2, h3, h4, h5, h6⟩
theorem ins_mem {l : List Ins} {j : Nat} (hj : j < l.length) : l.getD j default ∈ l := by
  rw [List.getD_eq_getElem?_getD, List.getElem?_eq_getElem hj]; exact List.getElem_mem _
theorem Sl.insAll (h : Sl 5 EIns H v l) : ∀ x ∈ l, InsR x ∧ ∀ y ∈ x.l, InR .u32 y := by
  intro x hx
  obtain ⟨j, hj, rfl⟩ := List.getElem_of_mem hx
  obtain ⟨vl, _, h2, h3⟩ := h.insV j hj
  rw [List.getD_eq_getElem?_getD, List.getElem?_eq_getElem hj] at h2 h3
  exact ⟨h3, h2.rng⟩
theorem flatB {k : Nat} (h : Sl 5 EIns H v l) (hb : Isp.bulk l ≤ 2000000) : (Isp.flat (l.take k)).length ≤ 62000000 := by
  have h1 : (Isp.flat (l.take k)).length ≤ 31 * Isp.bulk (l.take k) := Isp.flat_le fun x hx => by
    have hm := List.mem_of_mem_take hx
    have := Isp.bulk_mem hm
    exact ⟨(h.insAll x hm).1, (h.insAll x hm).2, by omega⟩
  have := Isp.bulk_take (l := l) k
  omega
end
theorem Isp.walk_len {xs : List Ins} {m : List Int} (h : Isp.walkM [] xs = some m) : m.length ≤ xs.length := by
  have key : ∀ (xs : List Ins) (a m : List Int), Isp.walkM a xs = some m → m.length ≤ a.length + xs.length := by
    intro xs
    induction xs with
    | nil => intro a m h; simp only [Isp.walkM, Option.some.injEq] at h; subst h; simp
    | cons x xs ih =>
      intro a m h
      simp only [Isp.walkM] at h
      split at h
      · next a' e =>
        have := ih _ _ h
        have h2 : a'.length ≤ a.length + 1 := by
          unfold Isp.nx at e
          split at e
          · injection e with e; subst e; simp
          split at e
          · split at e
            · cases e
            injection e with e; subst e; simp <;> omega
          split at e
          · split at e
            · cases e
            injection e with e; subst e; simp <;> omega
          injection e with e; subst e; omega
        simp only [List.length_cons]; omega
      cases h
  have := key xs [] m h
  simpa using this
theorem Isp.may_no {xs : List Ins} {k : Nat} (hk : k < xs.length) (h : ¬ Isp.May (xs.getD k default)) : ¬ ∀ x ∈ xs, Isp.May x := fun hall => h (hall _ (ins_mem hk))
end Go.Proofs.YtldmfchamcpmmaaDoor
namespace Go.Proofs.YtldmfchamcpmmaaDoor
open Go Go.RowKit
set_option linter.unusedVariables false
set_option linter.unusedSimpArgs false
set_option linter.unnecessarySimpa false
theorem wrap32 {c : Int} : IntKind.i32.wrap c = c ↔ (-2147483648 ≤ c ∧ c ≤ 2147483647) := by
  constructor
  · intro h; have := inR_wrap .i32 c; rw [h] at this; dsimp only [InR] at this; omega
  intro h; exact wrap_in (k := .i32) (by dsimp only [InR]; omega)
theorem may_no {H : Heap} {x : Ins} {vl : Value} (hx : InsR x) (hll : x.l.length < 4294967296) (hs : Sl 1 (EInt .u32) H vl x.l) (hk : Opc.known x.op = false) : Ct Tryd.prog 145 [insV x vl] H (fun u H' => (∃ b, u = .bool b ∧ (b = true ↔ Isp.May x)) ∧ Old H H') := by
  refine Ct.mk Tryd.func145 rfl Tryd.ntmps145 rfl ?_
  intro W0 hW0
  have o0 : Old H H := Old.refl H
  unfold insV
  refine KC.sr ?_
  refine KL.m (M.box rfl rfl rfl) rfl ?_
  rintro _ H1 ⟨rfl, n1⟩
  have z1 := n1.2.1
  have o0 := o0.trans n1.1
  have hs := hs.old n1.1
  have b1 := n1.2.2
  have bx := b1
  refine KL.fin 1 rfl (KQ.seq (KC.seq (KC.sr (KL.run 1 rfl (KL.ld rfl (cell_of bx rfl) ?_)))))
  refine KL.c rfl Tryd.call60 (Known_k _) ?_
  rintro _ _ ⟨rfl, rfl⟩
  refine KL.fin 1 rfl (KQ.seq ?_)
  refine KC.condIs true rfl (by rw [hk]; rfl) ?_
  refine KC.sr (KL.fin 1 rfl (KQ.seq (KC.ret (KQ.retThen (KQ.ofRet (KQ.fin1 Tryd.results145 rfl ?_))))))
  exact ⟨⟨false, rfl, fun h => absurd h (by decide), fun h => by have := h.1; rw [hk] at this; cases this⟩, o0⟩
theorem may0 {H : Heap} {x : Ins} {vl : Value} (hx : InsR x) (hll : x.l.length < 4294967296) (hs : Sl 1 (EInt .u32) H vl x.l) (hk : Opc.known x.op = true) (hf : Opc.form x.op = 0) : Ct Tryd.prog 145 [insV x vl] H (fun u H' => (∃ b, u = .bool b ∧ (b = true ↔ Isp.May x)) ∧ Old H H') := by
  refine Ct.mk Tryd.func145 rfl Tryd.ntmps145 rfl ?_
  intro W0 hW0
  have o0 : Old H H := Old.refl H
  have hs0 := hs
  unfold insV
  refine KC.sr ?_
  refine KL.m (M.box rfl rfl rfl) rfl ?_
  rintro _ H1 ⟨rfl, n1⟩
  have z1 := n1.2.1
  have o0 := o0.trans n1.1
  have hs := hs.old n1.1
  have b1 := n1.2.2
  have bx := b1
  refine KL.fin 1 rfl (KQ.seq (KC.seq (KC.sr (KL.run 1 rfl (KL.ld rfl (cell_of bx rfl) ?_)))))
  refine KL.c rfl Tryd.call60 (Known_k _) ?_
  rintro _ _ ⟨rfl, rfl⟩
  refine KL.fin 1 rfl (KQ.seq ?_)
  refine KC.condIs false rfl (by rw [hk]; rfl) ?_
  refine KC.skip (KQ.sr (KL.q (R.buildArr (cs := #[(.bool false), (.bool false), (.bool false), (.bool false)]) rfl Tryd.underlying240 zr240 sz4 rfl (by kernel_rfl)) rfl ?_))
  refine KL.m (M.alloc rfl zr240 rfl) rfl ?_
  rintro _ H2 ⟨rfl, n2⟩
  have z2 := n2.2.1
  have o0 := o0.trans n2.1
  have hs := hs.old n2.1
  have bx := (n2.1).blk bx
  have b2 := n2.2.2
  have bq := b2
  refine KL.opS (S.storeAgg rfl sz240 rfl rfl (rfl) (by intro u hu; simp only [List.mem_cons, List.not_mem_nil, or_false] at hu; rcases hu with rfl | rfl | rfl | rfl <;> rfl) bq (by simp)) rfl rfl ?_
  rintro H3 ⟨u3, b3⟩
  have o0 := o0.upd u3 (by omega)
  have zu3 := u3.1
  have bx := ((u3).2 _ (by omega)).trans bx
  have bq := b3
  rw [over_all (by rfl)] at bq
  refine KL.nil (KQ.seq (KC.seq (KC.sr (KL.run 1 rfl (KL.ld rfl (cell_of bx rfl) ?_)))))
  refine KL.c rfl Tryd.call153 (Form_k _) ?_
  rintro _ _ ⟨rfl, rfl⟩
  rw [hf]
  refine KL.nil (KQ.seq (KC.block (KC.sr (KL.e0 rfl (by decide) (KL.fin 1 rfl (KQ.seq (KC.condF rfl (KC.seq (KC.sr (KL.e0 rfl (by decide) (KL.fin 1 rfl ?_)))))))))))
  refine KQ.seq (KC.condF rfl (KC.sr (KL.e0 rfl (by decide) (KL.fin 1 rfl (KQ.seq (KC.condF rfl (KC.region (KL.e0 rfl (by decide) (KL.fin 1 rfl (KQ.seq (KC.condF rfl (KC.seq ?_))))))))))))
  refine KC.region (KL.e0 rfl (by decide) (KL.fin 1 rfl (KQ.seq (KC.condF rfl (KC.sr (KL.e0 rfl (by decide) (KL.fin 1 rfl (KQ.seq (KC.condF rfl (KC.sr (KL.e0 rfl (by decide) ?_)))))))))))
  refine KL.fin 1 rfl (KQ.seq (KC.condF rfl (KC.sr (KL.e0 rfl (by decide) (KL.fin 1 rfl (KQ.seq (KC.condF rfl (KC.skip (KQ.normBlock (KQ.sr ?_))))))))))
  refine KL.q (R.indexAddrArr (j := 0) rfl Tryd.underlying240 sz4 rfl rfl rfl (by omega)) rfl ?_
  refine KL.ld rfl (cell_of bq rfl) (KL.run 2 rfl (KL.ld rfl (cell_of bx rfl) (KL.run 3 rfl ?_)))
  refine KL.cq 61 rfl ?_ ?_
  · intro hg61
    refine KL.q (R.indexAddrArr (j := 1) rfl Tryd.underlying240 sz4 rfl rfl rfl (by omega)) rfl ?_
    refine KL.ld rfl (cell_of bq rfl) (KL.run 2 rfl (KL.ld rfl (cell_of bx rfl) (KL.run 4 rfl ?_)))
    refine KL.cq 70 rfl ?_ ?_
    · intro hg70
      refine KL.q (R.indexAddrArr (j := 2) rfl Tryd.underlying240 sz4 rfl rfl rfl (by omega)) rfl ?_
      refine KL.ld rfl (cell_of bq rfl) (KL.run 2 rfl (KL.ld rfl (cell_of bx rfl) (KL.run 4 rfl ?_)))
      refine KL.cq 79 rfl ?_ ?_
      · intro hg79
        refine KL.q (R.indexAddrArr (j := 3) rfl Tryd.underlying240 sz4 rfl rfl rfl (by omega)) rfl ?_
        refine KL.ld rfl (cell_of bq rfl) (KL.run 2 rfl (KL.ld rfl (cell_of bx rfl) (KL.q (R.lenS rfl Tryd.underlying24 rfl hs) rfl (KL.fin 4 rfl (KQ.seq (KC.ret (KQ.ofRet (KQ.fin1 Tryd.results145 rfl ?_))))))))
        (exact ⟨⟨_, rfl, fun h => (Isp.may_iff hx hll (fun y hy => hs0.rng y hy)).2 ⟨hk, by rw [hf]; unfold Isp.mayC; have := of_decide_eq_true h; omega⟩, fun h => by have k2 := ((Isp.may_iff hx hll (fun y hy => hs0.rng y hy)).1 h).2; rw [hf] at k2; unfold Isp.mayC at k2; exact decide_eq_true (by omega)⟩, o0⟩)
      intro hg79
      refine KL.fin 10 rfl (KQ.seq (KC.ret (KQ.ofRet (KQ.fin1 Tryd.results145 rfl ?_))))
      (exact ⟨⟨false, rfl, fun h => absurd h (by decide), fun h => absurd ((Isp.may_iff hx hll (fun y hy => hs0.rng y hy)).1 h) (fun ⟨k1, k2⟩ => by rw [hf] at k2; unfold Isp.mayC at k2; omega)⟩, o0⟩)
    intro hg70
    refine KL.fin 19 rfl (KQ.seq (KC.ret (KQ.ofRet (KQ.fin1 Tryd.results145 rfl ?_))))
    (exact ⟨⟨false, rfl, fun h => absurd h (by decide), fun h => absurd ((Isp.may_iff hx hll (fun y hy => hs0.rng y hy)).1 h) (fun ⟨k1, k2⟩ => by rw [hf] at k2; unfold Isp.mayC at k2; omega)⟩, o0⟩)
  intro hg61
  refine KL.fin 28 rfl (KQ.seq (KC.ret (KQ.ofRet (KQ.fin1 Tryd.results145 rfl ?_))))
  (exact ⟨⟨false, rfl, fun h => absurd h (by decide), fun h => absurd ((Isp.may_iff hx hll (fun y hy => hs0.rng y hy)).1 h) (fun ⟨k1, k2⟩ => by rw [hf] at k2; unfold Isp.mayC at k2; omega)⟩, o0⟩)
theorem may1 {H : Heap} {x : Ins} {vl : Value} (hx : InsR x) (hll : x.l.length < 4294967296) (hs : Sl 1 (EInt .u32) H vl x.l) (hk : Opc.known x.op = true) (hf : Opc.form x.op = 1) : Ct Tryd.prog 145 [insV x vl] H (fun u H' => (∃ b, u = .bool b ∧ (b = true ↔ Isp.May x)) ∧ Old H H') := by
  refine Ct.mk Tryd.func145 rfl Tryd.ntmps145 rfl ?_
  intro W0 hW0
  have o0 : Old H H := Old.refl H
  have hs0 := hs
  unfold insV
  refine KC.sr ?_
  refine KL.m (M.box rfl rfl rfl) rfl ?_
  rintro _ H1 ⟨rfl, n1⟩
  have z1 := n1.2.1
  have o0 := o0.trans n1.1
  have hs := hs.old n1.1
  have b1 := n1.2.2
  have bx := b1
  refine KL.fin 1 rfl (KQ.seq (KC.seq (KC.sr (KL.run 1 rfl (KL.ld rfl (cell_of bx rfl) ?_)))))
  refine KL.c rfl Tryd.call60 (Known_k _) ?_
  rintro _ _ ⟨rfl, rfl⟩
  refine KL.fin 1 rfl (KQ.seq ?_)
  refine KC.condIs false rfl (by rw [hk]; rfl) ?_
  refine KC.skip (KQ.sr (KL.q (R.buildArr (cs := #[(.bool false), (.bool false), (.bool false), (.bool false)]) rfl Tryd.underlying240 zr240 sz4 rfl (by kernel_rfl)) rfl ?_))
  refine KL.m (M.alloc rfl zr240 rfl) rfl ?_
  rintro _ H2 ⟨rfl, n2⟩
  have z2 := n2.2.1
  have o0 := o0.trans n2.1
  have hs := hs.old n2.1
  have bx := (n2.1).blk bx
  have b2 := n2.2.2
  have bq := b2
  refine KL.opS (S.storeAgg rfl sz240 rfl rfl (rfl) (by intro u hu; simp only [List.mem_cons, List.not_mem_nil, or_false] at hu; rcases hu with rfl | rfl | rfl | rfl <;> rfl) bq (by simp)) rfl rfl ?_
  rintro H3 ⟨u3, b3⟩
  have o0 := o0.upd u3 (by omega)
  have zu3 := u3.1
  have bx := ((u3).2 _ (by omega)).trans bx
  have bq := b3
  rw [over_all (by rfl)] at bq
  refine KL.nil (KQ.seq (KC.seq (KC.sr (KL.run 1 rfl (KL.ld rfl (cell_of bx rfl) ?_)))))
  refine KL.c rfl Tryd.call153 (Form_k _) ?_
  rintro _ _ ⟨rfl, rfl⟩
  rw [hf]
  refine KL.nil (KQ.seq (KC.block (KC.sr (KL.e1 rfl (by decide) (KL.fin 1 rfl (KQ.seq (KC.condT rfl (KC.seq (KC.sr (KL.run 1 rfl (KL.ld rfl (cell_of bx rfl) ?_)))))))))))
  refine KL.fin 1 rfl (KQ.sr (KL.run 3 rfl ?_))
  refine KL.cq 19 rfl ?_ ?_
  · intro hg19
    refine KL.run 4 rfl ?_
    refine KL.cq 23 rfl ?_ ?_
    · intro hg23
      refine KL.fin 3 rfl (KQ.seq ?_)
      refine KC.iq rfl ?_ ?_
      · intro hc26
        refine KC.sr (KL.fin 1 rfl (KQ.seq (KC.ret (KQ.retThen (KQ.retBlock (KQ.retThen (KQ.ofRet (KQ.fin1 Tryd.results145 rfl ?_))))))))
        (exact ⟨⟨false, rfl, fun h => absurd h (by decide), fun h => absurd ((Isp.may_iff hx hll (fun y hy => hs0.rng y hy)).1 h) (fun ⟨k1, k2⟩ => by rw [hf] at k2; unfold Isp.mayC at k2; omega)⟩, o0⟩)
      intro hc26
      refine KC.skip (KQ.r ?_)
      refine KL.q (R.indexAddrArr (j := 0) rfl Tryd.underlying240 sz4 rfl rfl rfl (by omega)) rfl ?_
      refine KL.opS (S.store rfl sz4 rfl rfl rfl rfl bq (by simp)) rfl rfl ?_
      rintro H4 ⟨u4, b4⟩
      have o0 := o0.upd u4 (by omega)
      have zu4 := u4.1
      have bx := ((u4).2 _ (by omega)).trans bx
      have bq := b4
      refine KL.nil (KQ.normBlock (KQ.sr ?_))
      refine KL.q (R.indexAddrArr (j := 0) rfl Tryd.underlying240 sz4 rfl rfl rfl (by omega)) rfl ?_
      refine KL.ld rfl (cell_of bq rfl) (KL.run 6 rfl ?_)
      refine KL.q (R.indexAddrArr (j := 1) rfl Tryd.underlying240 sz4 rfl rfl rfl (by omega)) rfl ?_
      refine KL.ld rfl (cell_of bq rfl) (KL.run 2 rfl (KL.ld rfl (cell_of bx rfl) (KL.run 4 rfl ?_)))
      refine KL.cq 70 rfl ?_ ?_
      · intro hg70
        refine KL.q (R.indexAddrArr (j := 2) rfl Tryd.underlying240 sz4 rfl rfl rfl (by omega)) rfl ?_
        refine KL.ld rfl (cell_of bq rfl) (KL.run 2 rfl (KL.ld rfl (cell_of bx rfl) (KL.run 4 rfl ?_)))
        refine KL.cq 79 rfl ?_ ?_
        · intro hg79
          refine KL.q (R.indexAddrArr (j := 3) rfl Tryd.underlying240 sz4 rfl rfl rfl (by omega)) rfl ?_
          refine KL.ld rfl (cell_of bq rfl) (KL.run 2 rfl (KL.ld rfl (cell_of bx rfl) (KL.q (R.lenS rfl Tryd.underlying24 rfl hs) rfl (KL.fin 4 rfl (KQ.seq (KC.ret (KQ.ofRet (KQ.fin1 Tryd.results145 rfl ?_))))))))
          (exact ⟨⟨_, rfl, fun h => (Isp.may_iff hx hll (fun y hy => hs0.rng y hy)).2 ⟨hk, by rw [hf]; unfold Isp.mayC; have := of_decide_eq_true h; omega⟩, fun h => by have k2 := ((Isp.may_iff hx hll (fun y hy => hs0.rng y hy)).1 h).2; rw [hf] at k2; unfold Isp.mayC at k2; exact decide_eq_true (by omega)⟩, o0⟩)
        intro hg79
        refine KL.fin 10 rfl (KQ.seq (KC.ret (KQ.ofRet (KQ.fin1 Tryd.results145 rfl ?_))))
        (exact ⟨⟨false, rfl, fun h => absurd h (by decide), fun h => absurd ((Isp.may_iff hx hll (fun y hy => hs0.rng y hy)).1 h) (fun ⟨k1, k2⟩ => by rw [hf] at k2; unfold Isp.mayC at k2; omega)⟩, o0⟩)
      intro hg70
      refine KL.fin 19 rfl (KQ.seq (KC.ret (KQ.ofRet (KQ.fin1 Tryd.results145 rfl ?_))))
      (exact ⟨⟨false, rfl, fun h => absurd h (by decide), fun h => absurd ((Isp.may_iff hx hll (fun y hy => hs0.rng y hy)).1 h) (fun ⟨k1, k2⟩ => by rw [hf] at k2; unfold Isp.mayC at k2; omega)⟩, o0⟩)
    intro hg23
    refine KL.fin 3 rfl (KQ.seq (KC.condF rfl (KC.skip (KQ.r ?_))))
    refine KL.q (R.indexAddrArr (j := 0) rfl Tryd.underlying240 sz4 rfl rfl rfl (by omega)) rfl ?_
    refine KL.opS (S.store rfl sz4 rfl rfl rfl rfl bq (by simp)) rfl rfl ?_
    rintro H5 ⟨u5, b5⟩
    have o0 := o0.upd u5 (by omega)
    have zu5 := u5.1
    have bx := ((u5).2 _ (by omega)).trans bx
    have bq := b5
    refine KL.nil (KQ.normBlock (KQ.sr ?_))
    refine KL.q (R.indexAddrArr (j := 0) rfl Tryd.underlying240 sz4 rfl rfl rfl (by omega)) rfl ?_
    refine KL.ld rfl (cell_of bq rfl) (KL.run 6 rfl ?_)
    refine KL.q (R.indexAddrArr (j := 1) rfl Tryd.underlying240 sz4 rfl rfl rfl (by omega)) rfl ?_
    refine KL.ld rfl (cell_of bq rfl) (KL.run 2 rfl (KL.ld rfl (cell_of bx rfl) (KL.run 4 rfl ?_)))
    refine KL.cq 70 rfl ?_ ?_
    · intro hg70
      refine KL.q (R.indexAddrArr (j := 2) rfl Tryd.underlying240 sz4 rfl rfl rfl (by omega)) rfl ?_
      refine KL.ld rfl (cell_of bq rfl) (KL.run 2 rfl (KL.ld rfl (cell_of bx rfl) (KL.run 4 rfl ?_)))
      refine KL.cq 79 rfl ?_ ?_
      · intro hg79
        refine KL.q (R.indexAddrArr (j := 3) rfl Tryd.underlying240 sz4 rfl rfl rfl (by omega)) rfl ?_
        refine KL.ld rfl (cell_of bq rfl) (KL.run 2 rfl (KL.ld rfl (cell_of bx rfl) (KL.q (R.lenS rfl Tryd.underlying24 rfl hs) rfl (KL.fin 4 rfl (KQ.seq (KC.ret (KQ.ofRet (KQ.fin1 Tryd.results145 rfl ?_))))))))
        (exact ⟨⟨_, rfl, fun h => (Isp.may_iff hx hll (fun y hy => hs0.rng y hy)).2 ⟨hk, by rw [hf]; unfold Isp.mayC; have := of_decide_eq_true h; omega⟩, fun h => by have k2 := ((Isp.may_iff hx hll (fun y hy => hs0.rng y hy)).1 h).2; rw [hf] at k2; unfold Isp.mayC at k2; exact decide_eq_true (by omega)⟩, o0⟩)
      intro hg79
      refine KL.fin 10 rfl (KQ.seq (KC.ret (KQ.ofRet (KQ.fin1 Tryd.results145 rfl ?_))))
      (exact ⟨⟨false, rfl, fun h => absurd h (by decide), fun h => absurd ((Isp.may_iff hx hll (fun y hy => hs0.rng y hy)).1 h) (fun ⟨k1, k2⟩ => by rw [hf] at k2; unfold Isp.mayC at k2; omega)⟩, o0⟩)
    intro hg70
    refine KL.fin 19 rfl (KQ.seq (KC.ret (KQ.ofRet (KQ.fin1 Tryd.results145 rfl ?_))))
    (exact ⟨⟨false, rfl, fun h => absurd h (by decide), fun h => absurd ((Isp.may_iff hx hll (fun y hy => hs0.rng y hy)).1 h) (fun ⟨k1, k2⟩ => by rw [hf] at k2; unfold Isp.mayC at k2; omega)⟩, o0⟩)
  intro hg19
  refine KL.fin 7 rfl (KQ.seq (KC.condF rfl (KC.skip (KQ.r ?_))))
  refine KL.q (R.indexAddrArr (j := 0) rfl Tryd.underlying240 sz4 rfl rfl rfl (by omega)) rfl ?_
  refine KL.opS (S.store rfl sz4 rfl rfl rfl rfl bq (by simp)) rfl rfl ?_
  rintro H6 ⟨u6, b6⟩
  have o0 := o0.upd u6 (by omega)
  have zu6 := u6.1
  have bx := ((u6).2 _ (by omega)).trans bx
  have bq := b6
  refine KL.nil (KQ.normBlock (KQ.sr ?_))
  refine KL.q (R.indexAddrArr (j := 0) rfl Tryd.underlying240 sz4 rfl rfl rfl (by omega)) rfl ?_
  refine KL.ld rfl (cell_of bq rfl) (KL.run 6 rfl ?_)
  refine KL.q (R.indexAddrArr (j := 1) rfl Tryd.underlying240 sz4 rfl rfl rfl (by omega)) rfl ?_
  refine KL.ld rfl (cell_of bq rfl) (KL.run 2 rfl (KL.ld rfl (cell_of bx rfl) (KL.run 4 rfl ?_)))
  refine KL.cq 70 rfl ?_ ?_
  · intro hg70
    refine KL.q (R.indexAddrArr (j := 2) rfl Tryd.underlying240 sz4 rfl rfl rfl (by omega)) rfl ?_
    refine KL.ld rfl (cell_of bq rfl) (KL.run 2 rfl (KL.ld rfl (cell_of bx rfl) (KL.run 4 rfl ?_)))
    refine KL.cq 79 rfl ?_ ?_
    · intro hg79
      refine KL.q (R.indexAddrArr (j := 3) rfl Tryd.underlying240 sz4 rfl rfl rfl (by omega)) rfl ?_
      refine KL.ld rfl (cell_of bq rfl) (KL.run 2 rfl (KL.ld rfl (cell_of bx rfl) (KL.q (R.lenS rfl Tryd.underlying24 rfl hs) rfl (KL.fin 4 rfl (KQ.seq (KC.ret (KQ.ofRet (KQ.fin1 Tryd.results145 rfl ?_))))))))
      (exact ⟨⟨_, rfl, fun h => (Isp.may_iff hx hll (fun y hy => hs0.rng y hy)).2 ⟨hk, by rw [hf]; unfold Isp.mayC; have := of_decide_eq_true h; omega⟩, fun h => by have k2 := ((Isp.may_iff hx hll (fun y hy => hs0.rng y hy)).1 h).2; rw [hf] at k2; unfold Isp.mayC at k2; exact decide_eq_true (by omega)⟩, o0⟩)
    intro hg79
    refine KL.fin 10 rfl (KQ.seq (KC.ret (KQ.ofRet (KQ.fin1 Tryd.results145 rfl ?_))))
    (exact ⟨⟨false, rfl, fun h => absurd h (by decide), fun h => absurd ((Isp.may_iff hx hll (fun y hy => hs0.rng y hy)).1 h) (fun ⟨k1, k2⟩ => by rw [hf] at k2; unfold Isp.mayC at k2; omega)⟩, o0⟩)
  intro hg70
  refine KL.fin 19 rfl (KQ.seq (KC.ret (KQ.ofRet (KQ.fin1 Tryd.results145 rfl ?_))))
  (exact ⟨⟨false, rfl, fun h => absurd h (by decide), fun h => absurd ((Isp.may_iff hx hll (fun y hy => hs0.rng y hy)).1 h) (fun ⟨k1, k2⟩ => by rw [hf] at k2; unfold Isp.mayC at k2; omega)⟩, o0⟩)
theorem may2 {H : Heap} {x : Ins} {vl : Value} (hx : InsR x) (hll : x.l.length < 4294967296) (hs : Sl 1 (EInt .u32) H vl x.l) (hk : Opc.known x.op = true) (hf : Opc.form x.op = 2) : Ct Tryd.prog 145 [insV x vl] H (fun u H' => (∃ b, u = .bool b ∧ (b = true ↔ Isp.May x)) ∧ Old H H') := by
  refine Ct.mk Tryd.func145 rfl Tryd.ntmps145 rfl ?_
  intro W0 hW0
  have o0 : Old H H := Old.refl H
  have hs0 := hs
  unfold insV
  refine KC.sr ?_
  refine KL.m (M.box rfl rfl rfl) rfl ?_
  rintro _ H1 ⟨rfl, n1⟩
  have z1 := n1.2.1
  have o0 := o0.trans n1.1
  have hs := hs.old n1.1
  have b1 := n1.2.2
  have bx := b1
  refine KL.fin 1 rfl (KQ.seq (KC.seq (KC.sr (KL.run 1 rfl (KL.ld rfl (cell_of bx rfl) ?_)))))
  refine KL.c rfl Tryd.call60 (Known_k _) ?_
  rintro _ _ ⟨rfl, rfl⟩
  refine KL.fin 1 rfl (KQ.seq ?_)
  refine KC.condIs false rfl (by rw [hk]; rfl) ?_
  refine KC.skip (KQ.sr (KL.q (R.buildArr (cs := #[(.bool false), (.bool false), (.bool false), (.bool false)]) rfl Tryd.underlying240 zr240 sz4 rfl (by kernel_rfl)) rfl ?_))
  refine KL.m (M.alloc rfl zr240 rfl) rfl ?_
  rintro _ H2 ⟨rfl, n2⟩
  have z2 := n2.2.1
  have o0 := o0.trans n2.1
  have hs := hs.old n2.1
  have bx := (n2.1).blk bx
  have b2 := n2.2.2
  have bq := b2
  refine KL.opS (S.storeAgg rfl sz240 rfl rfl (rfl) (by intro u hu; simp only [List.mem_cons, List.not_mem_nil, or_false] at hu; rcases hu with rfl | rfl | rfl | rfl <;> rfl) bq (by simp)) rfl rfl ?_
  rintro H3 ⟨u3, b3⟩
  have o0 := o0.upd u3 (by omega)
  have zu3 := u3.1
  have bx := ((u3).2 _ (by omega)).trans bx
  have bq := b3
  rw [over_all (by rfl)] at bq
  refine KL.nil (KQ.seq (KC.seq (KC.sr (KL.run 1 rfl (KL.ld rfl (cell_of bx rfl) ?_)))))
  refine KL.c rfl Tryd.call153 (Form_k _) ?_
  rintro _ _ ⟨rfl, rfl⟩
  rw [hf]
  refine KL.nil (KQ.seq (KC.block (KC.sr (KL.e0 rfl (by decide) (KL.fin 1 rfl (KQ.seq (KC.condF rfl (KC.seq (KC.sr (KL.e1 rfl (by decide) (KL.fin 1 rfl ?_)))))))))))
  refine KQ.seq (KC.condT rfl (KC.skip (KQ.seq (KC.condT rfl (KC.region ?_)))))
  refine KL.q (R.indexAddrArr (j := 0) rfl Tryd.underlying240 sz4 rfl rfl rfl (by omega)) rfl ?_
  refine KL.opS (S.store rfl sz4 rfl rfl rfl rfl bq (by simp)) rfl rfl ?_
  rintro H4 ⟨u4, b4⟩
  have o0 := o0.upd u4 (by omega)
  have zu4 := u4.1
  have bx := ((u4).2 _ (by omega)).trans bx
  have bq := b4
  refine KL.nil (KQ.normBlock (KQ.sr ?_))
  refine KL.q (R.indexAddrArr (j := 0) rfl Tryd.underlying240 sz4 rfl rfl rfl (by omega)) rfl ?_
  refine KL.ld rfl (cell_of bq rfl) (KL.run 6 rfl ?_)
  refine KL.q (R.indexAddrArr (j := 1) rfl Tryd.underlying240 sz4 rfl rfl rfl (by omega)) rfl ?_
  refine KL.ld rfl (cell_of bq rfl) (KL.run 2 rfl (KL.ld rfl (cell_of bx rfl) (KL.run 4 rfl ?_)))
  refine KL.cq 70 rfl ?_ ?_
  · intro hg70
    refine KL.q (R.indexAddrArr (j := 2) rfl Tryd.underlying240 sz4 rfl rfl rfl (by omega)) rfl ?_
    refine KL.ld rfl (cell_of bq rfl) (KL.run 2 rfl (KL.ld rfl (cell_of bx rfl) (KL.run 4 rfl ?_)))
    refine KL.cq 79 rfl ?_ ?_
    · intro hg79
      refine KL.q (R.indexAddrArr (j := 3) rfl Tryd.underlying240 sz4 rfl rfl rfl (by omega)) rfl ?_
      refine KL.ld rfl (cell_of bq rfl) (KL.run 2 rfl (KL.ld rfl (cell_of bx rfl) (KL.q (R.lenS rfl Tryd.underlying24 rfl hs) rfl (KL.fin 4 rfl (KQ.seq (KC.ret (KQ.ofRet (KQ.fin1 Tryd.results145 rfl ?_))))))))
      (exact ⟨⟨_, rfl, fun h => (Isp.may_iff hx hll (fun y hy => hs0.rng y hy)).2 ⟨hk, by rw [hf]; unfold Isp.mayC; have := of_decide_eq_true h; omega⟩, fun h => by have k2 := ((Isp.may_iff hx hll (fun y hy => hs0.rng y hy)).1 h).2; rw [hf] at k2; unfold Isp.mayC at k2; exact decide_eq_true (by omega)⟩, o0⟩)
    intro hg79
    refine KL.fin 10 rfl (KQ.seq (KC.ret (KQ.ofRet (KQ.fin1 Tryd.results145 rfl ?_))))
    (exact ⟨⟨false, rfl, fun h => absurd h (by decide), fun h => absurd ((Isp.may_iff hx hll (fun y hy => hs0.rng y hy)).1 h) (fun ⟨k1, k2⟩ => by rw [hf] at k2; unfold Isp.mayC at k2; omega)⟩, o0⟩)
  intro hg70
  refine KL.fin 19 rfl (KQ.seq (KC.ret (KQ.ofRet (KQ.fin1 Tryd.results145 rfl ?_))))
  (exact ⟨⟨false, rfl, fun h => absurd h (by decide), fun h => absurd ((Isp.may_iff hx hll (fun y hy => hs0.rng y hy)).1 h) (fun ⟨k1, k2⟩ => by rw [hf] at k2; unfold Isp.mayC at k2; omega)⟩, o0⟩)
theorem may3 {H : Heap} {x : Ins} {vl : Value} (hx : InsR x) (hll : x.l.length < 4294967296) (hs : Sl 1 (EInt .u32) H vl x.l) (hk : Opc.known x.op = true) (hf : Opc.form x.op = 3) : Ct Tryd.prog 145 [insV x vl] H (fun u H' => (∃ b, u = .bool b ∧ (b = true ↔ Isp.May x)) ∧ Old H H') := by
  refine Ct.mk Tryd.func145 rfl Tryd.ntmps145 rfl ?_
  intro W0 hW0
  have o0 : Old H H := Old.refl H
  have hs0 := hs
  unfold insV
  refine KC.sr ?_
  refine KL.m (M.box rfl rfl rfl) rfl ?_
  rintro _ H1 ⟨rfl, n1⟩
  have z1 := n1.2.1
  have o0 := o0.trans n1.1
  have hs := hs.old n1.1
  have b1 := n1.2.2
  have bx := b1
  refine KL.fin 1 rfl (KQ.seq (KC.seq (KC.sr (KL.run 1 rfl (KL.ld rfl (cell_of bx rfl) ?_)))))
  refine KL.c rfl Tryd.call60 (Known_k _) ?_
  rintro _ _ ⟨rfl, rfl⟩
  refine KL.fin 1 rfl (KQ.seq ?_)
  refine KC.condIs false rfl (by rw [hk]; rfl) ?_
  refine KC.skip (KQ.sr (KL.q (R.buildArr (cs := #[(.bool false), (.bool false), (.bool false), (.bool false)]) rfl Tryd.underlying240 zr240 sz4 rfl (by kernel_rfl)) rfl ?_))
  refine KL.m (M.alloc rfl zr240 rfl) rfl ?_
  rintro _ H2 ⟨rfl, n2⟩
  have z2 := n2.2.1
  have o0 := o0.trans n2.1
  have hs := hs.old n2.1
  have bx := (n2.1).blk bx
  have b2 := n2.2.2
  have bq := b2
  refine KL.opS (S.storeAgg rfl sz240 rfl rfl (rfl) (by intro u hu; simp only [List.mem_cons, List.not_mem_nil, or_false] at hu; rcases hu with rfl | rfl | rfl | rfl <;> rfl) bq (by simp)) rfl rfl ?_
  rintro H3 ⟨u3, b3⟩
  have o0 := o0.upd u3 (by omega)
  have zu3 := u3.1
  have bx := ((u3).2 _ (by omega)).trans bx
  have bq := b3
  rw [over_all (by rfl)] at bq
  refine KL.nil (KQ.seq (KC.seq (KC.sr (KL.run 1 rfl (KL.ld rfl (cell_of bx rfl) ?_)))))
  refine KL.c rfl Tryd.call153 (Form_k _) ?_
  rintro _ _ ⟨rfl, rfl⟩
  rw [hf]
  refine KL.nil (KQ.seq (KC.block (KC.sr (KL.e0 rfl (by decide) (KL.fin 1 rfl (KQ.seq (KC.condF rfl (KC.seq (KC.sr (KL.e0 rfl (by decide) (KL.fin 1 rfl ?_)))))))))))
  refine KQ.seq (KC.condF rfl (KC.sr (KL.e0 rfl (by decide) (KL.fin 1 rfl (KQ.seq (KC.condF rfl (KC.region (KL.e0 rfl (by decide) (KL.fin 1 rfl (KQ.seq (KC.condF rfl (KC.seq ?_))))))))))))
  refine KC.region (KL.e1 rfl (by decide) (KL.fin 1 rfl (KQ.seq (KC.condT rfl (KC.region ?_)))))
  refine KL.q (R.indexAddrArr (j := 0) rfl Tryd.underlying240 sz4 rfl rfl rfl (by omega)) rfl ?_
  refine KL.opS (S.store rfl sz4 rfl rfl rfl rfl bq (by simp)) rfl rfl ?_
  rintro H4 ⟨u4, b4⟩
  have o0 := o0.upd u4 (by omega)
  have zu4 := u4.1
  have bx := ((u4).2 _ (by omega)).trans bx
  have bq := b4
  refine KL.q (R.indexAddrArr (j := 3) rfl Tryd.underlying240 sz4 rfl rfl rfl (by omega)) rfl ?_
  refine KL.opS (S.store rfl sz4 rfl rfl rfl rfl bq (by simp)) rfl rfl ?_
  rintro H5 ⟨u5, b5⟩
  try dsimp only at u5
  try dsimp only at b5
  have o0 := o0.upd u5 (by omega)
  have zu5 := u5.1
  have bx := ((u5).2 _ (by omega)).trans bx
  have bq := b5
  refine KL.nil (KQ.normBlock (KQ.sr ?_))
  refine KL.q (R.indexAddrArr (j := 0) rfl Tryd.underlying240 sz4 rfl rfl rfl (by omega)) rfl ?_
  refine KL.ld rfl (cell_of bq rfl) (KL.run 6 rfl ?_)
  refine KL.q (R.indexAddrArr (j := 1) rfl Tryd.underlying240 sz4 rfl rfl rfl (by omega)) rfl ?_
  refine KL.ld rfl (cell_of bq rfl) (KL.run 2 rfl (KL.ld rfl (cell_of bx rfl) (KL.run 4 rfl ?_)))
  refine KL.cq 70 rfl ?_ ?_
  · intro hg70
    refine KL.q (R.indexAddrArr (j := 2) rfl Tryd.underlying240 sz4 rfl rfl rfl (by omega)) rfl ?_
    refine KL.ld rfl (cell_of bq rfl) (KL.run 2 rfl (KL.ld rfl (cell_of bx rfl) (KL.run 4 rfl ?_)))
    refine KL.cq 79 rfl ?_ ?_
    · intro hg79
      refine KL.q (R.indexAddrArr (j := 3) rfl Tryd.underlying240 sz4 rfl rfl rfl (by omega)) rfl ?_
      refine KL.ld rfl (cell_of bq rfl) (KL.fin 8 rfl (KQ.seq (KC.ret (KQ.ofRet (KQ.fin1 Tryd.results145 rfl ?_)))))
      (exact ⟨⟨true, rfl, fun _ => (Isp.may_iff hx hll (fun y hy => hs0.rng y hy)).2 ⟨hk, by rw [hf]; unfold Isp.mayC; omega⟩, fun _ => rfl⟩, o0⟩)
    intro hg79
    refine KL.fin 10 rfl (KQ.seq (KC.ret (KQ.ofRet (KQ.fin1 Tryd.results145 rfl ?_))))
    (exact ⟨⟨false, rfl, fun h => absurd h (by decide), fun h => absurd ((Isp.may_iff hx hll (fun y hy => hs0.rng y hy)).1 h) (fun ⟨k1, k2⟩ => by rw [hf] at k2; unfold Isp.mayC at k2; omega)⟩, o0⟩)
  intro hg70
  refine KL.fin 19 rfl (KQ.seq (KC.ret (KQ.ofRet (KQ.fin1 Tryd.results145 rfl ?_))))
  (exact ⟨⟨false, rfl, fun h => absurd h (by decide), fun h => absurd ((Isp.may_iff hx hll (fun y hy => hs0.rng y hy)).1 h) (fun ⟨k1, k2⟩ => by rw [hf] at k2; unfold Isp.mayC at k2; omega)⟩, o0⟩)
theorem may4 {H : Heap} {x : Ins} {vl : Value} (hx : InsR x) (hll : x.l.length < 4294967296) (hs : Sl 1 (EInt .u32) H vl x.l) (hk : Opc.known x.op = true) (hf : Opc.form x.op = 4) : Ct Tryd.prog 145 [insV x vl] H (fun u H' => (∃ b, u = .bool b ∧ (b = true ↔ Isp.May x)) ∧ Old H H') := by
  refine Ct.mk Tryd.func145 rfl Tryd.ntmps145 rfl ?_
  intro W0 hW0
  have o0 : Old H H := Old.refl H
  have hs0 := hs
  unfold insV
  refine KC.sr ?_
  refine KL.m (M.box rfl rfl rfl) rfl ?_
  rintro _ H1 ⟨rfl, n1⟩
  have z1 := n1.2.1
  have o0 := o0.trans n1.1
  have hs := hs.old n1.1
  have b1 := n1.2.2
  have bx := b1
  refine KL.fin 1 rfl (KQ.seq (KC.seq (KC.sr (KL.run 1 rfl (KL.ld rfl (cell_of bx rfl) ?_)))))
  refine KL.c rfl Tryd.call60 (Known_k _) ?_
  rintro _ _ ⟨rfl, rfl⟩
  refine KL.fin 1 rfl (KQ.seq ?_)
  refine KC.condIs false rfl (by rw [hk]; rfl) ?_
  refine KC.skip (KQ.sr (KL.q (R.buildArr (cs := #[(.bool false), (.bool false), (.bool false), (.bool false)]) rfl Tryd.underlying240 zr240 sz4 rfl (by kernel_rfl)) rfl ?_))
  refine KL.m (M.alloc rfl zr240 rfl) rfl ?_
  rintro _ H2 ⟨rfl, n2⟩
  have z2 := n2.2.1
  have o0 := o0.trans n2.1
  have hs := hs.old n2.1
  have bx := (n2.1).blk bx
  have b2 := n2.2.2
  have bq := b2
  refine KL.opS (S.storeAgg rfl sz240 rfl rfl (rfl) (by intro u hu; simp only [List.mem_cons, List.not_mem_nil, or_false] at hu; rcases hu with rfl | rfl | rfl | rfl <;> rfl) bq (by simp)) rfl rfl ?_
  rintro H3 ⟨u3, b3⟩
  have o0 := o0.upd u3 (by omega)
  have zu3 := u3.1
  have bx := ((u3).2 _ (by omega)).trans bx
  have bq := b3
  rw [over_all (by rfl)] at bq
  refine KL.nil (KQ.seq (KC.seq (KC.sr (KL.run 1 rfl (KL.ld rfl (cell_of bx rfl) ?_)))))
  refine KL.c rfl Tryd.call153 (Form_k _) ?_
  rintro _ _ ⟨rfl, rfl⟩
  rw [hf]
  refine KL.nil (KQ.seq (KC.block (KC.sr (KL.e0 rfl (by decide) (KL.fin 1 rfl (KQ.seq (KC.condF rfl (KC.seq (KC.sr (KL.e0 rfl (by decide) (KL.fin 1 rfl ?_)))))))))))
  refine KQ.seq (KC.condF rfl (KC.sr (KL.e1 rfl (by decide) (KL.fin 1 rfl (KQ.seq (KC.condT rfl (KC.skip (KQ.seq (KC.condT rfl (KC.region ?_))))))))))
  refine KL.q (R.indexAddrArr (j := 0) rfl Tryd.underlying240 sz4 rfl rfl rfl (by omega)) rfl ?_
  refine KL.opS (S.store rfl sz4 rfl rfl rfl rfl bq (by simp)) rfl rfl ?_
  rintro H4 ⟨u4, b4⟩
  have o0 := o0.upd u4 (by omega)
  have zu4 := u4.1
  have bx := ((u4).2 _ (by omega)).trans bx
  have bq := b4
  refine KL.nil (KQ.normBlock (KQ.sr ?_))
  refine KL.q (R.indexAddrArr (j := 0) rfl Tryd.underlying240 sz4 rfl rfl rfl (by omega)) rfl ?_
  refine KL.ld rfl (cell_of bq rfl) (KL.run 6 rfl ?_)
  refine KL.q (R.indexAddrArr (j := 1) rfl Tryd.underlying240 sz4 rfl rfl rfl (by omega)) rfl ?_
  refine KL.ld rfl (cell_of bq rfl) (KL.run 2 rfl (KL.ld rfl (cell_of bx rfl) (KL.run 4 rfl ?_)))
  refine KL.cq 70 rfl ?_ ?_
  · intro hg70
    refine KL.q (R.indexAddrArr (j := 2) rfl Tryd.underlying240 sz4 rfl rfl rfl (by omega)) rfl ?_
    refine KL.ld rfl (cell_of bq rfl) (KL.run 2 rfl (KL.ld rfl (cell_of bx rfl) (KL.run 4 rfl ?_)))
    refine KL.cq 79 rfl ?_ ?_
    · intro hg79
      refine KL.q (R.indexAddrArr (j := 3) rfl Tryd.underlying240 sz4 rfl rfl rfl (by omega)) rfl ?_
      refine KL.ld rfl (cell_of bq rfl) (KL.run 2 rfl (KL.ld rfl (cell_of bx rfl) (KL.q (R.lenS rfl Tryd.underlying24 rfl hs) rfl (KL.fin 4 rfl (KQ.seq (KC.ret (KQ.ofRet (KQ.fin1 Tryd.results145 rfl ?_))))))))
      (exact ⟨⟨_, rfl, fun h => (Isp.may_iff hx hll (fun y hy => hs0.rng y hy)).2 ⟨hk, by rw [hf]; unfold Isp.mayC; have := of_decide_eq_true h; omega⟩, fun h => by have k2 := ((Isp.may_iff hx hll (fun y hy => hs0.rng y hy)).1 h).2; rw [hf] at k2; unfold Isp.mayC at k2; exact decide_eq_true (by omega)⟩, o0⟩)
    intro hg79
    refine KL.fin 10 rfl (KQ.seq (KC.ret (KQ.ofRet (KQ.fin1 Tryd.results145 rfl ?_))))
    (exact ⟨⟨false, rfl, fun h => absurd h (by decide), fun h => absurd ((Isp.may_iff hx hll (fun y hy => hs0.rng y hy)).1 h) (fun ⟨k1, k2⟩ => by rw [hf] at k2; unfold Isp.mayC at k2; omega)⟩, o0⟩)
  intro hg70
  refine KL.fin 19 rfl (KQ.seq (KC.ret (KQ.ofRet (KQ.fin1 Tryd.results145 rfl ?_))))
  (exact ⟨⟨false, rfl, fun h => absurd h (by decide), fun h => absurd ((Isp.may_iff hx hll (fun y hy => hs0.rng y hy)).1 h) (fun ⟨k1, k2⟩ => by rw [hf] at k2; unfold Isp.mayC at k2; omega)⟩, o0⟩)
theorem may5 {H : Heap} {x : Ins} {vl : Value} (hx : InsR x) (hll : x.l.length < 4294967296) (hs : Sl 1 (EInt .u32) H vl x.l) (hk : Opc.known x.op = true) (hf : Opc.form x.op = 5) : Ct Tryd.prog 145 [insV x vl] H (fun u H' => (∃ b, u = .bool b ∧ (b = true ↔ Isp.May x)) ∧ Old H H') := by
  refine Ct.mk Tryd.func145 rfl Tryd.ntmps145 rfl ?_
  intro W0 hW0
  have o0 : Old H H := Old.refl H
  have hs0 := hs
  unfold insV
  refine KC.sr ?_
  refine KL.m (M.box rfl rfl rfl) rfl ?_
  rintro _ H1 ⟨rfl, n1⟩
  have z1 := n1.2.1
  have o0 := o0.trans n1.1
  have hs := hs.old n1.1
  have b1 := n1.2.2
  have bx := b1
  refine KL.fin 1 rfl (KQ.seq (KC.seq (KC.sr (KL.run 1 rfl (KL.ld rfl (cell_of bx rfl) ?_)))))
  refine KL.c rfl Tryd.call60 (Known_k _) ?_
  rintro _ _ ⟨rfl, rfl⟩
  refine KL.fin 1 rfl (KQ.seq ?_)
  refine KC.condIs false rfl (by rw [hk]; rfl) ?_
  refine KC.skip (KQ.sr (KL.q (R.buildArr (cs := #[(.bool false), (.bool false), (.bool false), (.bool false)]) rfl Tryd.underlying240 zr240 sz4 rfl (by kernel_rfl)) rfl ?_))
  refine KL.m (M.alloc rfl zr240 rfl) rfl ?_
  rintro _ H2 ⟨rfl, n2⟩
  have z2 := n2.2.1
  have o0 := o0.trans n2.1
  have hs := hs.old n2.1
  have bx := (n2.1).blk bx
  have b2 := n2.2.2
  have bq := b2
  refine KL.opS (S.storeAgg rfl sz240 rfl rfl (rfl) (by intro u hu; simp only [List.mem_cons, List.not_mem_nil, or_false] at hu; rcases hu with rfl | rfl | rfl | rfl <;> rfl) bq (by simp)) rfl rfl ?_
  rintro H3 ⟨u3, b3⟩
  have o0 := o0.upd u3 (by omega)
  have zu3 := u3.1
  have bx := ((u3).2 _ (by omega)).trans bx
  have bq := b3
  rw [over_all (by rfl)] at bq
  refine KL.nil (KQ.seq (KC.seq (KC.sr (KL.run 1 rfl (KL.ld rfl (cell_of bx rfl) ?_)))))
  refine KL.c rfl Tryd.call153 (Form_k _) ?_
  rintro _ _ ⟨rfl, rfl⟩
  rw [hf]
  refine KL.nil (KQ.seq (KC.block (KC.sr (KL.e0 rfl (by decide) (KL.fin 1 rfl (KQ.seq (KC.condF rfl (KC.seq (KC.sr (KL.e0 rfl (by decide) (KL.fin 1 rfl ?_)))))))))))
  refine KQ.seq (KC.condF rfl (KC.sr (KL.e0 rfl (by decide) (KL.fin 1 rfl (KQ.seq (KC.condF rfl (KC.region (KL.e1 rfl (by decide) (KL.fin 1 rfl (KQ.seq (KC.condT rfl (KC.region ?_))))))))))))
  refine KL.q (R.indexAddrArr (j := 0) rfl Tryd.underlying240 sz4 rfl rfl rfl (by omega)) rfl ?_
  refine KL.opS (S.store rfl sz4 rfl rfl rfl rfl bq (by simp)) rfl rfl ?_
  rintro H4 ⟨u4, b4⟩
  have o0 := o0.upd u4 (by omega)
  have zu4 := u4.1
  have bx := ((u4).2 _ (by omega)).trans bx
  have bq := b4
  refine KL.nil (KQ.normBlock (KQ.sr ?_))
  refine KL.q (R.indexAddrArr (j := 0) rfl Tryd.underlying240 sz4 rfl rfl rfl (by omega)) rfl ?_
  refine KL.ld rfl (cell_of bq rfl) (KL.run 6 rfl ?_)
  refine KL.q (R.indexAddrArr (j := 1) rfl Tryd.underlying240 sz4 rfl rfl rfl (by omega)) rfl ?_
  refine KL.ld rfl (cell_of bq rfl) (KL.run 2 rfl (KL.ld rfl (cell_of bx rfl) (KL.run 4 rfl ?_)))
  refine KL.cq 70 rfl ?_ ?_
  · intro hg70
    refine KL.q (R.indexAddrArr (j := 2) rfl Tryd.underlying240 sz4 rfl rfl rfl (by omega)) rfl ?_
    refine KL.ld rfl (cell_of bq rfl) (KL.run 2 rfl (KL.ld rfl (cell_of bx rfl) (KL.run 4 rfl ?_)))
    refine KL.cq 79 rfl ?_ ?_
    · intro hg79
      refine KL.q (R.indexAddrArr (j := 3) rfl Tryd.underlying240 sz4 rfl rfl rfl (by omega)) rfl ?_
      refine KL.ld rfl (cell_of bq rfl) (KL.run 2 rfl (KL.ld rfl (cell_of bx rfl) (KL.q (R.lenS rfl Tryd.underlying24 rfl hs) rfl (KL.fin 4 rfl (KQ.seq (KC.ret (KQ.ofRet (KQ.fin1 Tryd.results145 rfl ?_))))))))
      (exact ⟨⟨_, rfl, fun h => (Isp.may_iff hx hll (fun y hy => hs0.rng y hy)).2 ⟨hk, by rw [hf]; unfold Isp.mayC; have := of_decide_eq_true h; omega⟩, fun h => by have k2 := ((Isp.may_iff hx hll (fun y hy => hs0.rng y hy)).1 h).2; rw [hf] at k2; unfold Isp.mayC at k2; exact decide_eq_true (by omega)⟩, o0⟩)
    intro hg79
    refine KL.fin 10 rfl (KQ.seq (KC.ret (KQ.ofRet (KQ.fin1 Tryd.results145 rfl ?_))))
    (exact ⟨⟨false, rfl, fun h => absurd h (by decide), fun h => absurd ((Isp.may_iff hx hll (fun y hy => hs0.rng y hy)).1 h) (fun ⟨k1, k2⟩ => by rw [hf] at k2; unfold Isp.mayC at k2; omega)⟩, o0⟩)
  intro hg70
  refine KL.fin 19 rfl (KQ.seq (KC.ret (KQ.ofRet (KQ.fin1 Tryd.results145 rfl ?_))))
  (exact ⟨⟨false, rfl, fun h => absurd h (by decide), fun h => absurd ((Isp.may_iff hx hll (fun y hy => hs0.rng y hy)).1 h) (fun ⟨k1, k2⟩ => by rw [hf] at k2; unfold Isp.mayC at k2; omega)⟩, o0⟩)
theorem may6 {H : Heap} {x : Ins} {vl : Value} (hx : InsR x) (hll : x.l.length < 4294967296) (hs : Sl 1 (EInt .u32) H vl x.l) (hk : Opc.known x.op = true) (hf : Opc.form x.op = 6) : Ct Tryd.prog 145 [insV x vl] H (fun u H' => (∃ b, u = .bool b ∧ (b = true ↔ Isp.May x)) ∧ Old H H') := by
  refine Ct.mk Tryd.func145 rfl Tryd.ntmps145 rfl ?_
  intro W0 hW0
  have o0 : Old H H := Old.refl H
  have hs0 := hs
  unfold insV
  refine KC.sr ?_
  refine KL.m (M.box rfl rfl rfl) rfl ?_
  rintro _ H1 ⟨rfl, n1⟩
  have z1 := n1.2.1
  have o0 := o0.trans n1.1
  have hs := hs.old n1.1
  have b1 := n1.2.2
  have bx := b1
  refine KL.fin 1 rfl (KQ.seq (KC.seq (KC.sr (KL.run 1 rfl (KL.ld rfl (cell_of bx rfl) ?_)))))
  refine KL.c rfl Tryd.call60 (Known_k _) ?_
  rintro _ _ ⟨rfl, rfl⟩
  refine KL.fin 1 rfl (KQ.seq ?_)
  refine KC.condIs false rfl (by rw [hk]; rfl) ?_
  refine KC.skip (KQ.sr (KL.q (R.buildArr (cs := #[(.bool false), (.bool false), (.bool false), (.bool false)]) rfl Tryd.underlying240 zr240 sz4 rfl (by kernel_rfl)) rfl ?_))
  refine KL.m (M.alloc rfl zr240 rfl) rfl ?_
  rintro _ H2 ⟨rfl, n2⟩
  have z2 := n2.2.1
  have o0 := o0.trans n2.1
  have hs := hs.old n2.1
  have bx := (n2.1).blk bx
  have b2 := n2.2.2
  have bq := b2
  refine KL.opS (S.storeAgg rfl sz240 rfl rfl (rfl) (by intro u hu; simp only [List.mem_cons, List.not_mem_nil, or_false] at hu; rcases hu with rfl | rfl | rfl | rfl <;> rfl) bq (by simp)) rfl rfl ?_
  rintro H3 ⟨u3, b3⟩
  have o0 := o0.upd u3 (by omega)
  have zu3 := u3.1
  have bx := ((u3).2 _ (by omega)).trans bx
  have bq := b3
  rw [over_all (by rfl)] at bq
  refine KL.nil (KQ.seq (KC.seq (KC.sr (KL.run 1 rfl (KL.ld rfl (cell_of bx rfl) ?_)))))
  refine KL.c rfl Tryd.call153 (Form_k _) ?_
  rintro _ _ ⟨rfl, rfl⟩
  rw [hf]
  refine KL.nil (KQ.seq (KC.block (KC.sr (KL.e0 rfl (by decide) (KL.fin 1 rfl (KQ.seq (KC.condF rfl (KC.seq (KC.sr (KL.e0 rfl (by decide) (KL.fin 1 rfl ?_)))))))))))
  refine KQ.seq (KC.condF rfl (KC.sr (KL.e0 rfl (by decide) (KL.fin 1 rfl (KQ.seq (KC.condF rfl (KC.region (KL.e0 rfl (by decide) (KL.fin 1 rfl (KQ.seq (KC.condF rfl (KC.seq ?_))))))))))))
  refine KC.region (KL.e0 rfl (by decide) (KL.fin 1 rfl (KQ.seq (KC.condF rfl (KC.sr (KL.e1 rfl (by decide) (KL.fin 1 rfl (KQ.seq (KC.condT rfl (KC.region ?_))))))))))
  refine KL.q (R.indexAddrArr (j := 0) rfl Tryd.underlying240 sz4 rfl rfl rfl (by omega)) rfl ?_
  refine KL.opS (S.store rfl sz4 rfl rfl rfl rfl bq (by simp)) rfl rfl ?_
  rintro H4 ⟨u4, b4⟩
  have o0 := o0.upd u4 (by omega)
  have zu4 := u4.1
  have bx := ((u4).2 _ (by omega)).trans bx
  have bq := b4
  refine KL.q (R.indexAddrArr (j := 1) rfl Tryd.underlying240 sz4 rfl rfl rfl (by omega)) rfl ?_
  refine KL.opS (S.store rfl sz4 rfl rfl rfl rfl bq (by simp)) rfl rfl ?_
  rintro H5 ⟨u5, b5⟩
  try dsimp only at u5
  try dsimp only at b5
  have o0 := o0.upd u5 (by omega)
  have zu5 := u5.1
  have bx := ((u5).2 _ (by omega)).trans bx
  have bq := b5
  refine KL.nil (KQ.normBlock (KQ.sr ?_))
  refine KL.q (R.indexAddrArr (j := 0) rfl Tryd.underlying240 sz4 rfl rfl rfl (by omega)) rfl ?_
  refine KL.ld rfl (cell_of bq rfl) (KL.run 6 rfl ?_)
  refine KL.q (R.indexAddrArr (j := 1) rfl Tryd.underlying240 sz4 rfl rfl rfl (by omega)) rfl ?_
  refine KL.ld rfl (cell_of bq rfl) (KL.run 7 rfl ?_)
  refine KL.q (R.indexAddrArr (j := 2) rfl Tryd.underlying240 sz4 rfl rfl rfl (by omega)) rfl ?_
  refine KL.ld rfl (cell_of bq rfl) (KL.run 2 rfl (KL.ld rfl (cell_of bx rfl) (KL.run 4 rfl ?_)))
  refine KL.cq 79 rfl ?_ ?_
  · intro hg79
    refine KL.q (R.indexAddrArr (j := 3) rfl Tryd.underlying240 sz4 rfl rfl rfl (by omega)) rfl ?_
    refine KL.ld rfl (cell_of bq rfl) (KL.run 2 rfl (KL.ld rfl (cell_of bx rfl) (KL.q (R.lenS rfl Tryd.underlying24 rfl hs) rfl (KL.fin 4 rfl (KQ.seq (KC.ret (KQ.ofRet (KQ.fin1 Tryd.results145 rfl ?_))))))))
    (exact ⟨⟨_, rfl, fun h => (Isp.may_iff hx hll (fun y hy => hs0.rng y hy)).2 ⟨hk, by rw [hf]; unfold Isp.mayC; have := of_decide_eq_true h; omega⟩, fun h => by have k2 := ((Isp.may_iff hx hll (fun y hy => hs0.rng y hy)).1 h).2; rw [hf] at k2; unfold Isp.mayC at k2; exact decide_eq_true (by omega)⟩, o0⟩)
  intro hg79
  refine KL.fin 10 rfl (KQ.seq (KC.ret (KQ.ofRet (KQ.fin1 Tryd.results145 rfl ?_))))
  (exact ⟨⟨false, rfl, fun h => absurd h (by decide), fun h => absurd ((Isp.may_iff hx hll (fun y hy => hs0.rng y hy)).1 h) (fun ⟨k1, k2⟩ => by rw [hf] at k2; unfold Isp.mayC at k2; omega)⟩, o0⟩)
theorem may7 {H : Heap} {x : Ins} {vl : Value} (hx : InsR x) (hll : x.l.length < 4294967296) (hs : Sl 1 (EInt .u32) H vl x.l) (hk : Opc.known x.op = true) (hf : Opc.form x.op = 7) : Ct Tryd.prog 145 [insV x vl] H (fun u H' => (∃ b, u = .bool b ∧ (b = true ↔ Isp.May x)) ∧ Old H H') := by
  refine Ct.mk Tryd.func145 rfl Tryd.ntmps145 rfl ?_
  intro W0 hW0
  have o0 : Old H H := Old.refl H
  have hs0 := hs
  unfold insV
  refine KC.sr ?_
  refine KL.m (M.box rfl rfl rfl) rfl ?_
  rintro _ H1 ⟨rfl, n1⟩
  have z1 := n1.2.1
  have o0 := o0.trans n1.1
  have hs := hs.old n1.1
  have b1 := n1.2.2
  have bx := b1
  refine KL.fin 1 rfl (KQ.seq (KC.seq (KC.sr (KL.run 1 rfl (KL.ld rfl (cell_of bx rfl) ?_)))))
  refine KL.c rfl Tryd.call60 (Known_k _) ?_
  rintro _ _ ⟨rfl, rfl⟩
  refine KL.fin 1 rfl (KQ.seq ?_)
  refine KC.condIs false rfl (by rw [hk]; rfl) ?_
  refine KC.skip (KQ.sr (KL.q (R.buildArr (cs := #[(.bool false), (.bool false), (.bool false), (.bool false)]) rfl Tryd.underlying240 zr240 sz4 rfl (by kernel_rfl)) rfl ?_))
  refine KL.m (M.alloc rfl zr240 rfl) rfl ?_
  rintro _ H2 ⟨rfl, n2⟩
  have z2 := n2.2.1
  have o0 := o0.trans n2.1
  have hs := hs.old n2.1
  have bx := (n2.1).blk bx
  have b2 := n2.2.2
  have bq := b2
  refine KL.opS (S.storeAgg rfl sz240 rfl rfl (rfl) (by intro u hu; simp only [List.mem_cons, List.not_mem_nil, or_false] at hu; rcases hu with rfl | rfl | rfl | rfl <;> rfl) bq (by simp)) rfl rfl ?_
  rintro H3 ⟨u3, b3⟩
  have o0 := o0.upd u3 (by omega)
  have zu3 := u3.1
  have bx := ((u3).2 _ (by omega)).trans bx
  have bq := b3
  rw [over_all (by rfl)] at bq
  refine KL.nil (KQ.seq (KC.seq (KC.sr (KL.run 1 rfl (KL.ld rfl (cell_of bx rfl) ?_)))))
  refine KL.c rfl Tryd.call153 (Form_k _) ?_
  rintro _ _ ⟨rfl, rfl⟩
  rw [hf]
  refine KL.nil (KQ.seq (KC.block (KC.sr (KL.e0 rfl (by decide) (KL.fin 1 rfl (KQ.seq (KC.condF rfl (KC.seq (KC.sr (KL.e0 rfl (by decide) (KL.fin 1 rfl ?_)))))))))))
  refine KQ.seq (KC.condF rfl (KC.sr (KL.e0 rfl (by decide) (KL.fin 1 rfl (KQ.seq (KC.condF rfl (KC.region (KL.e0 rfl (by decide) (KL.fin 1 rfl (KQ.seq (KC.condF rfl (KC.seq ?_))))))))))))
  refine KC.region (KL.e0 rfl (by decide) (KL.fin 1 rfl (KQ.seq (KC.condF rfl (KC.sr (KL.e0 rfl (by decide) (KL.fin 1 rfl (KQ.seq (KC.condF rfl (KC.sr (KL.e0 rfl (by decide) ?_)))))))))))
  refine KL.fin 1 rfl (KQ.seq (KC.condF rfl (KC.sr (KL.e0 rfl (by decide) (KL.fin 1 rfl (KQ.seq (KC.condF rfl (KC.skip (KQ.normBlock (KQ.sr ?_))))))))))
  refine KL.q (R.indexAddrArr (j := 0) rfl Tryd.underlying240 sz4 rfl rfl rfl (by omega)) rfl ?_
  refine KL.ld rfl (cell_of bq rfl) (KL.run 2 rfl (KL.ld rfl (cell_of bx rfl) (KL.run 3 rfl ?_)))
  refine KL.cq 61 rfl ?_ ?_
  · intro hg61
    refine KL.q (R.indexAddrArr (j := 1) rfl Tryd.underlying240 sz4 rfl rfl rfl (by omega)) rfl ?_
    refine KL.ld rfl (cell_of bq rfl) (KL.run 2 rfl (KL.ld rfl (cell_of bx rfl) (KL.run 4 rfl ?_)))
    refine KL.cq 70 rfl ?_ ?_
    · intro hg70
      refine KL.q (R.indexAddrArr (j := 2) rfl Tryd.underlying240 sz4 rfl rfl rfl (by omega)) rfl ?_
      refine KL.ld rfl (cell_of bq rfl) (KL.run 2 rfl (KL.ld rfl (cell_of bx rfl) (KL.run 4 rfl ?_)))
      refine KL.cq 79 rfl ?_ ?_
      · intro hg79
        refine KL.q (R.indexAddrArr (j := 3) rfl Tryd.underlying240 sz4 rfl rfl rfl (by omega)) rfl ?_
        refine KL.ld rfl (cell_of bq rfl) (KL.run 2 rfl (KL.ld rfl (cell_of bx rfl) (KL.q (R.lenS rfl Tryd.underlying24 rfl hs) rfl (KL.fin 4 rfl (KQ.seq (KC.ret (KQ.ofRet (KQ.fin1 Tryd.results145 rfl ?_))))))))
        (exact ⟨⟨_, rfl, fun h => (Isp.may_iff hx hll (fun y hy => hs0.rng y hy)).2 ⟨hk, by rw [hf]; unfold Isp.mayC; have := of_decide_eq_true h; omega⟩, fun h => by have k2 := ((Isp.may_iff hx hll (fun y hy => hs0.rng y hy)).1 h).2; rw [hf] at k2; unfold Isp.mayC at k2; exact decide_eq_true (by omega)⟩, o0⟩)
      intro hg79
      refine KL.fin 10 rfl (KQ.seq (KC.ret (KQ.ofRet (KQ.fin1 Tryd.results145 rfl ?_))))
      (exact ⟨⟨false, rfl, fun h => absurd h (by decide), fun h => absurd ((Isp.may_iff hx hll (fun y hy => hs0.rng y hy)).1 h) (fun ⟨k1, k2⟩ => by rw [hf] at k2; unfold Isp.mayC at k2; omega)⟩, o0⟩)
    intro hg70
    refine KL.fin 19 rfl (KQ.seq (KC.ret (KQ.ofRet (KQ.fin1 Tryd.results145 rfl ?_))))
    (exact ⟨⟨false, rfl, fun h => absurd h (by decide), fun h => absurd ((Isp.may_iff hx hll (fun y hy => hs0.rng y hy)).1 h) (fun ⟨k1, k2⟩ => by rw [hf] at k2; unfold Isp.mayC at k2; omega)⟩, o0⟩)
  intro hg61
  refine KL.fin 28 rfl (KQ.seq (KC.ret (KQ.ofRet (KQ.fin1 Tryd.results145 rfl ?_))))
  (exact ⟨⟨false, rfl, fun h => absurd h (by decide), fun h => absurd ((Isp.may_iff hx hll (fun y hy => hs0.rng y hy)).1 h) (fun ⟨k1, k2⟩ => by rw [hf] at k2; unfold Isp.mayC at k2; omega)⟩, o0⟩)
theorem may8 {H : Heap} {x : Ins} {vl : Value} (hx : InsR x) (hll : x.l.length < 4294967296) (hs : Sl 1 (EInt .u32) H vl x.l) (hk : Opc.known x.op = true) (hf : Opc.form x.op = 8) : Ct Tryd.prog 145 [insV x vl] H (fun u H' => (∃ b, u = .bool b ∧ (b = true ↔ Isp.May x)) ∧ Old H H') := by
  refine Ct.mk Tryd.func145 rfl Tryd.ntmps145 rfl ?_
  intro W0 hW0
  have o0 : Old H H := Old.refl H
  have hs0 := hs
  unfold insV
  refine KC.sr ?_
  refine KL.m (M.box rfl rfl rfl) rfl ?_
  rintro _ H1 ⟨rfl, n1⟩
  have z1 := n1.2.1
  have o0 := o0.trans n1.1
  have hs := hs.old n1.1
  have b1 := n1.2.2
  have bx := b1
  refine KL.fin 1 rfl (KQ.seq (KC.seq (KC.sr (KL.run 1 rfl (KL.ld rfl (cell_of bx rfl) ?_)))))
  refine KL.c rfl Tryd.call60 (Known_k _) ?_
  rintro _ _ ⟨rfl, rfl⟩
  refine KL.fin 1 rfl (KQ.seq ?_)
  refine KC.condIs false rfl (by rw [hk]; rfl) ?_
  refine KC.skip (KQ.sr (KL.q (R.buildArr (cs := #[(.bool false), (.bool false), (.bool false), (.bool false)]) rfl Tryd.underlying240 zr240 sz4 rfl (by kernel_rfl)) rfl ?_))
  refine KL.m (M.alloc rfl zr240 rfl) rfl ?_
  rintro _ H2 ⟨rfl, n2⟩
  have z2 := n2.2.1
  have o0 := o0.trans n2.1
  have hs := hs.old n2.1
  have bx := (n2.1).blk bx
  have b2 := n2.2.2
  have bq := b2
  refine KL.opS (S.storeAgg rfl sz240 rfl rfl (rfl) (by intro u hu; simp only [List.mem_cons, List.not_mem_nil, or_false] at hu; rcases hu with rfl | rfl | rfl | rfl <;> rfl) bq (by simp)) rfl rfl ?_
  rintro H3 ⟨u3, b3⟩
  have o0 := o0.upd u3 (by omega)
  have zu3 := u3.1
  have bx := ((u3).2 _ (by omega)).trans bx
  have bq := b3
  rw [over_all (by rfl)] at bq
  refine KL.nil (KQ.seq (KC.seq (KC.sr (KL.run 1 rfl (KL.ld rfl (cell_of bx rfl) ?_)))))
  refine KL.c rfl Tryd.call153 (Form_k _) ?_
  rintro _ _ ⟨rfl, rfl⟩
  rw [hf]
  refine KL.nil (KQ.seq (KC.block (KC.sr (KL.e0 rfl (by decide) (KL.fin 1 rfl (KQ.seq (KC.condF rfl (KC.seq (KC.sr (KL.e0 rfl (by decide) (KL.fin 1 rfl ?_)))))))))))
  refine KQ.seq (KC.condF rfl (KC.sr (KL.e0 rfl (by decide) (KL.fin 1 rfl (KQ.seq (KC.condF rfl (KC.region (KL.e0 rfl (by decide) (KL.fin 1 rfl (KQ.seq (KC.condF rfl (KC.seq ?_))))))))))))
  refine KC.region (KL.e0 rfl (by decide) (KL.fin 1 rfl (KQ.seq (KC.condF rfl (KC.sr (KL.e0 rfl (by decide) (KL.fin 1 rfl (KQ.seq (KC.condF rfl (KC.sr (KL.e1 rfl (by decide) ?_)))))))))))
  refine KL.fin 1 rfl (KQ.seq (KC.condT rfl (KC.seq (KC.sr (KL.run 1 rfl (KL.ld rfl (cell_of bx rfl) (KL.run 1 rfl (KL.ld rfl (cell_of bx rfl) (KL.q (R.convW rfl Tryd.underlying2 Tryd.underlying21 rfl) rfl ?_)))))))))
  refine KL.q (R.convI rfl Tryd.underlying21 Tryd.underlying2 rfl (by have := inR_wrap .i32 x.c; dsimp only [InR] at this ⊢; omega)) rfl ?_
  refine KL.fin 1 rfl (KQ.seq ?_)
  refine KC.iq rfl ?_ ?_
  · intro hc49
    have h32 : ¬ (-2147483648 ≤ x.c ∧ x.c ≤ 2147483647) := fun h => absurd (wrap32.2 h) (by omega)
    refine KC.sr (KL.fin 1 rfl (KQ.seq (KC.ret (KQ.retThen (KQ.retBlock (KQ.retThen (KQ.ofRet (KQ.fin1 Tryd.results145 rfl ?_))))))))
    (exact ⟨⟨false, rfl, fun h => absurd h (by decide), fun h => absurd ((Isp.may_iff hx hll (fun y hy => hs0.rng y hy)).1 h) (fun ⟨k1, k2⟩ => by rw [hf] at k2; unfold Isp.mayC at k2; omega)⟩, o0⟩)
  intro hc49
  have h32 : (-2147483648 ≤ x.c ∧ x.c ≤ 2147483647) := wrap32.1 (by omega)
  refine KC.skip (KQ.r ?_)
  refine KL.q (R.indexAddrArr (j := 2) rfl Tryd.underlying240 sz4 rfl rfl rfl (by omega)) rfl ?_
  refine KL.opS (S.store rfl sz4 rfl rfl rfl rfl bq (by simp)) rfl rfl ?_
  rintro H4 ⟨u4, b4⟩
  try dsimp only at u4
  try dsimp only at b4
  have o0 := o0.upd u4 (by omega)
  have zu4 := u4.1
  have bx := ((u4).2 _ (by omega)).trans bx
  have bq := b4
  refine KL.nil (KQ.normBlock (KQ.sr ?_))
  refine KL.q (R.indexAddrArr (j := 0) rfl Tryd.underlying240 sz4 rfl rfl rfl (by omega)) rfl ?_
  refine KL.ld rfl (cell_of bq rfl) (KL.run 2 rfl (KL.ld rfl (cell_of bx rfl) (KL.run 3 rfl ?_)))
  refine KL.cq 61 rfl ?_ ?_
  · intro hg61
    refine KL.q (R.indexAddrArr (j := 1) rfl Tryd.underlying240 sz4 rfl rfl rfl (by omega)) rfl ?_
    refine KL.ld rfl (cell_of bq rfl) (KL.run 2 rfl (KL.ld rfl (cell_of bx rfl) (KL.run 4 rfl ?_)))
    refine KL.cq 70 rfl ?_ ?_
    · intro hg70
      refine KL.q (R.indexAddrArr (j := 2) rfl Tryd.underlying240 sz4 rfl rfl rfl (by omega)) rfl ?_
      refine KL.ld rfl (cell_of bq rfl) (KL.run 7 rfl ?_)
      refine KL.q (R.indexAddrArr (j := 3) rfl Tryd.underlying240 sz4 rfl rfl rfl (by omega)) rfl ?_
      refine KL.ld rfl (cell_of bq rfl) (KL.run 2 rfl (KL.ld rfl (cell_of bx rfl) (KL.q (R.lenS rfl Tryd.underlying24 rfl hs) rfl (KL.fin 4 rfl (KQ.seq (KC.ret (KQ.ofRet (KQ.fin1 Tryd.results145 rfl ?_))))))))
      (exact ⟨⟨_, rfl, fun h => (Isp.may_iff hx hll (fun y hy => hs0.rng y hy)).2 ⟨hk, by rw [hf]; unfold Isp.mayC; have := of_decide_eq_true h; omega⟩, fun h => by have k2 := ((Isp.may_iff hx hll (fun y hy => hs0.rng y hy)).1 h).2; rw [hf] at k2; unfold Isp.mayC at k2; exact decide_eq_true (by omega)⟩, o0⟩)
    intro hg70
    refine KL.fin 19 rfl (KQ.seq (KC.ret (KQ.ofRet (KQ.fin1 Tryd.results145 rfl ?_))))
    (exact ⟨⟨false, rfl, fun h => absurd h (by decide), fun h => absurd ((Isp.may_iff hx hll (fun y hy => hs0.rng y hy)).1 h) (fun ⟨k1, k2⟩ => by rw [hf] at k2; unfold Isp.mayC at k2; omega)⟩, o0⟩)
  intro hg61
  refine KL.fin 28 rfl (KQ.seq (KC.ret (KQ.ofRet (KQ.fin1 Tryd.results145 rfl ?_))))
  (exact ⟨⟨false, rfl, fun h => absurd h (by decide), fun h => absurd ((Isp.may_iff hx hll (fun y hy => hs0.rng y hy)).1 h) (fun ⟨k1, k2⟩ => by rw [hf] at k2; unfold Isp.mayC at k2; omega)⟩, o0⟩)
theorem may9 {H : Heap} {x : Ins} {vl : Value} (hx : InsR x) (hll : x.l.length < 4294967296) (hs : Sl 1 (EInt .u32) H vl x.l) (hk : Opc.known x.op = true) (hf : Opc.form x.op = 9) : Ct Tryd.prog 145 [insV x vl] H (fun u H' => (∃ b, u = .bool b ∧ (b = true ↔ Isp.May x)) ∧ Old H H') := by
  refine Ct.mk Tryd.func145 rfl Tryd.ntmps145 rfl ?_
  intro W0 hW0
  have o0 : Old H H := Old.refl H
  have hs0 := hs
  unfold insV
  refine KC.sr ?_
  refine KL.m (M.box rfl rfl rfl) rfl ?_
  rintro _ H1 ⟨rfl, n1⟩
  have z1 := n1.2.1
  have o0 := o0.trans n1.1
  have hs := hs.old n1.1
  have b1 := n1.2.2
  have bx := b1
  refine KL.fin 1 rfl (KQ.seq (KC.seq (KC.sr (KL.run 1 rfl (KL.ld rfl (cell_of bx rfl) ?_)))))
  refine KL.c rfl Tryd.call60 (Known_k _) ?_
  rintro _ _ ⟨rfl, rfl⟩
  refine KL.fin 1 rfl (KQ.seq ?_)
  refine KC.condIs false rfl (by rw [hk]; rfl) ?_
  refine KC.skip (KQ.sr (KL.q (R.buildArr (cs := #[(.bool false), (.bool false), (.bool false), (.bool false)]) rfl Tryd.underlying240 zr240 sz4 rfl (by kernel_rfl)) rfl ?_))
  refine KL.m (M.alloc rfl zr240 rfl) rfl ?_
  rintro _ H2 ⟨rfl, n2⟩
  have z2 := n2.2.1
  have o0 := o0.trans n2.1
  have hs := hs.old n2.1
  have bx := (n2.1).blk bx
  have b2 := n2.2.2
  have bq := b2
  refine KL.opS (S.storeAgg rfl sz240 rfl rfl (rfl) (by intro u hu; simp only [List.mem_cons, List.not_mem_nil, or_false] at hu; rcases hu with rfl | rfl | rfl | rfl <;> rfl) bq (by simp)) rfl rfl ?_
  rintro H3 ⟨u3, b3⟩
  have o0 := o0.upd u3 (by omega)
  have zu3 := u3.1
  have bx := ((u3).2 _ (by omega)).trans bx
  have bq := b3
  rw [over_all (by rfl)] at bq
  refine KL.nil (KQ.seq (KC.seq (KC.sr (KL.run 1 rfl (KL.ld rfl (cell_of bx rfl) ?_)))))
  refine KL.c rfl Tryd.call153 (Form_k _) ?_
  rintro _ _ ⟨rfl, rfl⟩
  rw [hf]
  refine KL.nil (KQ.seq (KC.block (KC.sr (KL.e0 rfl (by decide) (KL.fin 1 rfl (KQ.seq (KC.condF rfl (KC.seq (KC.sr (KL.e0 rfl (by decide) (KL.fin 1 rfl ?_)))))))))))
  refine KQ.seq (KC.condF rfl (KC.sr (KL.e0 rfl (by decide) (KL.fin 1 rfl (KQ.seq (KC.condF rfl (KC.region (KL.e0 rfl (by decide) (KL.fin 1 rfl (KQ.seq (KC.condF rfl (KC.seq ?_))))))))))))
  refine KC.region (KL.e0 rfl (by decide) (KL.fin 1 rfl (KQ.seq (KC.condF rfl (KC.sr (KL.e0 rfl (by decide) (KL.fin 1 rfl (KQ.seq (KC.condF rfl (KC.sr (KL.e0 rfl (by decide) ?_)))))))))))
  refine KL.fin 1 rfl (KQ.seq (KC.condF rfl (KC.sr (KL.e1 rfl (by decide) (KL.fin 1 rfl (KQ.seq (KC.condT rfl (KC.region ?_))))))))
  refine KL.q (R.indexAddrArr (j := 2) rfl Tryd.underlying240 sz4 rfl rfl rfl (by omega)) rfl ?_
  refine KL.opS (S.store rfl sz4 rfl rfl rfl rfl bq (by simp)) rfl rfl ?_
  rintro H4 ⟨u4, b4⟩
  try dsimp only at u4
  try dsimp only at b4
  have o0 := o0.upd u4 (by omega)
  have zu4 := u4.1
  have bx := ((u4).2 _ (by omega)).trans bx
  have bq := b4
  refine KL.nil (KQ.normBlock (KQ.sr ?_))
  refine KL.q (R.indexAddrArr (j := 0) rfl Tryd.underlying240 sz4 rfl rfl rfl (by omega)) rfl ?_
  refine KL.ld rfl (cell_of bq rfl) (KL.run 2 rfl (KL.ld rfl (cell_of bx rfl) (KL.run 3 rfl ?_)))
  refine KL.cq 61 rfl ?_ ?_
  · intro hg61
    refine KL.q (R.indexAddrArr (j := 1) rfl Tryd.underlying240 sz4 rfl rfl rfl (by omega)) rfl ?_
    refine KL.ld rfl (cell_of bq rfl) (KL.run 2 rfl (KL.ld rfl (cell_of bx rfl) (KL.run 4 rfl ?_)))
    refine KL.cq 70 rfl ?_ ?_
    · intro hg70
      refine KL.q (R.indexAddrArr (j := 2) rfl Tryd.underlying240 sz4 rfl rfl rfl (by omega)) rfl ?_
      refine KL.ld rfl (cell_of bq rfl) (KL.run 7 rfl ?_)
      refine KL.q (R.indexAddrArr (j := 3) rfl Tryd.underlying240 sz4 rfl rfl rfl (by omega)) rfl ?_
      refine KL.ld rfl (cell_of bq rfl) (KL.run 2 rfl (KL.ld rfl (cell_of bx rfl) (KL.q (R.lenS rfl Tryd.underlying24 rfl hs) rfl (KL.fin 4 rfl (KQ.seq (KC.ret (KQ.ofRet (KQ.fin1 Tryd.results145 rfl ?_))))))))
      (exact ⟨⟨_, rfl, fun h => (Isp.may_iff hx hll (fun y hy => hs0.rng y hy)).2 ⟨hk, by rw [hf]; unfold Isp.mayC; have := of_decide_eq_true h; omega⟩, fun h => by have k2 := ((Isp.may_iff hx hll (fun y hy => hs0.rng y hy)).1 h).2; rw [hf] at k2; unfold Isp.mayC at k2; exact decide_eq_true (by omega)⟩, o0⟩)
    intro hg70
    refine KL.fin 19 rfl (KQ.seq (KC.ret (KQ.ofRet (KQ.fin1 Tryd.results145 rfl ?_))))
    (exact ⟨⟨false, rfl, fun h => absurd h (by decide), fun h => absurd ((Isp.may_iff hx hll (fun y hy => hs0.rng y hy)).1 h) (fun ⟨k1, k2⟩ => by rw [hf] at k2; unfold Isp.mayC at k2; omega)⟩, o0⟩)
  intro hg61
  refine KL.fin 28 rfl (KQ.seq (KC.ret (KQ.ofRet (KQ.fin1 Tryd.results145 rfl ?_))))
  (exact ⟨⟨false, rfl, fun h => absurd h (by decide), fun h => absurd ((Isp.may_iff hx hll (fun y hy => hs0.rng y hy)).1 h) (fun ⟨k1, k2⟩ => by rw [hf] at k2; unfold Isp.mayC at k2; omega)⟩, o0⟩)
theorem may_any {H : Heap} {x : Ins} {vl : Value} (hx : InsR x) (hll : x.l.length < 4294967296) (hs : Sl 1 (EInt .u32) H vl x.l) : Ct Tryd.prog 145 [insV x vl] H (fun u H' => (∃ b, u = .bool b ∧ (b = true ↔ Isp.May x)) ∧ Old H H') := by
  cases hk : Opc.known x.op with
  | false => exact may_no hx hll hs hk
  | true =>
    have hfr := Isp.form_range hx.1
    have hc : Opc.form x.op = 0 ∨ Opc.form x.op = 1 ∨ Opc.form x.op = 2 ∨ Opc.form x.op = 3 ∨ Opc.form x.op = 4 ∨ Opc.form x.op = 5 ∨ Opc.form x.op = 6 ∨ Opc.form x.op = 7 ∨ Opc.form x.op = 8 ∨ Opc.form x.op = 9 := by omega
    rcases hc with h | h | h | h | h | h | h | h | h | h
    · exact may0 hx hll hs hk h
    · exact may1 hx hll hs hk h
    · exact may2 hx hll hs hk h
    · exact may3 hx hll hs hk h
    · exact may4 hx hll hs hk h
    · exact may5 hx hll hs hk h
    · exact may6 hx hll hs hk h
    · exact may7 hx hll hs hk h
    · exact may8 hx hll hs hk h
    exact may9 hx hll hs hk h
end Go.Proofs.YtldmfchamcpmmaaDoor
namespace Go.Proofs.YtldmfchamcpmmaaDoor
open Go Go.RowKit
set_option linter.unusedVariables false
set_option linter.unusedSimpArgs false
set_option linter.unnecessarySimpa false
theorem AppU_k {H : Heap} (z : Int) (h : InR .u32 z) : Ct Tryd.prog 39 [.slice none 0 0, .int .u64 z] H (fun u H' => Own 1 (EInt .u8) 5 #[] H.size H' u (Isp.apN false z) ∧ Old H H') :=
  (AppendU_k (.slice none 0 0) [] z (Sl.nil _ _ _) (by simp) (by dsimp only [InR] at h; omega) (by dsimp only [InR] at h; omega)).mono fun v H' h => by rw [List.nil_append] at h; exact h
theorem AppS_k {H : Heap} (z : Int) (h : InR .i64 z) : Ct Tryd.prog 155 [.slice none 0 0, .int .i64 z] H (fun u H' => Own 1 (EInt .u8) 5 #[] H.size H' u (Isp.apN true z) ∧ Old H H') :=
  Ct.fresh (l := [] ++ Leb.ap true 10 z) rfl fun w hw => AppendS_any (.slice none 0 0) [] z w (isBs (l := []) (Sl.nil _ _ _)) (by simp) (by dsimp only [InR] at h; omega) (by dsimp only [InR] at h; omega)
theorem put1_any {H : Heap} {g B : Nat} {v : Value} {l : List Int} (bb : H[g]? = some (.cells [v].toArray 36 (0, 0))) (wo : Own 1 (EInt .u8) 5 #[] B H v l) (hne : v = .slice none 0 0 ∨ vblock v ≠ g) (hB : B ≤ H.size) (hll : l.length ≤ 100000000000) (a : Int) (ha : InR .u32 a) : Ct Tryd.prog 154 [.int .u32 a, .pointer (some ⟨g, 0, none⟩)] H (fun u H' => u = .tuple #[] ∧ ∃ v', H'[g]? = some (.cells [v'].toArray 36 (0, 0)) ∧ Own 1 (EInt .u8) 5 #[] B H' v' (l ++ Isp.apN false a) ∧ (v' = .slice none 0 0 ∨ vblock v' ≠ g) ∧ Fr g v H H' ∧ Nx H v v') := by
  refine Ct.mk Tryd.func154 rfl Tryd.ntmps154 rfl ?_
  intro W0 hW0
  have o0 : OldB 0 H H := OldB.refl _ H
  have wo0 := wo
  have hgl := blk_lt bb
  have hlw := wo.lt
  refine KC.order [0, 1, 2, 3, 4, 5] (clOf [(3, 2), (4, 2), (5, 2)]) (fun j Hc => j = 0 → Hc[g]? = some (.cells [v].toArray 36 (0, 0))) (fun _ _ => False) (by kernel_rfl) (by kernel_rfl) (by kernel_rfl) rfl (fun _ _ => bb) (fun _ _ h => h.elim) ?_
  refine KO.op rfl rfl (fun Hg hg => R.load rfl Tryd.underlying36 rfl rfl (cell_of (hg rfl) rfl)) rfl rfl rfl ?_
  refine KO.op rfl rfl (fun Hg hg => R.move rfl rfl) rfl rfl rfl ?_
  refine KO.op rfl rfl (fun Hg hg => R.convI rfl Tryd.underlying28 Tryd.underlying101 rfl (by dsimp only [InR] at ha ⊢; omega)) rfl rfl rfl ?_
  refine KO.call rfl rfl rfl rfl rfl rfl Tryd.call39 rfl rfl rfl (AppU_k a ha) (fun _ _ hR j _ _ _ => hR.2.blk bb) ?_
  rintro va H1 ⟨wa, ox⟩
  have zc_H1 := (ox).1
  have o0 := o0.trans ((ox).b (by omega))
  have bb := (ox).blk bb
  have wo := wo.old ox
  have hap := wa.sl (emptyOld _) (by omega)
  have hal := apL ha
  have oH : Old H H1 := ox
  have lt2 := wo.lt
  refine KO.opM rfl rfl (M.appendN rfl Tryd.underlying36 inf5 rfl (by decide) rfl rfl wo hap (fun _ _ h _ => h) (by omega) (by omega) (by unfold maxLen; omega)) rfl rfl rfl (fun _ _ hR j _ hj2 hj => by subst hj; exact absurd (by decide +kernel) hj2) ?_
  rintro vn H2 ⟨w2, g2, nx2⟩
  try dsimp only at g2 nx2
  have ob2 := g2.oldB wo (by omega)
  have o0 := o0.trans (ob2.mono (by omega))
  have z2 := ob2.1
  have bb := (g2.2 _ (blk_lt bb) (by exact hne.imp id (fun h e => h e.symm))).trans bb
  have wo := w2
  have nxA : Nx H v vn := nx_old oH wo0 nx2
  have hne2 : vn = .slice none 0 0 ∨ vblock vn ≠ g := by
    rcases nxA with e | ⟨e1, e2⟩ | e
    · exact .inl e
    · rw [e2]; exact .inr (hne.resolve_left e1)
    exact .inr (by omega)
  have frA : Fr g v H H2 := ((Fr.ofOld oH).trans (Nx.refl _ _) ((Fr.refl g v _).grown (Nx.refl _ _) g2))
  refine KO.opS rfl rfl (S.store rfl sz36 rfl rfl wo.cells1 wo.one bb (by simp)) rfl rfl (fun _ h j hj1 hj2 hj => by subst hj; exact absurd (by decide +kernel) hj2) ?_
  rintro H3 ⟨u3, b3⟩
  have o0 := o0.trans (OldB.upd u3 (by omega))
  have zu3 := u3.1
  have wo := wo.upd u3 hne2
  have bb := b3
  have fr := frA.upd u3
  refine KO.nil ?_
  refine KQ.fin0 Tryd.results154 ?_
  exact ⟨rfl, vn, bb, wo, hne2, fr, nxA⟩
end Go.Proofs.YtldmfchamcpmmaaDoor
namespace Go.Proofs.YtldmfchamcpmmaaDoor
open Go Go.RowKit
set_option linter.unusedVariables false
set_option linter.unusedSimpArgs false
set_option linter.unnecessarySimpa false
/-- bytes that are being written: row v, in a box g that holds c; the instruction, in a box gx -/
structure PT (Hb H : Heap) (g gx B : Nat) (vb c v : Value) (x : Ins) (vl : Value) (l : List Int) : Prop where
  bb : H[g]? = some (.cells [c].toArray 36 (0, 0))
  bx : H[gx]? = some (.cells [.int .u8 x.op, .int .u32 x.a, .int .u32 x.b, .int .i64 x.c, vl].toArray 127 (0, 0))
  wo : Own 1 (EInt .u8) 5 #[] B H v l
  hne : v = .slice none 0 0 ∨ vblock v ≠ g
  hnx : v = .slice none 0 0 ∨ vblock v ≠ gx
  nx : Nx Hb vb v
  fr : Fr g vb Hb H
  hs : ∀ H2, OldB B Hb H2 → Sl 1 (EInt .u32) H2 vl x.l
  hB : B ≤ Hb.size
  hg : B ≤ g ∧ B ≤ gx ∧ gx < Hb.size ∧ g < Hb.size ∧ g ≠ gx
  hv : vb = .slice none 0 0 ∨ B ≤ vblock vb
section
variable {Hb H H' : Heap} {g gx B : Nat} {vb c v v' : Value} {x : Ins} {vl : Value} {l l' : List Int}
theorem PT.sz (h : PT Hb H g gx B vb c v x vl l) : B ≤ H.size ∧ g < H.size ∧ gx < H.size ∧ (v = .slice none 0 0 ∨ vblock v < H.size) := ⟨by have := h.fr.1; have := h.hB; omega, blk_lt h.bb, blk_lt h.bx, h.wo.lt.imp id (fun k => k.2)⟩
theorem PT.sl (h : PT Hb H g gx B vb c v x vl l) : Sl 1 (EInt .u32) H vl x.l := h.hs _ ⟨h.fr.1, fun k hk => h.fr.2 k (by have := h.hB; omega) (by have := h.hg.1; omega) (h.hv.imp id (fun e => by omega))⟩
theorem PT.old (h : PT Hb H g gx B vb c v x vl l) (o : Old H H') : PT Hb H' g gx B vb c v x vl l := ⟨o.blk h.bb, o.blk h.bx, h.wo.old o, h.hne, h.hnx, h.nx, h.fr.old o, h.hs, h.hB, h.hg, h.hv⟩
theorem PT.app (h : PT Hb H g gx B vb c v x vl l) (w : Own 1 (EInt .u8) 5 #[] B H' v' l') (gr : Grown v H H') (nx : Nx H v v') : PT Hb H' g gx B vb c v' x vl l' := by
  have s := h.sz
  have f := h.fr.1
  have key : ∀ y, y < H.size → (v = .slice none 0 0 ∨ vblock v ≠ y) → (v' = .slice none 0 0 ∨ vblock v' ≠ y) := fun y hy hn => by
    rcases nx with e | ⟨e1, e2⟩ | e
    · exact .inl e
    · rw [e2]; exact .inr (hn.resolve_left e1)
    exact .inr (by omega)
  exact ⟨(gr.2 _ s.2.1 (h.hne.imp id (fun e k => e k.symm))).trans h.bb, (gr.2 _ s.2.2.1 (h.hnx.imp id (fun e k => e k.symm))).trans h.bx, w, key _ s.2.1 h.hne, key _ s.2.2.1 h.hnx, h.nx.trans f nx, h.fr.grown h.nx gr, h.hs, h.hB, h.hg, h.hv⟩
theorem PT.sto (h : PT Hb H g gx B vb c v x vl l) (u : Upd g H H') (b : H'[g]? = some (.cells [v].toArray 36 (0, 0))) : PT Hb H' g gx B vb v v x vl l :=
  ⟨b, (u.2 _ (fun e => h.hg.2.2.2.2 e.symm)).trans h.bx, h.wo.upd u (h.hne.imp id (fun e => e)), h.hne, h.hnx, h.nx, h.fr.upd u, h.hs, h.hB, h.hg, h.hv⟩
theorem PT.num (h : PT Hb H g gx B vb v v x vl l) (b : H'[g]? = some (.cells [v'].toArray 36 (0, 0))) (w : Own 1 (EInt .u8) 5 #[] B H' v' l') (hne : v' = .slice none 0 0 ∨ vblock v' ≠ g) (f : Fr g v H H') (nx : Nx H v v') : PT Hb H' g gx B vb v' v' x vl l' := by
  have s := h.sz
  have k : v' = .slice none 0 0 ∨ vblock v' ≠ gx := by
    rcases nx with e | ⟨e1, e2⟩ | e
    · exact .inl e
    · rw [e2]; exact .inr (h.hnx.resolve_left e1)
    exact .inr (by omega)
  exact ⟨b, (f.2 _ s.2.2.1 (fun e => h.hg.2.2.2.2 e.symm) (h.hnx.imp id (fun e k => e k.symm))).trans h.bx, w, hne, k, h.nx.trans h.fr.1 nx, h.fr.trans h.nx f, h.hs, h.hB, h.hg, h.hv⟩
theorem PT.ends (h : PT Hb H g gx B vb v v x vl l) {H0 : Heap} {l0 : List Int} (o : Old H0 Hb) (hg : H0.size ≤ g) (w0 : Own 1 (EInt .u8) 5 #[] B H0 vb l0) : Own 1 (EInt .u8) 5 #[] B H v l ∧ Grown vb H0 H ∧ Nx H0 vb v :=
  ⟨h.wo, ⟨Nat.le_trans o.1 h.fr.1, fun k hk hn => (h.fr.2 k (by have := o.1; omega) (by omega) hn).trans (o.2 k hk)⟩, nx_old o w0 h.nx⟩
end
theorem put0 {H : Heap} {B : Nat} {vb : Value} {lb : List Int} {x : Ins} {vl : Value} (w0 : Own 1 (EInt .u8) 5 #[] B H vb lb) (hB : B ≤ H.size) (hx : InsR x) (hll : x.l.length ≤ 100000000) (hlb : lb.length ≤ 1000000000) (hs0 : ∀ H2, OldB B H H2 → Sl 1 (EInt .u32) H2 vl x.l) (hf : Opc.form x.op = 0) : Ct Tryd.prog 146 [vb, insV x vl] H (fun u H' => Own 1 (EInt .u8) 5 #[] B H' u (lb ++ Isp.bytes x) ∧ Grown vb H H' ∧ Nx H vb u) := by
  refine Ct.mk Tryd.func146 rfl Tryd.ntmps146 rfl ?_
  intro W0 hW0
  have o0 : OldB 0 H H := OldB.refl _ H
  have hlx1 := apL hx.2.1
  have hlx2 := apL hx.2.2.1
  have hv0 := w0.lt.imp (fun h => h) (fun h => h.2)
  have oZ : Old H H := Old.refl _
  unfold insV
  refine KC.sr ?_
  refine KL.m (M.box (cs := [vb]) rfl rfl w0.cells1) rfl ?_
  rintro _ H1 ⟨rfl, n1⟩
  have z1 := n1.2.1
  have o0 := o0.trans ((n1.1).b (by omega))
  have oZ := oZ.trans n1.1
  have b1 := n1.2.2
  have bb := b1
  refine KL.m (M.box rfl rfl rfl) rfl ?_
  rintro _ H2 ⟨rfl, n2⟩
  have z2 := n2.2.1
  have o0 := o0.trans ((n2.1).b (by omega))
  have oZ := oZ.trans n2.1
  have bb := (n2.1).blk bb
  have b2 := n2.2.2
  have bx := b2
  have pt : PT H2 H2 (Array.size H) (Array.size H1) B vb vb vb x vl lb := ⟨bb, bx, w0.old oZ, hv0.imp id (fun e => by omega), hv0.imp id (fun e => by omega), Nx.refl _ _, Fr.refl _ _ _, fun H2 k => hs0 H2 ((oZ.b hB).trans k), by omega, ⟨by omega, by omega, by omega, by omega, by omega⟩, w0.lt.imp id (fun e => e.1)⟩
  have zpt := pt.sz
  have oHb : Old H H2 := oZ
  refine KL.fin 1 rfl (KQ.sr ?_)
  refine KL.ld rfl (by exact cell_of pt.bb rfl) ?_
  refine KL.run 1 rfl ?_
  refine KL.ld rfl (by exact cell_of pt.bx rfl) ?_
  refine KL.m (M.lit rfl Tryd.underlying36 zs5 (by decide) rfl rfl rfl) rfl ?_
  rintro _ H3 ⟨rfl, n3⟩
  have z3 := n3.2.1
  have o0 := o0.trans ((n3.1).b (by omega))
  have pt := pt.old n3.1
  have b3 := n3.2.2
  have ptA := pt
  have hap : Sl 1 (EInt .u8) H3 _ [x.op] := Sl.lits (l := [x.op]) n3 rfl (by simp) (by intro y hy; simp only [List.mem_cons, List.not_mem_nil, or_false] at hy; subst hy; exact hx.1)
  have wo := ptA.wo
  have zpA := ptA.sz
  have lt4 := wo.lt
  refine KL.m (M.appendN rfl Tryd.underlying36 inf5 rfl (by decide) rfl rfl wo hap (fun _ _ h _ => h) (by omega) (by simp only [List.length_append, List.length_cons, List.length_nil]; omega) (by unfold maxLen; simp only [List.length_append, List.length_cons, List.length_nil]; omega)) rfl ?_
  rintro v1 H4 ⟨w4, g4, nx4⟩
  try dsimp only at g4 nx4
  have ob4 := g4.oldB wo (by omega)
  have o0 := o0.trans (ob4.mono (by omega))
  have z4 := ob4.1
  have wo := w4
  have ptB := ptA.app w4 g4 nx4
  have bb := ptB.bb
  have zpB := ptB.sz
  refine KL.opS (S.store rfl sz36 rfl rfl ptB.wo.cells1 ptB.wo.one bb (by simp)) rfl rfl ?_
  rintro H5 ⟨u5, b5⟩
  have o0 := o0.trans (OldB.upd u5 (by omega))
  have zu5 := u5.1
  have bb := b5
  have pt := ptB.sto u5 bb
  have zpt := pt.sz
  refine KL.nil (KQ.sr (KL.fin 2 rfl (KQ.seq (KC.seq (KC.sr (KL.run 1 rfl ?_))))))
  refine KL.ld rfl (by exact cell_of pt.bx rfl) ?_
  refine KL.c rfl Tryd.call153 (Form_k _) ?_
  rintro _ _ ⟨rfl, rfl⟩
  rw [hf]
  refine KL.nil (KQ.seq (KC.block (KC.sr (KL.e0 rfl (by decide) (KL.fin 1 rfl (KQ.seq (KC.condF rfl (KC.seq (KC.sr (KL.e0 rfl (by decide) (KL.fin 1 rfl ?_)))))))))))
  refine KQ.seq (KC.condF rfl (KC.region (KL.e0 rfl (by decide) (KL.fin 1 rfl (KQ.seq (KC.condF rfl (KC.sr (KL.e0 rfl (by decide) (KL.fin 1 rfl (KQ.seq (KC.condF rfl (KC.seq ?_))))))))))))
  refine KC.region (KL.e0 rfl (by decide) (KL.fin 1 rfl (KQ.seq (KC.condF rfl (KC.sr (KL.e0 rfl (by decide) (KL.fin 1 rfl (KQ.seq (KC.condF rfl (KC.sr (KL.e0 rfl (by decide) ?_)))))))))))
  refine KL.fin 1 rfl (KQ.seq (KC.condF rfl (KC.seq (KC.sr (KL.e0 rfl (by decide) (KL.fin 1 rfl (KQ.seq (KC.condF rfl (KC.region (KL.e0 rfl (by decide) (KL.fin 1 rfl (KQ.seq ?_))))))))))))
  refine KC.condF rfl (KC.skip (KQ.normBlock (KQ.sr ?_)))
  refine KL.ld rfl (by exact cell_of pt.bb rfl) ?_
  refine KL.fin 1 rfl (KQ.seq (KC.ret (KQ.ofRet (KQ.fin1 Tryd.results146 rfl ?_))))
  have e : Isp.bytes x = x.op :: [] := by unfold Isp.bytes Isp.bodyE Isp.rest Isp.labsE; rw [hf]; simp
  rw [e]
  obtain ⟨r1, r2, r3⟩ := pt.ends oHb (by omega) w0
  exact ⟨by simpa [List.append_assoc] using r1, r2, r3⟩
theorem put1 {H : Heap} {B : Nat} {vb : Value} {lb : List Int} {x : Ins} {vl : Value} (w0 : Own 1 (EInt .u8) 5 #[] B H vb lb) (hB : B ≤ H.size) (hx : InsR x) (hll : x.l.length ≤ 100000000) (hlb : lb.length ≤ 1000000000) (hs0 : ∀ H2, OldB B H H2 → Sl 1 (EInt .u32) H2 vl x.l) (hf : Opc.form x.op = 1) (ha : x.a = 64 ∨ x.a = 127 ∨ x.a = 126) : Ct Tryd.prog 146 [vb, insV x vl] H (fun u H' => Own 1 (EInt .u8) 5 #[] B H' u (lb ++ Isp.bytes x) ∧ Grown vb H H' ∧ Nx H vb u) := by
  refine Ct.mk Tryd.func146 rfl Tryd.ntmps146 rfl ?_
  intro W0 hW0
  have o0 : OldB 0 H H := OldB.refl _ H
  have hlx1 := apL hx.2.1
  have hlx2 := apL hx.2.2.1
  have hv0 := w0.lt.imp (fun h => h) (fun h => h.2)
  have oZ : Old H H := Old.refl _
  unfold insV
  refine KC.sr ?_
  refine KL.m (M.box (cs := [vb]) rfl rfl w0.cells1) rfl ?_
  rintro _ H1 ⟨rfl, n1⟩
  have z1 := n1.2.1
  have o0 := o0.trans ((n1.1).b (by omega))
  have oZ := oZ.trans n1.1
  have b1 := n1.2.2
  have bb := b1
  refine KL.m (M.box rfl rfl rfl) rfl ?_
  rintro _ H2 ⟨rfl, n2⟩
  have z2 := n2.2.1
  have o0 := o0.trans ((n2.1).b (by omega))
  have oZ := oZ.trans n2.1
  have bb := (n2.1).blk bb
  have b2 := n2.2.2
  have bx := b2
  have pt : PT H2 H2 (Array.size H) (Array.size H1) B vb vb vb x vl lb := ⟨bb, bx, w0.old oZ, hv0.imp id (fun e => by omega), hv0.imp id (fun e => by omega), Nx.refl _ _, Fr.refl _ _ _, fun H2 k => hs0 H2 ((oZ.b hB).trans k), by omega, ⟨by omega, by omega, by omega, by omega, by omega⟩, w0.lt.imp id (fun e => e.1)⟩
  have zpt := pt.sz
  have oHb : Old H H2 := oZ
  refine KL.fin 1 rfl (KQ.sr ?_)
  refine KL.ld rfl (by exact cell_of pt.bb rfl) ?_
  refine KL.run 1 rfl ?_
  refine KL.ld rfl (by exact cell_of pt.bx rfl) ?_
  refine KL.m (M.lit rfl Tryd.underlying36 zs5 (by decide) rfl rfl rfl) rfl ?_
  rintro _ H3 ⟨rfl, n3⟩
  have z3 := n3.2.1
  have o0 := o0.trans ((n3.1).b (by omega))
  have pt := pt.old n3.1
  have b3 := n3.2.2
  have ptA := pt
  have hap : Sl 1 (EInt .u8) H3 _ [x.op] := Sl.lits (l := [x.op]) n3 rfl (by simp) (by intro y hy; simp only [List.mem_cons, List.not_mem_nil, or_false] at hy; subst hy; exact hx.1)
  have wo := ptA.wo
  have zpA := ptA.sz
  have lt4 := wo.lt
  refine KL.m (M.appendN rfl Tryd.underlying36 inf5 rfl (by decide) rfl rfl wo hap (fun _ _ h _ => h) (by omega) (by simp only [List.length_append, List.length_cons, List.length_nil]; omega) (by unfold maxLen; simp only [List.length_append, List.length_cons, List.length_nil]; omega)) rfl ?_
  rintro v1 H4 ⟨w4, g4, nx4⟩
  try dsimp only at g4 nx4
  have ob4 := g4.oldB wo (by omega)
  have o0 := o0.trans (ob4.mono (by omega))
  have z4 := ob4.1
  have wo := w4
  have ptB := ptA.app w4 g4 nx4
  have bb := ptB.bb
  have zpB := ptB.sz
  refine KL.opS (S.store rfl sz36 rfl rfl ptB.wo.cells1 ptB.wo.one bb (by simp)) rfl rfl ?_
  rintro H5 ⟨u5, b5⟩
  have o0 := o0.trans (OldB.upd u5 (by omega))
  have zu5 := u5.1
  have bb := b5
  have pt := ptB.sto u5 bb
  have zpt := pt.sz
  refine KL.nil (KQ.sr (KL.fin 2 rfl (KQ.seq (KC.seq (KC.sr (KL.run 1 rfl ?_))))))
  refine KL.ld rfl (by exact cell_of pt.bx rfl) ?_
  refine KL.c rfl Tryd.call153 (Form_k _) ?_
  rintro _ _ ⟨rfl, rfl⟩
  rw [hf]
  refine KL.nil (KQ.seq (KC.block (KC.sr (KL.e1 rfl (by decide) (KL.fin 1 rfl (KQ.seq (KC.condT rfl (KC.region ?_))))))))
  refine KL.ld rfl (by exact cell_of pt.bb rfl) ?_
  refine KL.run 1 rfl ?_
  refine KL.ld rfl (by exact cell_of pt.bx rfl) ?_
  refine KL.q (R.convI rfl Tryd.underlying28 Tryd.underlying5 rfl (by dsimp only [InR]; omega)) rfl ?_
  refine KL.m (M.lit rfl Tryd.underlying36 zs5 (by decide) rfl rfl rfl) rfl ?_
  rintro _ H6 ⟨rfl, n6⟩
  have z6 := n6.2.1
  have o0 := o0.trans ((n6.1).b (by omega))
  have pt := pt.old n6.1
  have b6 := n6.2.2
  have ptA := pt
  have hap : Sl 1 (EInt .u8) H6 _ [x.a] := Sl.lits (l := [x.a]) n6 rfl (by simp) (by intro y hy; simp only [List.mem_cons, List.not_mem_nil, or_false] at hy; subst hy; dsimp only [InR]; omega)
  have wo := ptA.wo
  have zpA := ptA.sz
  have lt7 := wo.lt
  refine KL.m (M.appendN rfl Tryd.underlying36 inf5 rfl (by decide) rfl rfl wo hap (fun _ _ h _ => h) (by omega) (by simp only [List.length_append, List.length_cons, List.length_nil]; omega) (by unfold maxLen; simp only [List.length_append, List.length_cons, List.length_nil]; omega)) rfl ?_
  rintro v2 H7 ⟨w7, g7, nx7⟩
  try dsimp only at g7 nx7
  have ob7 := g7.oldB wo (by omega)
  have o0 := o0.trans (ob7.mono (by omega))
  have z7 := ob7.1
  have wo := w7
  have ptB := ptA.app w7 g7 nx7
  have bb := ptB.bb
  have zpB := ptB.sz
  refine KL.opS (S.store rfl sz36 rfl rfl ptB.wo.cells1 ptB.wo.one bb (by simp)) rfl rfl ?_
  rintro H8 ⟨u8, b8⟩
  have o0 := o0.trans (OldB.upd u8 (by omega))
  have zu8 := u8.1
  have bb := b8
  have pt := ptB.sto u8 bb
  have zpt := pt.sz
  refine KL.nil (KQ.normBlock (KQ.sr ?_))
  refine KL.ld rfl (by exact cell_of pt.bb rfl) ?_
  refine KL.fin 1 rfl (KQ.seq (KC.ret (KQ.ofRet (KQ.fin1 Tryd.results146 rfl ?_))))
  have e : Isp.bytes x = x.op :: [x.a] := by unfold Isp.bytes Isp.bodyE Isp.rest Isp.labsE; rw [hf]; simp
  rw [e]
  obtain ⟨r1, r2, r3⟩ := pt.ends oHb (by omega) w0
  exact ⟨by simpa [List.append_assoc] using r1, r2, r3⟩
theorem put2 {H : Heap} {B : Nat} {vb : Value} {lb : List Int} {x : Ins} {vl : Value} (w0 : Own 1 (EInt .u8) 5 #[] B H vb lb) (hB : B ≤ H.size) (hx : InsR x) (hll : x.l.length ≤ 100000000) (hlb : lb.length ≤ 1000000000) (hs0 : ∀ H2, OldB B H H2 → Sl 1 (EInt .u32) H2 vl x.l) (hf : Opc.form x.op = 2) : Ct Tryd.prog 146 [vb, insV x vl] H (fun u H' => Own 1 (EInt .u8) 5 #[] B H' u (lb ++ Isp.bytes x) ∧ Grown vb H H' ∧ Nx H vb u) := by
  refine Ct.mk Tryd.func146 rfl Tryd.ntmps146 rfl ?_
  intro W0 hW0
  have o0 : OldB 0 H H := OldB.refl _ H
  have hlx1 := apL hx.2.1
  have hlx2 := apL hx.2.2.1
  have hv0 := w0.lt.imp (fun h => h) (fun h => h.2)
  have oZ : Old H H := Old.refl _
  unfold insV
  refine KC.sr ?_
  refine KL.m (M.box (cs := [vb]) rfl rfl w0.cells1) rfl ?_
  rintro _ H1 ⟨rfl, n1⟩
  have z1 := n1.2.1
  have o0 := o0.trans ((n1.1).b (by omega))
  have oZ := oZ.trans n1.1
  have b1 := n1.2.2
  have bb := b1
  refine KL.m (M.box rfl rfl rfl) rfl ?_
  rintro _ H2 ⟨rfl, n2⟩
  have z2 := n2.2.1
  have o0 := o0.trans ((n2.1).b (by omega))
  have oZ := oZ.trans n2.1
  have bb := (n2.1).blk bb
  have b2 := n2.2.2
  have bx := b2
  have pt : PT H2 H2 (Array.size H) (Array.size H1) B vb vb vb x vl lb := ⟨bb, bx, w0.old oZ, hv0.imp id (fun e => by omega), hv0.imp id (fun e => by omega), Nx.refl _ _, Fr.refl _ _ _, fun H2 k => hs0 H2 ((oZ.b hB).trans k), by omega, ⟨by omega, by omega, by omega, by omega, by omega⟩, w0.lt.imp id (fun e => e.1)⟩
  have zpt := pt.sz
  have oHb : Old H H2 := oZ
  refine KL.fin 1 rfl (KQ.sr ?_)
  refine KL.ld rfl (by exact cell_of pt.bb rfl) ?_
  refine KL.run 1 rfl ?_
  refine KL.ld rfl (by exact cell_of pt.bx rfl) ?_
  refine KL.m (M.lit rfl Tryd.underlying36 zs5 (by decide) rfl rfl rfl) rfl ?_
  rintro _ H3 ⟨rfl, n3⟩
  have z3 := n3.2.1
  have o0 := o0.trans ((n3.1).b (by omega))
  have pt := pt.old n3.1
  have b3 := n3.2.2
  have ptA := pt
  have hap : Sl 1 (EInt .u8) H3 _ [x.op] := Sl.lits (l := [x.op]) n3 rfl (by simp) (by intro y hy; simp only [List.mem_cons, List.not_mem_nil, or_false] at hy; subst hy; exact hx.1)
  have wo := ptA.wo
  have zpA := ptA.sz
  have lt4 := wo.lt
  refine KL.m (M.appendN rfl Tryd.underlying36 inf5 rfl (by decide) rfl rfl wo hap (fun _ _ h _ => h) (by omega) (by simp only [List.length_append, List.length_cons, List.length_nil]; omega) (by unfold maxLen; simp only [List.length_append, List.length_cons, List.length_nil]; omega)) rfl ?_
  rintro v1 H4 ⟨w4, g4, nx4⟩
  try dsimp only at g4 nx4
  have ob4 := g4.oldB wo (by omega)
  have o0 := o0.trans (ob4.mono (by omega))
  have z4 := ob4.1
  have wo := w4
  have ptB := ptA.app w4 g4 nx4
  have bb := ptB.bb
  have zpB := ptB.sz
  refine KL.opS (S.store rfl sz36 rfl rfl ptB.wo.cells1 ptB.wo.one bb (by simp)) rfl rfl ?_
  rintro H5 ⟨u5, b5⟩
  have o0 := o0.trans (OldB.upd u5 (by omega))
  have zu5 := u5.1
  have bb := b5
  have pt := ptB.sto u5 bb
  have zpt := pt.sz
  refine KL.nil (KQ.sr (KL.fin 2 rfl (KQ.seq (KC.seq (KC.sr (KL.run 1 rfl ?_))))))
  refine KL.ld rfl (by exact cell_of pt.bx rfl) ?_
  refine KL.c rfl Tryd.call153 (Form_k _) ?_
  rintro _ _ ⟨rfl, rfl⟩
  rw [hf]
  refine KL.nil (KQ.seq (KC.block (KC.sr (KL.e0 rfl (by decide) (KL.fin 1 rfl (KQ.seq (KC.condF rfl (KC.seq (KC.sr (KL.e1 rfl (by decide) (KL.fin 1 rfl ?_)))))))))))
  refine KQ.seq (KC.condT rfl (KC.skip (KQ.seq (KC.condT rfl (KC.region (KL.run 2 rfl ?_))))))
  refine KL.ld rfl (by exact cell_of pt.bx rfl) ?_
  have hbz := pt.sz
  have hlz : True := by trivial
  refine KL.c rfl Tryd.call154 (put1_any pt.bb pt.wo pt.hne hbz.1 (by simp only [List.length_append, List.length_cons, List.length_nil]; omega) _ (hx.2.1)) ?_
  rintro _ H6 ⟨rfl, v3, bq, wq, hq, fq, nq⟩
  have pt := pt.num bq wq hq fq nq
  have zpt := pt.sz
  have zfq := fq.1
  have o0 : OldB 0 H H6 := ⟨by omega, fun k hk => by omega⟩
  refine KL.nil (KQ.normBlock (KQ.sr ?_))
  refine KL.ld rfl (by exact cell_of pt.bb rfl) ?_
  refine KL.fin 1 rfl (KQ.seq (KC.ret (KQ.ofRet (KQ.fin1 Tryd.results146 rfl ?_))))
  have e : Isp.bytes x = x.op :: Isp.apN false x.a := by unfold Isp.bytes Isp.bodyE Isp.rest Isp.labsE; rw [hf]; simp
  rw [e]
  obtain ⟨r1, r2, r3⟩ := pt.ends oHb (by omega) w0
  exact ⟨by simpa [List.append_assoc] using r1, r2, r3⟩
theorem put3 {H : Heap} {B : Nat} {vb : Value} {lb : List Int} {x : Ins} {vl : Value} (w0 : Own 1 (EInt .u8) 5 #[] B H vb lb) (hB : B ≤ H.size) (hx : InsR x) (hll : x.l.length ≤ 100000000) (hlb : lb.length ≤ 1000000000) (hs0 : ∀ H2, OldB B H H2 → Sl 1 (EInt .u32) H2 vl x.l) (hf : Opc.form x.op = 3) : Ct Tryd.prog 146 [vb, insV x vl] H (fun u H' => Own 1 (EInt .u8) 5 #[] B H' u (lb ++ Isp.bytes x) ∧ Grown vb H H' ∧ Nx H vb u) := by
  refine Ct.mk Tryd.func146 rfl Tryd.ntmps146 rfl ?_
  intro W0 hW0
  have o0 : OldB 0 H H := OldB.refl _ H
  have hlx1 := apL hx.2.1
  have hlx2 := apL hx.2.2.1
  have hv0 := w0.lt.imp (fun h => h) (fun h => h.2)
  have oZ : Old H H := Old.refl _
  unfold insV
  refine KC.sr ?_
  refine KL.m (M.box (cs := [vb]) rfl rfl w0.cells1) rfl ?_
  rintro _ H1 ⟨rfl, n1⟩
  have z1 := n1.2.1
  have o0 := o0.trans ((n1.1).b (by omega))
  have oZ := oZ.trans n1.1
  have b1 := n1.2.2
  have bb := b1
  refine KL.m (M.box rfl rfl rfl) rfl ?_
  rintro _ H2 ⟨rfl, n2⟩
  have z2 := n2.2.1
  have o0 := o0.trans ((n2.1).b (by omega))
  have oZ := oZ.trans n2.1
  have bb := (n2.1).blk bb
  have b2 := n2.2.2
  have bx := b2
  have pt : PT H2 H2 (Array.size H) (Array.size H1) B vb vb vb x vl lb := ⟨bb, bx, w0.old oZ, hv0.imp id (fun e => by omega), hv0.imp id (fun e => by omega), Nx.refl _ _, Fr.refl _ _ _, fun H2 k => hs0 H2 ((oZ.b hB).trans k), by omega, ⟨by omega, by omega, by omega, by omega, by omega⟩, w0.lt.imp id (fun e => e.1)⟩
  have zpt := pt.sz
  have oHb : Old H H2 := oZ
  refine KL.fin 1 rfl (KQ.sr ?_)
  refine KL.ld rfl (by exact cell_of pt.bb rfl) ?_
  refine KL.run 1 rfl ?_
  refine KL.ld rfl (by exact cell_of pt.bx rfl) ?_
  refine KL.m (M.lit rfl Tryd.underlying36 zs5 (by decide) rfl rfl rfl) rfl ?_
  rintro _ H3 ⟨rfl, n3⟩
  have z3 := n3.2.1
  have o0 := o0.trans ((n3.1).b (by omega))
  have pt := pt.old n3.1
  have b3 := n3.2.2
  have ptA := pt
  have hap : Sl 1 (EInt .u8) H3 _ [x.op] := Sl.lits (l := [x.op]) n3 rfl (by simp) (by intro y hy; simp only [List.mem_cons, List.not_mem_nil, or_false] at hy; subst hy; exact hx.1)
  have wo := ptA.wo
  have zpA := ptA.sz
  have lt4 := wo.lt
  refine KL.m (M.appendN rfl Tryd.underlying36 inf5 rfl (by decide) rfl rfl wo hap (fun _ _ h _ => h) (by omega) (by simp only [List.length_append, List.length_cons, List.length_nil]; omega) (by unfold maxLen; simp only [List.length_append, List.length_cons, List.length_nil]; omega)) rfl ?_
  rintro v1 H4 ⟨w4, g4, nx4⟩
  try dsimp only at g4 nx4
  have ob4 := g4.oldB wo (by omega)
  have o0 := o0.trans (ob4.mono (by omega))
  have z4 := ob4.1
  have wo := w4
  have ptB := ptA.app w4 g4 nx4
  have bb := ptB.bb
  have zpB := ptB.sz
  refine KL.opS (S.store rfl sz36 rfl rfl ptB.wo.cells1 ptB.wo.one bb (by simp)) rfl rfl ?_
  rintro H5 ⟨u5, b5⟩
  have o0 := o0.trans (OldB.upd u5 (by omega))
  have zu5 := u5.1
  have bb := b5
  have pt := ptB.sto u5 bb
  have zpt := pt.sz
  refine KL.nil (KQ.sr (KL.fin 2 rfl (KQ.seq (KC.seq (KC.sr (KL.run 1 rfl ?_))))))
  refine KL.ld rfl (by exact cell_of pt.bx rfl) ?_
  refine KL.c rfl Tryd.call153 (Form_k _) ?_
  rintro _ _ ⟨rfl, rfl⟩
  rw [hf]
  refine KL.nil (KQ.seq (KC.block (KC.sr (KL.e0 rfl (by decide) (KL.fin 1 rfl (KQ.seq (KC.condF rfl (KC.seq (KC.sr (KL.e0 rfl (by decide) (KL.fin 1 rfl ?_)))))))))))
  refine KQ.seq (KC.condF rfl (KC.region (KL.e0 rfl (by decide) (KL.fin 1 rfl (KQ.seq (KC.condF rfl (KC.sr (KL.e1 rfl (by decide) (KL.fin 1 rfl (KQ.seq (KC.condT rfl (KC.seq ?_))))))))))))
  refine KC.region (KL.run 2 rfl ?_)
  refine KL.ld rfl (by exact cell_of pt.bx rfl) ?_
  refine KL.q (R.lenS rfl Tryd.underlying24 rfl pt.sl) rfl ?_
  refine KL.q (R.convI rfl Tryd.underlying3 Tryd.underlying28 rfl (by dsimp only [InR]; omega)) rfl ?_
  have hbz := pt.sz
  have hlz : True := by trivial
  refine KL.c rfl Tryd.call154 (put1_any pt.bb pt.wo pt.hne hbz.1 (by simp only [List.length_append, List.length_cons, List.length_nil]; omega) _ (by dsimp only [InR]; omega)) ?_
  rintro _ H6 ⟨rfl, v4, bq, wq, hq, fq, nq⟩
  have pt := pt.num bq wq hq fq nq
  have zpt := pt.sz
  have zfq := fq.1
  have o0 : OldB 0 H H6 := ⟨by omega, fun k hk => by omega⟩
  refine KL.nil (KQ.seq (KC.seq (KC.sr (KL.run 1 rfl ?_))))
  refine KL.ld rfl (by exact cell_of pt.bx rfl) ?_
  refine KL.q (R.lenS rfl Tryd.underlying24 rfl pt.sl) rfl (KL.fin 1 rfl (KQ.seq (KC.block ?_)))
  refine KC.loopD (κ := Nat × Value) [44, 45, 46, 7, 47, 48, 49, 50, 43] (fun k => [(43, .int .i64 (k.1 : Nat))]) (fun k Hl => k.1 ≤ x.l.length ∧ PT H2 Hl (Array.size H) (Array.size H1) B vb k.2 k.2 x vl (lb ++ [x.op] ++ Isp.apN false (x.l.length : Nat) ++ (x.l.take k.1).flatMap (Isp.apN false)) ∧ OldB 0 H Hl) (fun k => x.l.length - k.1) (0, v4) ?_ ?_ ?_
  · exact Sub.all rfl
  · exact ⟨Nat.zero_le _, by simpa using pt, o0⟩
  rintro ⟨k, vk⟩ H7 ⟨hk, pt, o0⟩
  have zl_H7 := o0.1
  dsimp only at hk pt
  have zl := o0.1
  have zpt := pt.sz
  have hlen1 := apL (z := ((x.l.length : Nat) : Int)) (by dsimp only [InR]; omega)
  have hlen2 := apF (xs := x.l.take k) (fun y hy => pt.sl.rng y (List.mem_of_mem_take hy))
  rw [List.length_take] at hlen2
  refine KC.sr (KL.fin 1 rfl (KQ.seq (KC.seq ?_)))
  refine KC.iq rfl ?_ ?_
  · intro hc44
    try dsimp only at hc44
    refine KC.skip (KQ.seq (KC.seq (KC.block (KC.sr ?_))))
    refine KL.q (R.index1 (j := k) rfl Tryd.underlying24 sz28 rfl rfl pt.sl rfl (by omega)) rfl ?_
    refine KL.ld rfl (pt.sl.int k (by omega)).1 ?_
    refine KL.fin 1 rfl (KQ.r (KL.run 2 rfl ?_))
    have hbz := pt.sz
    have hlz : True := by trivial
    refine KL.c rfl Tryd.call154 (put1_any pt.bb pt.wo pt.hne hbz.1 (by simp only [List.length_append, List.length_cons, List.length_nil]; omega) _ ((pt.sl.int k (by omega)).2)) ?_
    rintro _ H8 ⟨rfl, vn, bq, wq, hq, fq, nq⟩
    have pt := pt.num bq wq hq fq nq
    have zpt := pt.sz
    have zfq := fq.1
    have o0 : OldB 0 H H8 := ⟨by omega, fun k hk => by omega⟩
    refine KL.nil (KQ.normBlock (KQ.r ?_))
    refine KL.q ((R.add rfl rfl rfl (by dsimp only [InR]; omega)).val (congrArg (Value.int .i64) (show (k : Int) + 1 = ((k + 1 : Nat) : Int) by omega))) rfl ?_
    refine KL.fin 1 rfl ?_
    refine KQ.again ((k + 1, vn)) ?_ ?_ ?_
    · exact Sub.all rfl
    · show x.l.length - (k + 1) < x.l.length - k; omega
    exact ⟨by show k + 1 ≤ _; omega, by dsimp only; rw [fm_take (by omega), ← List.append_assoc]; exact pt, o0⟩
  intro hc44
  try dsimp only at hc44
  refine KC.exit (KQ.exitThen (KQ.exitThen (KQ.hit (KQ.r (KL.run 2 rfl ?_)))))
  refine KL.ld rfl (by exact cell_of pt.bx rfl) ?_
  have hbz := pt.sz
  have hlz : True := by trivial
  refine KL.c rfl Tryd.call154 (put1_any pt.bb pt.wo pt.hne hbz.1 (by simp only [List.length_append, List.length_cons, List.length_nil]; omega) _ (hx.2.1)) ?_
  rintro _ H9 ⟨rfl, v5, bq, wq, hq, fq, nq⟩
  have pt := pt.num bq wq hq fq nq
  have zpt := pt.sz
  have zfq := fq.1
  have o0 : OldB 0 H H9 := ⟨by omega, fun k hk => by omega⟩
  refine KL.nil (KQ.normBlock (KQ.sr ?_))
  refine KL.ld rfl (by exact cell_of pt.bb rfl) ?_
  refine KL.fin 1 rfl (KQ.seq (KC.ret (KQ.ofRet (KQ.fin1 Tryd.results146 rfl ?_))))
  have e : Isp.bytes x = x.op :: (Isp.apN false (x.l.length : Nat) ++ x.l.flatMap (Isp.apN false) ++ Isp.apN false x.a) := by unfold Isp.bytes Isp.bodyE Isp.rest Isp.labsE; rw [hf]; simp
  rw [e]
  have hkl : k = x.l.length := by omega
  rw [hkl, List.take_length] at pt
  obtain ⟨r1, r2, r3⟩ := pt.ends oHb (by omega) w0
  exact ⟨by simpa [List.append_assoc] using r1, r2, r3⟩
theorem put4 {H : Heap} {B : Nat} {vb : Value} {lb : List Int} {x : Ins} {vl : Value} (w0 : Own 1 (EInt .u8) 5 #[] B H vb lb) (hB : B ≤ H.size) (hx : InsR x) (hll : x.l.length ≤ 100000000) (hlb : lb.length ≤ 1000000000) (hs0 : ∀ H2, OldB B H H2 → Sl 1 (EInt .u32) H2 vl x.l) (hf : Opc.form x.op = 4) : Ct Tryd.prog 146 [vb, insV x vl] H (fun u H' => Own 1 (EInt .u8) 5 #[] B H' u (lb ++ Isp.bytes x) ∧ Grown vb H H' ∧ Nx H vb u) := by
  refine Ct.mk Tryd.func146 rfl Tryd.ntmps146 rfl ?_
  intro W0 hW0
  have o0 : OldB 0 H H := OldB.refl _ H
  have hlx1 := apL hx.2.1
  have hlx2 := apL hx.2.2.1
  have hv0 := w0.lt.imp (fun h => h) (fun h => h.2)
  have oZ : Old H H := Old.refl _
  unfold insV
  refine KC.sr ?_
  refine KL.m (M.box (cs := [vb]) rfl rfl w0.cells1) rfl ?_
  rintro _ H1 ⟨rfl, n1⟩
  have z1 := n1.2.1
  have o0 := o0.trans ((n1.1).b (by omega))
  have oZ := oZ.trans n1.1
  have b1 := n1.2.2
  have bb := b1
  refine KL.m (M.box rfl rfl rfl) rfl ?_
  rintro _ H2 ⟨rfl, n2⟩
  have z2 := n2.2.1
  have o0 := o0.trans ((n2.1).b (by omega))
  have oZ := oZ.trans n2.1
  have bb := (n2.1).blk bb
  have b2 := n2.2.2
  have bx := b2
  have pt : PT H2 H2 (Array.size H) (Array.size H1) B vb vb vb x vl lb := ⟨bb, bx, w0.old oZ, hv0.imp id (fun e => by omega), hv0.imp id (fun e => by omega), Nx.refl _ _, Fr.refl _ _ _, fun H2 k => hs0 H2 ((oZ.b hB).trans k), by omega, ⟨by omega, by omega, by omega, by omega, by omega⟩, w0.lt.imp id (fun e => e.1)⟩
  have zpt := pt.sz
  have oHb : Old H H2 := oZ
  refine KL.fin 1 rfl (KQ.sr ?_)
  refine KL.ld rfl (by exact cell_of pt.bb rfl) ?_
  refine KL.run 1 rfl ?_
  refine KL.ld rfl (by exact cell_of pt.bx rfl) ?_
  refine KL.m (M.lit rfl Tryd.underlying36 zs5 (by decide) rfl rfl rfl) rfl ?_
  rintro _ H3 ⟨rfl, n3⟩
  have z3 := n3.2.1
  have o0 := o0.trans ((n3.1).b (by omega))
  have pt := pt.old n3.1
  have b3 := n3.2.2
  have ptA := pt
  have hap : Sl 1 (EInt .u8) H3 _ [x.op] := Sl.lits (l := [x.op]) n3 rfl (by simp) (by intro y hy; simp only [List.mem_cons, List.not_mem_nil, or_false] at hy; subst hy; exact hx.1)
  have wo := ptA.wo
  have zpA := ptA.sz
  have lt4 := wo.lt
  refine KL.m (M.appendN rfl Tryd.underlying36 inf5 rfl (by decide) rfl rfl wo hap (fun _ _ h _ => h) (by omega) (by simp only [List.length_append, List.length_cons, List.length_nil]; omega) (by unfold maxLen; simp only [List.length_append, List.length_cons, List.length_nil]; omega)) rfl ?_
  rintro v1 H4 ⟨w4, g4, nx4⟩
  try dsimp only at g4 nx4
  have ob4 := g4.oldB wo (by omega)
  have o0 := o0.trans (ob4.mono (by omega))
  have z4 := ob4.1
  have wo := w4
  have ptB := ptA.app w4 g4 nx4
  have bb := ptB.bb
  have zpB := ptB.sz
  refine KL.opS (S.store rfl sz36 rfl rfl ptB.wo.cells1 ptB.wo.one bb (by simp)) rfl rfl ?_
  rintro H5 ⟨u5, b5⟩
  have o0 := o0.trans (OldB.upd u5 (by omega))
  have zu5 := u5.1
  have bb := b5
  have pt := ptB.sto u5 bb
  have zpt := pt.sz
  refine KL.nil (KQ.sr (KL.fin 2 rfl (KQ.seq (KC.seq (KC.sr (KL.run 1 rfl ?_))))))
  refine KL.ld rfl (by exact cell_of pt.bx rfl) ?_
  refine KL.c rfl Tryd.call153 (Form_k _) ?_
  rintro _ _ ⟨rfl, rfl⟩
  rw [hf]
  refine KL.nil (KQ.seq (KC.block (KC.sr (KL.e0 rfl (by decide) (KL.fin 1 rfl (KQ.seq (KC.condF rfl (KC.seq (KC.sr (KL.e0 rfl (by decide) (KL.fin 1 rfl ?_)))))))))))
  refine KQ.seq (KC.condF rfl (KC.region (KL.e1 rfl (by decide) (KL.fin 1 rfl (KQ.seq (KC.condT rfl (KC.region (KL.run 2 rfl ?_))))))))
  refine KL.ld rfl (by exact cell_of pt.bx rfl) ?_
  have hbz := pt.sz
  have hlz : True := by trivial
  refine KL.c rfl Tryd.call154 (put1_any pt.bb pt.wo pt.hne hbz.1 (by simp only [List.length_append, List.length_cons, List.length_nil]; omega) _ (hx.2.1)) ?_
  rintro _ H6 ⟨rfl, v3, bq, wq, hq, fq, nq⟩
  have pt := pt.num bq wq hq fq nq
  have zpt := pt.sz
  have zfq := fq.1
  have o0 : OldB 0 H H6 := ⟨by omega, fun k hk => by omega⟩
  refine KL.nil (KQ.normBlock (KQ.sr ?_))
  refine KL.ld rfl (by exact cell_of pt.bb rfl) ?_
  refine KL.fin 1 rfl (KQ.seq (KC.ret (KQ.ofRet (KQ.fin1 Tryd.results146 rfl ?_))))
  have e : Isp.bytes x = x.op :: Isp.apN false x.a := by unfold Isp.bytes Isp.bodyE Isp.rest Isp.labsE; rw [hf]; simp
  rw [e]
  obtain ⟨r1, r2, r3⟩ := pt.ends oHb (by omega) w0
  exact ⟨by simpa [List.append_assoc] using r1, r2, r3⟩
theorem put5 {H : Heap} {B : Nat} {vb : Value} {lb : List Int} {x : Ins} {vl : Value} (w0 : Own 1 (EInt .u8) 5 #[] B H vb lb) (hB : B ≤ H.size) (hx : InsR x) (hll : x.l.length ≤ 100000000) (hlb : lb.length ≤ 1000000000) (hs0 : ∀ H2, OldB B H H2 → Sl 1 (EInt .u32) H2 vl x.l) (hf : Opc.form x.op = 5) : Ct Tryd.prog 146 [vb, insV x vl] H (fun u H' => Own 1 (EInt .u8) 5 #[] B H' u (lb ++ Isp.bytes x) ∧ Grown vb H H' ∧ Nx H vb u) := by
  refine Ct.mk Tryd.func146 rfl Tryd.ntmps146 rfl ?_
  intro W0 hW0
  have o0 : OldB 0 H H := OldB.refl _ H
  have hlx1 := apL hx.2.1
  have hlx2 := apL hx.2.2.1
  have hv0 := w0.lt.imp (fun h => h) (fun h => h.2)
  have oZ : Old H H := Old.refl _
  unfold insV
  refine KC.sr ?_
  refine KL.m (M.box (cs := [vb]) rfl rfl w0.cells1) rfl ?_
  rintro _ H1 ⟨rfl, n1⟩
  have z1 := n1.2.1
  have o0 := o0.trans ((n1.1).b (by omega))
  have oZ := oZ.trans n1.1
  have b1 := n1.2.2
  have bb := b1
  refine KL.m (M.box rfl rfl rfl) rfl ?_
  rintro _ H2 ⟨rfl, n2⟩
  have z2 := n2.2.1
  have o0 := o0.trans ((n2.1).b (by omega))
  have oZ := oZ.trans n2.1
  have bb := (n2.1).blk bb
  have b2 := n2.2.2
  have bx := b2
  have pt : PT H2 H2 (Array.size H) (Array.size H1) B vb vb vb x vl lb := ⟨bb, bx, w0.old oZ, hv0.imp id (fun e => by omega), hv0.imp id (fun e => by omega), Nx.refl _ _, Fr.refl _ _ _, fun H2 k => hs0 H2 ((oZ.b hB).trans k), by omega, ⟨by omega, by omega, by omega, by omega, by omega⟩, w0.lt.imp id (fun e => e.1)⟩
  have zpt := pt.sz
  have oHb : Old H H2 := oZ
  refine KL.fin 1 rfl (KQ.sr ?_)
  refine KL.ld rfl (by exact cell_of pt.bb rfl) ?_
  refine KL.run 1 rfl ?_
  refine KL.ld rfl (by exact cell_of pt.bx rfl) ?_
  refine KL.m (M.lit rfl Tryd.underlying36 zs5 (by decide) rfl rfl rfl) rfl ?_
  rintro _ H3 ⟨rfl, n3⟩
  have z3 := n3.2.1
  have o0 := o0.trans ((n3.1).b (by omega))
  have pt := pt.old n3.1
  have b3 := n3.2.2
  have ptA := pt
  have hap : Sl 1 (EInt .u8) H3 _ [x.op] := Sl.lits (l := [x.op]) n3 rfl (by simp) (by intro y hy; simp only [List.mem_cons, List.not_mem_nil, or_false] at hy; subst hy; exact hx.1)
  have wo := ptA.wo
  have zpA := ptA.sz
  have lt4 := wo.lt
  refine KL.m (M.appendN rfl Tryd.underlying36 inf5 rfl (by decide) rfl rfl wo hap (fun _ _ h _ => h) (by omega) (by simp only [List.length_append, List.length_cons, List.length_nil]; omega) (by unfold maxLen; simp only [List.length_append, List.length_cons, List.length_nil]; omega)) rfl ?_
  rintro v1 H4 ⟨w4, g4, nx4⟩
  try dsimp only at g4 nx4
  have ob4 := g4.oldB wo (by omega)
  have o0 := o0.trans (ob4.mono (by omega))
  have z4 := ob4.1
  have wo := w4
  have ptB := ptA.app w4 g4 nx4
  have bb := ptB.bb
  have zpB := ptB.sz
  refine KL.opS (S.store rfl sz36 rfl rfl ptB.wo.cells1 ptB.wo.one bb (by simp)) rfl rfl ?_
  rintro H5 ⟨u5, b5⟩
  have o0 := o0.trans (OldB.upd u5 (by omega))
  have zu5 := u5.1
  have bb := b5
  have pt := ptB.sto u5 bb
  have zpt := pt.sz
  refine KL.nil (KQ.sr (KL.fin 2 rfl (KQ.seq (KC.seq (KC.sr (KL.run 1 rfl ?_))))))
  refine KL.ld rfl (by exact cell_of pt.bx rfl) ?_
  refine KL.c rfl Tryd.call153 (Form_k _) ?_
  rintro _ _ ⟨rfl, rfl⟩
  rw [hf]
  refine KL.nil (KQ.seq (KC.block (KC.sr (KL.e0 rfl (by decide) (KL.fin 1 rfl (KQ.seq (KC.condF rfl (KC.seq (KC.sr (KL.e0 rfl (by decide) (KL.fin 1 rfl ?_)))))))))))
  refine KQ.seq (KC.condF rfl (KC.region (KL.e0 rfl (by decide) (KL.fin 1 rfl (KQ.seq (KC.condF rfl (KC.sr (KL.e0 rfl (by decide) (KL.fin 1 rfl (KQ.seq (KC.condF rfl (KC.seq ?_))))))))))))
  refine KC.region (KL.e1 rfl (by decide) (KL.fin 1 rfl (KQ.seq (KC.condT rfl (KC.sr (KL.run 2 rfl ?_))))))
  refine KL.ld rfl (by exact cell_of pt.bx rfl) ?_
  have hbz := pt.sz
  have hlz : True := by trivial
  refine KL.c rfl Tryd.call154 (put1_any pt.bb pt.wo pt.hne hbz.1 (by simp only [List.length_append, List.length_cons, List.length_nil]; omega) _ (hx.2.1)) ?_
  rintro _ H6 ⟨rfl, v6, bq, wq, hq, fq, nq⟩
  have pt := pt.num bq wq hq fq nq
  have zpt := pt.sz
  have zfq := fq.1
  have o0 : OldB 0 H H6 := ⟨by omega, fun k hk => by omega⟩
  refine KL.nil (KQ.r ?_)
  refine KL.ld rfl (by exact cell_of pt.bb rfl) ?_
  refine KL.m (M.lit rfl Tryd.underlying36 zs5 (by decide) rfl rfl rfl) rfl ?_
  rintro _ H7 ⟨rfl, n7⟩
  have z7 := n7.2.1
  have o0 := o0.trans ((n7.1).b (by omega))
  have pt := pt.old n7.1
  have b7 := n7.2.2
  have ptA := pt
  have hap : Sl 1 (EInt .u8) H7 _ [0] := Sl.lits (l := [0]) n7 rfl (by simp) (by decide)
  have wo := ptA.wo
  have zpA := ptA.sz
  have lt8 := wo.lt
  refine KL.m (M.appendN rfl Tryd.underlying36 inf5 rfl (by decide) rfl rfl wo hap (fun _ _ h _ => h) (by omega) (by simp only [List.length_append, List.length_cons, List.length_nil]; omega) (by unfold maxLen; simp only [List.length_append, List.length_cons, List.length_nil]; omega)) rfl ?_
  rintro v7 H8 ⟨w8, g8, nx8⟩
  try dsimp only at g8 nx8
  have ob8 := g8.oldB wo (by omega)
  have o0 := o0.trans (ob8.mono (by omega))
  have z8 := ob8.1
  have wo := w8
  have ptB := ptA.app w8 g8 nx8
  have bb := ptB.bb
  have zpB := ptB.sz
  refine KL.opS (S.store rfl sz36 rfl rfl ptB.wo.cells1 ptB.wo.one bb (by simp)) rfl rfl ?_
  rintro H9 ⟨u9, b9⟩
  have o0 := o0.trans (OldB.upd u9 (by omega))
  have zu9 := u9.1
  have bb := b9
  have pt := ptB.sto u9 bb
  have zpt := pt.sz
  refine KL.nil (KQ.normBlock (KQ.sr ?_))
  refine KL.ld rfl (by exact cell_of pt.bb rfl) ?_
  refine KL.fin 1 rfl (KQ.seq (KC.ret (KQ.ofRet (KQ.fin1 Tryd.results146 rfl ?_))))
  have e : Isp.bytes x = x.op :: (Isp.apN false x.a ++ [0]) := by unfold Isp.bytes Isp.bodyE Isp.rest Isp.labsE; rw [hf]; simp
  rw [e]
  obtain ⟨r1, r2, r3⟩ := pt.ends oHb (by omega) w0
  exact ⟨by simpa [List.append_assoc] using r1, r2, r3⟩
theorem put6 {H : Heap} {B : Nat} {vb : Value} {lb : List Int} {x : Ins} {vl : Value} (w0 : Own 1 (EInt .u8) 5 #[] B H vb lb) (hB : B ≤ H.size) (hx : InsR x) (hll : x.l.length ≤ 100000000) (hlb : lb.length ≤ 1000000000) (hs0 : ∀ H2, OldB B H H2 → Sl 1 (EInt .u32) H2 vl x.l) (hf : Opc.form x.op = 6) : Ct Tryd.prog 146 [vb, insV x vl] H (fun u H' => Own 1 (EInt .u8) 5 #[] B H' u (lb ++ Isp.bytes x) ∧ Grown vb H H' ∧ Nx H vb u) := by
  refine Ct.mk Tryd.func146 rfl Tryd.ntmps146 rfl ?_
  intro W0 hW0
  have o0 : OldB 0 H H := OldB.refl _ H
  have hlx1 := apL hx.2.1
  have hlx2 := apL hx.2.2.1
  have hv0 := w0.lt.imp (fun h => h) (fun h => h.2)
  have oZ : Old H H := Old.refl _
  unfold insV
  refine KC.sr ?_
  refine KL.m (M.box (cs := [vb]) rfl rfl w0.cells1) rfl ?_
  rintro _ H1 ⟨rfl, n1⟩
  have z1 := n1.2.1
  have o0 := o0.trans ((n1.1).b (by omega))
  have oZ := oZ.trans n1.1
  have b1 := n1.2.2
  have bb := b1
  refine KL.m (M.box rfl rfl rfl) rfl ?_
  rintro _ H2 ⟨rfl, n2⟩
  have z2 := n2.2.1
  have o0 := o0.trans ((n2.1).b (by omega))
  have oZ := oZ.trans n2.1
  have bb := (n2.1).blk bb
  have b2 := n2.2.2
  have bx := b2
  have pt : PT H2 H2 (Array.size H) (Array.size H1) B vb vb vb x vl lb := ⟨bb, bx, w0.old oZ, hv0.imp id (fun e => by omega), hv0.imp id (fun e => by omega), Nx.refl _ _, Fr.refl _ _ _, fun H2 k => hs0 H2 ((oZ.b hB).trans k), by omega, ⟨by omega, by omega, by omega, by omega, by omega⟩, w0.lt.imp id (fun e => e.1)⟩
  have zpt := pt.sz
  have oHb : Old H H2 := oZ
  refine KL.fin 1 rfl (KQ.sr ?_)
  refine KL.ld rfl (by exact cell_of pt.bb rfl) ?_
  refine KL.run 1 rfl ?_
  refine KL.ld rfl (by exact cell_of pt.bx rfl) ?_
  refine KL.m (M.lit rfl Tryd.underlying36 zs5 (by decide) rfl rfl rfl) rfl ?_
  rintro _ H3 ⟨rfl, n3⟩
  have z3 := n3.2.1
  have o0 := o0.trans ((n3.1).b (by omega))
  have pt := pt.old n3.1
  have b3 := n3.2.2
  have ptA := pt
  have hap : Sl 1 (EInt .u8) H3 _ [x.op] := Sl.lits (l := [x.op]) n3 rfl (by simp) (by intro y hy; simp only [List.mem_cons, List.not_mem_nil, or_false] at hy; subst hy; exact hx.1)
  have wo := ptA.wo
  have zpA := ptA.sz
  have lt4 := wo.lt
  refine KL.m (M.appendN rfl Tryd.underlying36 inf5 rfl (by decide) rfl rfl wo hap (fun _ _ h _ => h) (by omega) (by simp only [List.length_append, List.length_cons, List.length_nil]; omega) (by unfold maxLen; simp only [List.length_append, List.length_cons, List.length_nil]; omega)) rfl ?_
  rintro v1 H4 ⟨w4, g4, nx4⟩
  try dsimp only at g4 nx4
  have ob4 := g4.oldB wo (by omega)
  have o0 := o0.trans (ob4.mono (by omega))
  have z4 := ob4.1
  have wo := w4
  have ptB := ptA.app w4 g4 nx4
  have bb := ptB.bb
  have zpB := ptB.sz
  refine KL.opS (S.store rfl sz36 rfl rfl ptB.wo.cells1 ptB.wo.one bb (by simp)) rfl rfl ?_
  rintro H5 ⟨u5, b5⟩
  have o0 := o0.trans (OldB.upd u5 (by omega))
  have zu5 := u5.1
  have bb := b5
  have pt := ptB.sto u5 bb
  have zpt := pt.sz
  refine KL.nil (KQ.sr (KL.fin 2 rfl (KQ.seq (KC.seq (KC.sr (KL.run 1 rfl ?_))))))
  refine KL.ld rfl (by exact cell_of pt.bx rfl) ?_
  refine KL.c rfl Tryd.call153 (Form_k _) ?_
  rintro _ _ ⟨rfl, rfl⟩
  rw [hf]
  refine KL.nil (KQ.seq (KC.block (KC.sr (KL.e0 rfl (by decide) (KL.fin 1 rfl (KQ.seq (KC.condF rfl (KC.seq (KC.sr (KL.e0 rfl (by decide) (KL.fin 1 rfl ?_)))))))))))
  refine KQ.seq (KC.condF rfl (KC.region (KL.e0 rfl (by decide) (KL.fin 1 rfl (KQ.seq (KC.condF rfl (KC.sr (KL.e0 rfl (by decide) (KL.fin 1 rfl (KQ.seq (KC.condF rfl (KC.seq ?_))))))))))))
  refine KC.region (KL.e0 rfl (by decide) (KL.fin 1 rfl (KQ.seq (KC.condF rfl (KC.sr (KL.e1 rfl (by decide) (KL.fin 1 rfl (KQ.seq (KC.condT rfl (KC.sr (KL.run 2 rfl ?_)))))))))))
  refine KL.ld rfl (by exact cell_of pt.bx rfl) ?_
  have hbz := pt.sz
  have hlz : True := by trivial
  refine KL.c rfl Tryd.call154 (put1_any pt.bb pt.wo pt.hne hbz.1 (by simp only [List.length_append, List.length_cons, List.length_nil]; omega) _ (hx.2.1)) ?_
  rintro _ H6 ⟨rfl, v8, bq, wq, hq, fq, nq⟩
  have pt := pt.num bq wq hq fq nq
  have zpt := pt.sz
  have zfq := fq.1
  have o0 : OldB 0 H H6 := ⟨by omega, fun k hk => by omega⟩
  refine KL.nil (KQ.r (KL.run 2 rfl ?_))
  refine KL.ld rfl (by exact cell_of pt.bx rfl) ?_
  have hbz := pt.sz
  have hlz : True := by trivial
  refine KL.c rfl Tryd.call154 (put1_any pt.bb pt.wo pt.hne hbz.1 (by simp only [List.length_append, List.length_cons, List.length_nil]; omega) _ (hx.2.2.1)) ?_
  rintro _ H7 ⟨rfl, v9, bq, wq, hq, fq, nq⟩
  have pt := pt.num bq wq hq fq nq
  have zpt := pt.sz
  have zfq := fq.1
  have o0 : OldB 0 H H7 := ⟨by omega, fun k hk => by omega⟩
  refine KL.nil (KQ.normBlock (KQ.sr ?_))
  refine KL.ld rfl (by exact cell_of pt.bb rfl) ?_
  refine KL.fin 1 rfl (KQ.seq (KC.ret (KQ.ofRet (KQ.fin1 Tryd.results146 rfl ?_))))
  have e : Isp.bytes x = x.op :: (Isp.apN false x.a ++ Isp.apN false x.b) := by unfold Isp.bytes Isp.bodyE Isp.rest Isp.labsE; rw [hf]; simp
  rw [e]
  obtain ⟨r1, r2, r3⟩ := pt.ends oHb (by omega) w0
  exact ⟨by simpa [List.append_assoc] using r1, r2, r3⟩
theorem put7 {H : Heap} {B : Nat} {vb : Value} {lb : List Int} {x : Ins} {vl : Value} (w0 : Own 1 (EInt .u8) 5 #[] B H vb lb) (hB : B ≤ H.size) (hx : InsR x) (hll : x.l.length ≤ 100000000) (hlb : lb.length ≤ 1000000000) (hs0 : ∀ H2, OldB B H H2 → Sl 1 (EInt .u32) H2 vl x.l) (hf : Opc.form x.op = 7) : Ct Tryd.prog 146 [vb, insV x vl] H (fun u H' => Own 1 (EInt .u8) 5 #[] B H' u (lb ++ Isp.bytes x) ∧ Grown vb H H' ∧ Nx H vb u) := by
  refine Ct.mk Tryd.func146 rfl Tryd.ntmps146 rfl ?_
  intro W0 hW0
  have o0 : OldB 0 H H := OldB.refl _ H
  have hlx1 := apL hx.2.1
  have hlx2 := apL hx.2.2.1
  have hv0 := w0.lt.imp (fun h => h) (fun h => h.2)
  have oZ : Old H H := Old.refl _
  unfold insV
  refine KC.sr ?_
  refine KL.m (M.box (cs := [vb]) rfl rfl w0.cells1) rfl ?_
  rintro _ H1 ⟨rfl, n1⟩
  have z1 := n1.2.1
  have o0 := o0.trans ((n1.1).b (by omega))
  have oZ := oZ.trans n1.1
  have b1 := n1.2.2
  have bb := b1
  refine KL.m (M.box rfl rfl rfl) rfl ?_
  rintro _ H2 ⟨rfl, n2⟩
  have z2 := n2.2.1
  have o0 := o0.trans ((n2.1).b (by omega))
  have oZ := oZ.trans n2.1
  have bb := (n2.1).blk bb
  have b2 := n2.2.2
  have bx := b2
  have pt : PT H2 H2 (Array.size H) (Array.size H1) B vb vb vb x vl lb := ⟨bb, bx, w0.old oZ, hv0.imp id (fun e => by omega), hv0.imp id (fun e => by omega), Nx.refl _ _, Fr.refl _ _ _, fun H2 k => hs0 H2 ((oZ.b hB).trans k), by omega, ⟨by omega, by omega, by omega, by omega, by omega⟩, w0.lt.imp id (fun e => e.1)⟩
  have zpt := pt.sz
  have oHb : Old H H2 := oZ
  refine KL.fin 1 rfl (KQ.sr ?_)
  refine KL.ld rfl (by exact cell_of pt.bb rfl) ?_
  refine KL.run 1 rfl ?_
  refine KL.ld rfl (by exact cell_of pt.bx rfl) ?_
  refine KL.m (M.lit rfl Tryd.underlying36 zs5 (by decide) rfl rfl rfl) rfl ?_
  rintro _ H3 ⟨rfl, n3⟩
  have z3 := n3.2.1
  have o0 := o0.trans ((n3.1).b (by omega))
  have pt := pt.old n3.1
  have b3 := n3.2.2
  have ptA := pt
  have hap : Sl 1 (EInt .u8) H3 _ [x.op] := Sl.lits (l := [x.op]) n3 rfl (by simp) (by intro y hy; simp only [List.mem_cons, List.not_mem_nil, or_false] at hy; subst hy; exact hx.1)
  have wo := ptA.wo
  have zpA := ptA.sz
  have lt4 := wo.lt
  refine KL.m (M.appendN rfl Tryd.underlying36 inf5 rfl (by decide) rfl rfl wo hap (fun _ _ h _ => h) (by omega) (by simp only [List.length_append, List.length_cons, List.length_nil]; omega) (by unfold maxLen; simp only [List.length_append, List.length_cons, List.length_nil]; omega)) rfl ?_
  rintro v1 H4 ⟨w4, g4, nx4⟩
  try dsimp only at g4 nx4
  have ob4 := g4.oldB wo (by omega)
  have o0 := o0.trans (ob4.mono (by omega))
  have z4 := ob4.1
  have wo := w4
  have ptB := ptA.app w4 g4 nx4
  have bb := ptB.bb
  have zpB := ptB.sz
  refine KL.opS (S.store rfl sz36 rfl rfl ptB.wo.cells1 ptB.wo.one bb (by simp)) rfl rfl ?_
  rintro H5 ⟨u5, b5⟩
  have o0 := o0.trans (OldB.upd u5 (by omega))
  have zu5 := u5.1
  have bb := b5
  have pt := ptB.sto u5 bb
  have zpt := pt.sz
  refine KL.nil (KQ.sr (KL.fin 2 rfl (KQ.seq (KC.seq (KC.sr (KL.run 1 rfl ?_))))))
  refine KL.ld rfl (by exact cell_of pt.bx rfl) ?_
  refine KL.c rfl Tryd.call153 (Form_k _) ?_
  rintro _ _ ⟨rfl, rfl⟩
  rw [hf]
  refine KL.nil (KQ.seq (KC.block (KC.sr (KL.e0 rfl (by decide) (KL.fin 1 rfl (KQ.seq (KC.condF rfl (KC.seq (KC.sr (KL.e0 rfl (by decide) (KL.fin 1 rfl ?_)))))))))))
  refine KQ.seq (KC.condF rfl (KC.region (KL.e0 rfl (by decide) (KL.fin 1 rfl (KQ.seq (KC.condF rfl (KC.sr (KL.e0 rfl (by decide) (KL.fin 1 rfl (KQ.seq (KC.condF rfl (KC.seq ?_))))))))))))
  refine KC.region (KL.e0 rfl (by decide) (KL.fin 1 rfl (KQ.seq (KC.condF rfl (KC.sr (KL.e0 rfl (by decide) (KL.fin 1 rfl (KQ.seq (KC.condF rfl (KC.sr (KL.e1 rfl (by decide) ?_)))))))))))
  refine KL.fin 1 rfl (KQ.seq (KC.condT rfl (KC.region ?_)))
  refine KL.ld rfl (by exact cell_of pt.bb rfl) ?_
  refine KL.m (M.lit rfl Tryd.underlying36 zs5 (by decide) rfl rfl rfl) rfl ?_
  rintro _ H6 ⟨rfl, n6⟩
  have z6 := n6.2.1
  have o0 := o0.trans ((n6.1).b (by omega))
  have pt := pt.old n6.1
  have b6 := n6.2.2
  have ptA := pt
  have hap : Sl 1 (EInt .u8) H6 _ [0] := Sl.lits (l := [0]) n6 rfl (by simp) (by decide)
  have wo := ptA.wo
  have zpA := ptA.sz
  have lt7 := wo.lt
  refine KL.m (M.appendN rfl Tryd.underlying36 inf5 rfl (by decide) rfl rfl wo hap (fun _ _ h _ => h) (by omega) (by simp only [List.length_append, List.length_cons, List.length_nil]; omega) (by unfold maxLen; simp only [List.length_append, List.length_cons, List.length_nil]; omega)) rfl ?_
  rintro va H7 ⟨w7, g7, nx7⟩
  try dsimp only at g7 nx7
  have ob7 := g7.oldB wo (by omega)
  have o0 := o0.trans (ob7.mono (by omega))
  have z7 := ob7.1
  have wo := w7
  have ptB := ptA.app w7 g7 nx7
  have bb := ptB.bb
  have zpB := ptB.sz
  refine KL.opS (S.store rfl sz36 rfl rfl ptB.wo.cells1 ptB.wo.one bb (by simp)) rfl rfl ?_
  rintro H8 ⟨u8, b8⟩
  have o0 := o0.trans (OldB.upd u8 (by omega))
  have zu8 := u8.1
  have bb := b8
  have pt := ptB.sto u8 bb
  have zpt := pt.sz
  refine KL.nil (KQ.normBlock (KQ.sr ?_))
  refine KL.ld rfl (by exact cell_of pt.bb rfl) ?_
  refine KL.fin 1 rfl (KQ.seq (KC.ret (KQ.ofRet (KQ.fin1 Tryd.results146 rfl ?_))))
  have e : Isp.bytes x = x.op :: [0] := by unfold Isp.bytes Isp.bodyE Isp.rest Isp.labsE; rw [hf]; simp
  rw [e]
  obtain ⟨r1, r2, r3⟩ := pt.ends oHb (by omega) w0
  exact ⟨by simpa [List.append_assoc] using r1, r2, r3⟩
theorem put8 {H : Heap} {B : Nat} {vb : Value} {lb : List Int} {x : Ins} {vl : Value} (w0 : Own 1 (EInt .u8) 5 #[] B H vb lb) (hB : B ≤ H.size) (hx : InsR x) (hll : x.l.length ≤ 100000000) (hlb : lb.length ≤ 1000000000) (hs0 : ∀ H2, OldB B H H2 → Sl 1 (EInt .u32) H2 vl x.l) (hf : Opc.form x.op = 8) : Ct Tryd.prog 146 [vb, insV x vl] H (fun u H' => Own 1 (EInt .u8) 5 #[] B H' u (lb ++ Isp.bytes x) ∧ Grown vb H H' ∧ Nx H vb u) := by
  refine Ct.mk Tryd.func146 rfl Tryd.ntmps146 rfl ?_
  intro W0 hW0
  have o0 : OldB 0 H H := OldB.refl _ H
  have hlx1 := apL hx.2.1
  have hlx2 := apL hx.2.2.1
  have hv0 := w0.lt.imp (fun h => h) (fun h => h.2)
  have oZ : Old H H := Old.refl _
  unfold insV
  refine KC.sr ?_
  refine KL.m (M.box (cs := [vb]) rfl rfl w0.cells1) rfl ?_
  rintro _ H1 ⟨rfl, n1⟩
  have z1 := n1.2.1
  have o0 := o0.trans ((n1.1).b (by omega))
  have oZ := oZ.trans n1.1
  have b1 := n1.2.2
  have bb := b1
  refine KL.m (M.box rfl rfl rfl) rfl ?_
  rintro _ H2 ⟨rfl, n2⟩
  have z2 := n2.2.1
  have o0 := o0.trans ((n2.1).b (by omega))
  have oZ := oZ.trans n2.1
  have bb := (n2.1).blk bb
  have b2 := n2.2.2
  have bx := b2
  have pt : PT H2 H2 (Array.size H) (Array.size H1) B vb vb vb x vl lb := ⟨bb, bx, w0.old oZ, hv0.imp id (fun e => by omega), hv0.imp id (fun e => by omega), Nx.refl _ _, Fr.refl _ _ _, fun H2 k => hs0 H2 ((oZ.b hB).trans k), by omega, ⟨by omega, by omega, by omega, by omega, by omega⟩, w0.lt.imp id (fun e => e.1)⟩
  have zpt := pt.sz
  have oHb : Old H H2 := oZ
  refine KL.fin 1 rfl (KQ.sr ?_)
  refine KL.ld rfl (by exact cell_of pt.bb rfl) ?_
  refine KL.run 1 rfl ?_
  refine KL.ld rfl (by exact cell_of pt.bx rfl) ?_
  refine KL.m (M.lit rfl Tryd.underlying36 zs5 (by decide) rfl rfl rfl) rfl ?_
  rintro _ H3 ⟨rfl, n3⟩
  have z3 := n3.2.1
  have o0 := o0.trans ((n3.1).b (by omega))
  have pt := pt.old n3.1
  have b3 := n3.2.2
  have ptA := pt
  have hap : Sl 1 (EInt .u8) H3 _ [x.op] := Sl.lits (l := [x.op]) n3 rfl (by simp) (by intro y hy; simp only [List.mem_cons, List.not_mem_nil, or_false] at hy; subst hy; exact hx.1)
  have wo := ptA.wo
  have zpA := ptA.sz
  have lt4 := wo.lt
  refine KL.m (M.appendN rfl Tryd.underlying36 inf5 rfl (by decide) rfl rfl wo hap (fun _ _ h _ => h) (by omega) (by simp only [List.length_append, List.length_cons, List.length_nil]; omega) (by unfold maxLen; simp only [List.length_append, List.length_cons, List.length_nil]; omega)) rfl ?_
  rintro v1 H4 ⟨w4, g4, nx4⟩
  try dsimp only at g4 nx4
  have ob4 := g4.oldB wo (by omega)
  have o0 := o0.trans (ob4.mono (by omega))
  have z4 := ob4.1
  have wo := w4
  have ptB := ptA.app w4 g4 nx4
  have bb := ptB.bb
  have zpB := ptB.sz
  refine KL.opS (S.store rfl sz36 rfl rfl ptB.wo.cells1 ptB.wo.one bb (by simp)) rfl rfl ?_
  rintro H5 ⟨u5, b5⟩
  have o0 := o0.trans (OldB.upd u5 (by omega))
  have zu5 := u5.1
  have bb := b5
  have pt := ptB.sto u5 bb
  have zpt := pt.sz
  refine KL.nil (KQ.sr (KL.fin 2 rfl (KQ.seq (KC.seq (KC.sr (KL.run 1 rfl ?_))))))
  refine KL.ld rfl (by exact cell_of pt.bx rfl) ?_
  refine KL.c rfl Tryd.call153 (Form_k _) ?_
  rintro _ _ ⟨rfl, rfl⟩
  rw [hf]
  refine KL.nil (KQ.seq (KC.block (KC.sr (KL.e0 rfl (by decide) (KL.fin 1 rfl (KQ.seq (KC.condF rfl (KC.seq (KC.sr (KL.e0 rfl (by decide) (KL.fin 1 rfl ?_)))))))))))
  refine KQ.seq (KC.condF rfl (KC.region (KL.e0 rfl (by decide) (KL.fin 1 rfl (KQ.seq (KC.condF rfl (KC.sr (KL.e0 rfl (by decide) (KL.fin 1 rfl (KQ.seq (KC.condF rfl (KC.seq ?_))))))))))))
  refine KC.region (KL.e0 rfl (by decide) (KL.fin 1 rfl (KQ.seq (KC.condF rfl (KC.sr (KL.e0 rfl (by decide) (KL.fin 1 rfl (KQ.seq (KC.condF rfl (KC.sr (KL.e0 rfl (by decide) ?_)))))))))))
  refine KL.fin 1 rfl (KQ.seq (KC.condF rfl (KC.seq (KC.sr (KL.e1 rfl (by decide) (KL.fin 1 rfl (KQ.seq (KC.condT rfl (KC.skip (KQ.seq (KC.condT rfl ?_)))))))))))
  refine KC.order [0, 1, 2, 3, 4, 5] (clOf [(3, 2), (4, 2), (5, 2)]) (fun j Hc => (j = 0 → Hc[(Array.size H)]? = some (.cells [v1].toArray 36 (0, 0))) ∧ (j = 2 → Hc[(Array.size H1)]? = some (.cells [.int .u8 x.op, .int .u32 x.a, .int .u32 x.b, .int .i64 x.c, vl].toArray 127 (0, 0)))) (fun _ _ => False) (by kernel_rfl) (by kernel_rfl) (by kernel_rfl) rfl (fun _ => ⟨fun _ => pt.bb, fun _ => pt.bx⟩) (fun _ _ h => h.elim) ?_
  refine KO.op rfl rfl (fun Hg hg => R.load rfl Tryd.underlying36 rfl rfl (cell_of (hg.1 rfl) rfl)) rfl rfl rfl ?_
  refine KO.op rfl rfl (fun Hg hg => (R.fieldAddr rfl Tryd.underlying127 rfl rfl sz2 rfl)) rfl rfl rfl ?_
  refine KO.op rfl rfl (fun Hg hg => R.load rfl Tryd.underlying2 rfl rfl (cell_of (hg.2 rfl) rfl)) rfl rfl rfl ?_
  refine KO.call rfl rfl rfl rfl rfl rfl Tryd.call155 rfl rfl rfl (AppS_k x.c hx.2.2.2) (fun _ _ hR _ _ _ => ⟨fun _ => hR.2.blk pt.bb, fun _ => hR.2.blk pt.bx⟩) ?_
  rintro va H6 ⟨wa, ox⟩
  have zc_H6 := (ox).1
  have o0 := o0.trans ((ox).b (by omega))
  have pt := pt.old ox
  have ptA := pt
  have hap := wa.sl (emptyOld _) (by omega)
  have hal := apS hx.2.2.2
  have wo := ptA.wo
  have zpA := ptA.sz
  have lt7 := wo.lt
  refine KO.opM rfl rfl (M.appendN rfl Tryd.underlying36 inf5 rfl (by decide) rfl rfl wo hap (fun _ _ h _ => h) (by omega) (by simp only [List.length_append, List.length_cons, List.length_nil]; omega) (by unfold maxLen; simp only [List.length_append, List.length_cons, List.length_nil]; omega)) rfl rfl rfl (fun _ _ hR j _ hj2 => ⟨fun hj => by subst hj; exact absurd (by decide +kernel) hj2, fun hj => by subst hj; exact absurd (by decide +kernel) hj2⟩) ?_
  rintro vs H7 ⟨w7, g7, nx7⟩
  try dsimp only at g7 nx7
  have ob7 := g7.oldB wo (by omega)
  have o0 := o0.trans (ob7.mono (by omega))
  have z7 := ob7.1
  have wo := w7
  have ptB := ptA.app w7 g7 nx7
  have bb := ptB.bb
  have zpB := ptB.sz
  refine KO.opS rfl rfl (S.store rfl sz36 rfl rfl ptB.wo.cells1 ptB.wo.one bb (by simp)) rfl rfl (fun _ h j hj1 hj2 => ⟨fun hj => by subst hj; exact absurd (by decide +kernel) hj2, fun hj => by subst hj; exact absurd (by decide +kernel) hj2⟩) ?_
  rintro H8 ⟨u8, b8⟩
  have o0 := o0.trans (OldB.upd u8 (by omega))
  have zu8 := u8.1
  have bb := b8
  have pt := ptB.sto u8 bb
  have zpt := pt.sz
  refine KO.nil ?_
  refine KQ.normBlock (KQ.sr ?_)
  refine KL.ld rfl (by exact cell_of pt.bb rfl) ?_
  refine KL.fin 1 rfl (KQ.seq (KC.ret (KQ.ofRet (KQ.fin1 Tryd.results146 rfl ?_))))
  have e : Isp.bytes x = x.op :: Isp.apN true x.c := by unfold Isp.bytes Isp.bodyE Isp.rest Isp.labsE; rw [hf]; simp
  rw [e]
  obtain ⟨r1, r2, r3⟩ := pt.ends oHb (by omega) w0
  exact ⟨by simpa [List.append_assoc] using r1, r2, r3⟩
theorem put9 {H : Heap} {B : Nat} {vb : Value} {lb : List Int} {x : Ins} {vl : Value} (w0 : Own 1 (EInt .u8) 5 #[] B H vb lb) (hB : B ≤ H.size) (hx : InsR x) (hll : x.l.length ≤ 100000000) (hlb : lb.length ≤ 1000000000) (hs0 : ∀ H2, OldB B H H2 → Sl 1 (EInt .u32) H2 vl x.l) (hf : Opc.form x.op = 9) : Ct Tryd.prog 146 [vb, insV x vl] H (fun u H' => Own 1 (EInt .u8) 5 #[] B H' u (lb ++ Isp.bytes x) ∧ Grown vb H H' ∧ Nx H vb u) := by
  refine Ct.mk Tryd.func146 rfl Tryd.ntmps146 rfl ?_
  intro W0 hW0
  have o0 : OldB 0 H H := OldB.refl _ H
  have hlx1 := apL hx.2.1
  have hlx2 := apL hx.2.2.1
  have hv0 := w0.lt.imp (fun h => h) (fun h => h.2)
  have oZ : Old H H := Old.refl _
  unfold insV
  refine KC.sr ?_
  refine KL.m (M.box (cs := [vb]) rfl rfl w0.cells1) rfl ?_
  rintro _ H1 ⟨rfl, n1⟩
  have z1 := n1.2.1
  have o0 := o0.trans ((n1.1).b (by omega))
  have oZ := oZ.trans n1.1
  have b1 := n1.2.2
  have bb := b1
  refine KL.m (M.box rfl rfl rfl) rfl ?_
  rintro _ H2 ⟨rfl, n2⟩
  have z2 := n2.2.1
  have o0 := o0.trans ((n2.1).b (by omega))
  have oZ := oZ.trans n2.1
  have bb := (n2.1).blk bb
  have b2 := n2.2.2
  have bx := b2
  have pt : PT H2 H2 (Array.size H) (Array.size H1) B vb vb vb x vl lb := ⟨bb, bx, w0.old oZ, hv0.imp id (fun e => by omega), hv0.imp id (fun e => by omega), Nx.refl _ _, Fr.refl _ _ _, fun H2 k => hs0 H2 ((oZ.b hB).trans k), by omega, ⟨by omega, by omega, by omega, by omega, by omega⟩, w0.lt.imp id (fun e => e.1)⟩
  have zpt := pt.sz
  have oHb : Old H H2 := oZ
  refine KL.fin 1 rfl (KQ.sr ?_)
  refine KL.ld rfl (by exact cell_of pt.bb rfl) ?_
  refine KL.run 1 rfl ?_
  refine KL.ld rfl (by exact cell_of pt.bx rfl) ?_
  refine KL.m (M.lit rfl Tryd.underlying36 zs5 (by decide) rfl rfl rfl) rfl ?_
  rintro _ H3 ⟨rfl, n3⟩
  have z3 := n3.2.1
  have o0 := o0.trans ((n3.1).b (by omega))
  have pt := pt.old n3.1
  have b3 := n3.2.2
  have ptA := pt
  have hap : Sl 1 (EInt .u8) H3 _ [x.op] := Sl.lits (l := [x.op]) n3 rfl (by simp) (by intro y hy; simp only [List.mem_cons, List.not_mem_nil, or_false] at hy; subst hy; exact hx.1)
  have wo := ptA.wo
  have zpA := ptA.sz
  have lt4 := wo.lt
  refine KL.m (M.appendN rfl Tryd.underlying36 inf5 rfl (by decide) rfl rfl wo hap (fun _ _ h _ => h) (by omega) (by simp only [List.length_append, List.length_cons, List.length_nil]; omega) (by unfold maxLen; simp only [List.length_append, List.length_cons, List.length_nil]; omega)) rfl ?_
  rintro v1 H4 ⟨w4, g4, nx4⟩
  try dsimp only at g4 nx4
  have ob4 := g4.oldB wo (by omega)
  have o0 := o0.trans (ob4.mono (by omega))
  have z4 := ob4.1
  have wo := w4
  have ptB := ptA.app w4 g4 nx4
  have bb := ptB.bb
  have zpB := ptB.sz
  refine KL.opS (S.store rfl sz36 rfl rfl ptB.wo.cells1 ptB.wo.one bb (by simp)) rfl rfl ?_
  rintro H5 ⟨u5, b5⟩
  have o0 := o0.trans (OldB.upd u5 (by omega))
  have zu5 := u5.1
  have bb := b5
  have pt := ptB.sto u5 bb
  have zpt := pt.sz
  refine KL.nil (KQ.sr (KL.fin 2 rfl (KQ.seq (KC.seq (KC.sr (KL.run 1 rfl ?_))))))
  refine KL.ld rfl (by exact cell_of pt.bx rfl) ?_
  refine KL.c rfl Tryd.call153 (Form_k _) ?_
  rintro _ _ ⟨rfl, rfl⟩
  rw [hf]
  refine KL.nil (KQ.seq (KC.block (KC.sr (KL.e0 rfl (by decide) (KL.fin 1 rfl (KQ.seq (KC.condF rfl (KC.seq (KC.sr (KL.e0 rfl (by decide) (KL.fin 1 rfl ?_)))))))))))
  refine KQ.seq (KC.condF rfl (KC.region (KL.e0 rfl (by decide) (KL.fin 1 rfl (KQ.seq (KC.condF rfl (KC.sr (KL.e0 rfl (by decide) (KL.fin 1 rfl (KQ.seq (KC.condF rfl (KC.seq ?_))))))))))))
  refine KC.region (KL.e0 rfl (by decide) (KL.fin 1 rfl (KQ.seq (KC.condF rfl (KC.sr (KL.e0 rfl (by decide) (KL.fin 1 rfl (KQ.seq (KC.condF rfl (KC.sr (KL.e0 rfl (by decide) ?_)))))))))))
  refine KL.fin 1 rfl (KQ.seq (KC.condF rfl (KC.seq (KC.sr (KL.e0 rfl (by decide) (KL.fin 1 rfl (KQ.seq (KC.condF rfl (KC.region (KL.e1 rfl (by decide) (KL.fin 1 rfl (KQ.seq ?_))))))))))))
  refine KC.condT rfl ?_
  refine KC.order [0, 1, 2, 3, 4, 5] (clOf [(3, 2), (4, 2), (5, 2)]) (fun j Hc => (j = 0 → Hc[(Array.size H)]? = some (.cells [v1].toArray 36 (0, 0))) ∧ (j = 2 → Hc[(Array.size H1)]? = some (.cells [.int .u8 x.op, .int .u32 x.a, .int .u32 x.b, .int .i64 x.c, vl].toArray 127 (0, 0)))) (fun _ _ => False) (by kernel_rfl) (by kernel_rfl) (by kernel_rfl) rfl (fun _ => ⟨fun _ => pt.bb, fun _ => pt.bx⟩) (fun _ _ h => h.elim) ?_
  refine KO.op rfl rfl (fun Hg hg => R.load rfl Tryd.underlying36 rfl rfl (cell_of (hg.1 rfl) rfl)) rfl rfl rfl ?_
  refine KO.op rfl rfl (fun Hg hg => (R.fieldAddr rfl Tryd.underlying127 rfl rfl sz2 rfl)) rfl rfl rfl ?_
  refine KO.op rfl rfl (fun Hg hg => R.load rfl Tryd.underlying2 rfl rfl (cell_of (hg.2 rfl) rfl)) rfl rfl rfl ?_
  refine KO.call rfl rfl rfl rfl rfl rfl Tryd.call155 rfl rfl rfl (AppS_k x.c hx.2.2.2) (fun _ _ hR _ _ _ => ⟨fun _ => hR.2.blk pt.bb, fun _ => hR.2.blk pt.bx⟩) ?_
  rintro va H6 ⟨wa, ox⟩
  have zc_H6 := (ox).1
  have o0 := o0.trans ((ox).b (by omega))
  have pt := pt.old ox
  have ptA := pt
  have hap := wa.sl (emptyOld _) (by omega)
  have hal := apS hx.2.2.2
  have wo := ptA.wo
  have zpA := ptA.sz
  have lt7 := wo.lt
  refine KO.opM rfl rfl (M.appendN rfl Tryd.underlying36 inf5 rfl (by decide) rfl rfl wo hap (fun _ _ h _ => h) (by omega) (by simp only [List.length_append, List.length_cons, List.length_nil]; omega) (by unfold maxLen; simp only [List.length_append, List.length_cons, List.length_nil]; omega)) rfl rfl rfl (fun _ _ hR j _ hj2 => ⟨fun hj => by subst hj; exact absurd (by decide +kernel) hj2, fun hj => by subst hj; exact absurd (by decide +kernel) hj2⟩) ?_
  rintro vs H7 ⟨w7, g7, nx7⟩
  try dsimp only at g7 nx7
  have ob7 := g7.oldB wo (by omega)
  have o0 := o0.trans (ob7.mono (by omega))
  have z7 := ob7.1
  have wo := w7
  have ptB := ptA.app w7 g7 nx7
  have bb := ptB.bb
  have zpB := ptB.sz
  refine KO.opS rfl rfl (S.store rfl sz36 rfl rfl ptB.wo.cells1 ptB.wo.one bb (by simp)) rfl rfl (fun _ h j hj1 hj2 => ⟨fun hj => by subst hj; exact absurd (by decide +kernel) hj2, fun hj => by subst hj; exact absurd (by decide +kernel) hj2⟩) ?_
  rintro H8 ⟨u8, b8⟩
  have o0 := o0.trans (OldB.upd u8 (by omega))
  have zu8 := u8.1
  have bb := b8
  have pt := ptB.sto u8 bb
  have zpt := pt.sz
  refine KO.nil ?_
  refine KQ.normBlock (KQ.sr ?_)
  refine KL.ld rfl (by exact cell_of pt.bb rfl) ?_
  refine KL.fin 1 rfl (KQ.seq (KC.ret (KQ.ofRet (KQ.fin1 Tryd.results146 rfl ?_))))
  have e : Isp.bytes x = x.op :: Isp.apN true x.c := by unfold Isp.bytes Isp.bodyE Isp.rest Isp.labsE; rw [hf]; simp
  rw [e]
  obtain ⟨r1, r2, r3⟩ := pt.ends oHb (by omega) w0
  exact ⟨by simpa [List.append_assoc] using r1, r2, r3⟩
theorem put_any {H : Heap} {B : Nat} {vb : Value} {lb : List Int} {x : Ins} {vl : Value} (w0 : Own 1 (EInt .u8) 5 #[] B H vb lb) (hB : B ≤ H.size) (hx : InsR x) (hll : x.l.length ≤ 100000000) (hlb : lb.length ≤ 1000000000) (hs0 : ∀ H2, OldB B H H2 → Sl 1 (EInt .u32) H2 vl x.l) (hM : Isp.May x) : Ct Tryd.prog 146 [vb, insV x vl] H (fun u H' => Own 1 (EInt .u8) 5 #[] B H' u (lb ++ Isp.bytes x) ∧ Grown vb H H' ∧ Nx H vb u) := by
  have hfr := Isp.form_range hx.1
  have hrg : ∀ y ∈ x.l, InR .u32 y := (hs0 H (OldB.refl _ _)).rng
  have hc : Opc.form x.op = 0 ∨ Opc.form x.op = 1 ∨ Opc.form x.op = 2 ∨ Opc.form x.op = 3 ∨ Opc.form x.op = 4 ∨ Opc.form x.op = 5 ∨ Opc.form x.op = 6 ∨ Opc.form x.op = 7 ∨ Opc.form x.op = 8 ∨ Opc.form x.op = 9 := by omega
  rcases hc with h | h | h | h | h | h | h | h | h | h
  · exact put0 w0 hB hx hll hlb hs0 h
  · exact put1 w0 hB hx hll hlb hs0 h (by have := ((Isp.may_iff hx (by omega) hrg).1 hM).2.1; omega)
  · exact put2 w0 hB hx hll hlb hs0 h
  · exact put3 w0 hB hx hll hlb hs0 h
  · exact put4 w0 hB hx hll hlb hs0 h
  · exact put5 w0 hB hx hll hlb hs0 h
  · exact put6 w0 hB hx hll hlb hs0 h
  · exact put7 w0 hB hx hll hlb hs0 h
  · exact put8 w0 hB hx hll hlb hs0 h
  exact put9 w0 hB hx hll hlb hs0 h
end Go.Proofs.YtldmfchamcpmmaaDoor
namespace Go.Proofs.YtldmfchamcpmmaaDoor
open Go Go.RowKit
set_option linter.unusedVariables false
set_option linter.unusedSimpArgs false
set_option linter.unnecessarySimpa false
theorem CellsH.old {H H' : Heap} {p : Addr} {cs : List Value} (h : CellsH H p cs) (o : Old H H') : CellsH H' p cs := fun i v hv => o.cell (h i v hv)
/-- an expression has bytes -/
def Isp.Has (xs : List Ins) : Prop := Isp.walkM [] xs = some [] ∧ ∀ x ∈ xs, Isp.May x
/-- bytes and marks that are being written -/
structure AS (H : Heap) (gm B0 B : Nat) (vm : Value) (m : List Int) (vb : Value) (lb : List Int) : Prop where
  bm : H[gm]? = some (.cells [vm].toArray 222 (0, 0))
  wm : Own 1 (EInt .u8) 5 #[] B H vm m
  wb : Own 1 (EInt .u8) 5 #[] B0 H vb lb
  sep : vb = .slice none 0 0 ∨ vm = .slice none 0 0 ∨ vblock vb ≠ vblock vm
  nb : vb = .slice none 0 0 ∨ vblock vb ≠ gm
  lo : B0 ≤ gm ∧ gm < B
section
variable {H H' : Heap} {gm B0 B : Nat} {vm vm' vb vb' : Value} {m m' lb lb' : List Int}
theorem AS.sz (h : AS H gm B0 B vm m vb lb) : gm < H.size ∧ B0 ≤ gm ∧ gm < B ∧ (vb = .slice none 0 0 ∨ (B0 ≤ vblock vb ∧ vblock vb < H.size)) ∧ (vm = .slice none 0 0 ∨ (B ≤ vblock vm ∧ vblock vm < H.size)) := ⟨blk_lt h.bm, h.lo.1, h.lo.2, h.wb.lt, h.wm.lt⟩
theorem AS.old (h : AS H gm B0 B vm m vb lb) (o : Old H H') : AS H' gm B0 B vm m vb lb := ⟨o.blk h.bm, h.wm.old o, h.wb.old o, h.sep, h.nb, h.lo⟩
theorem AS.updT {g : Nat} (h : AS H gm B0 B vm m vb lb) (u : Upd g H H') (h1 : g ≠ gm ∧ (vb = .slice none 0 0 ∨ vblock vb ≠ g) ∧ (vm = .slice none 0 0 ∨ vblock vm ≠ g)) : AS H' gm B0 B vm m vb lb :=
  ⟨(u.2 _ (fun e => h1.1 e.symm)).trans h.bm, h.wm.upd u h1.2.2, h.wb.upd u h1.2.1, h.sep, h.nb, h.lo⟩
theorem nx_ne {v v' : Value} {y : Nat} (nx : Nx H v v') (hy : y < H.size) (hn : v = .slice none 0 0 ∨ vblock v ≠ y) : v' = .slice none 0 0 ∨ vblock v' ≠ y := by
  rcases nx with e | ⟨e1, e2⟩ | e
  · exact .inl e
  · rw [e2]; exact .inr (hn.resolve_left e1)
  exact .inr (by omega)
theorem AS.next (h : AS H gm B0 B vm m vb lb) (bm : H'[gm]? = some (.cells [vm'].toArray 222 (0, 0))) (wm : Own 1 (EInt .u8) 5 #[] B H' vm' m') (f : Fr gm vm H H') (nx : Nx H vm vm') : AS H' gm B0 B vm' m' vb lb := by
  have s := h.sz
  refine ⟨bm, wm, ?_, ?_, h.nb, h.lo⟩
  · refine h.wb.keepN ?_
    rcases s.2.2.2.1 with e | e
    · exact .inl e
    by_cases hn : vb = .slice none 0 0
    · exact .inl hn
    exact .inr (f.2 _ e.2 (h.nb.resolve_left hn) ((h.sep.resolve_left hn).imp id (fun k => k)))
  rcases s.2.2.2.1 with e | e
  · exact .inl e
  by_cases hn : vb = .slice none 0 0
  · exact .inl hn
  rcases nx_ne nx e.2 ((h.sep.resolve_left hn).imp id (fun k e => k e.symm)) with k | k
  · exact .inr (.inl k)
  exact .inr (.inr (fun e => k e.symm))
theorem AS.put (h : AS H gm B0 B vm m vb lb) (w : Own 1 (EInt .u8) 5 #[] B0 H' vb' lb') (g : Grown vb H H') (nx : Nx H vb vb') : AS H' gm B0 B vm m vb' lb' := by
  have s := h.sz
  refine ⟨(g.2 _ s.1 (h.nb.imp id (fun k e => k e.symm))).trans h.bm, ?_, w, ?_, nx_ne nx s.1 h.nb, h.lo⟩
  · refine h.wm.keepN ?_
    rcases s.2.2.2.2 with e | e
    · exact .inl e
    by_cases hn : vm = .slice none 0 0
    · exact .inl hn
    refine .inr (g.2 _ e.2 ?_)
    rcases h.sep with k | k | k
    · exact .inl k
    · exact absurd k hn
    exact .inr (fun e => k e.symm)
  rcases s.2.2.2.2 with e | e
  · exact .inr (.inl e)
  by_cases hn : vm = .slice none 0 0
  · exact .inr (.inl hn)
  rcases nx_ne nx e.2 (h.sep.imp id (fun k => k.resolve_left hn)) with k | k
  · exact .inl k
  exact .inr (.inr k)
end
theorem AppendExpr_any {H : Heap} {va v : Value} {la : List Int} {xs : List Ins} (hs : Sl 1 (EInt .u8) H va la) (hla : la.length ≤ 100000000) (hs0 : Sl 5 EIns H v xs) (hb : Isp.bulk xs ≤ 2000000) : Ct Tryd.prog 123 [va, v] H (fun u H' => ((¬ Isp.Has xs ∧ u = .tuple #[.slice none 0 0, .int .i64 2]) ∨ (Isp.Has xs ∧ ∃ c, u = .tuple #[c, .int .i64 0] ∧ Own 1 (EInt .u8) 5 #[] H.size H' c (la ++ (Isp.flat xs ++ [11])))) ∧ Old H H') := by
  refine Ct.mk Tryd.func123 rfl Tryd.ntmps123 rfl ?_
  intro W0 hW0
  have o0 : Old H H := Old.refl H
  have hlx := Isp.bulk_len xs
  refine KC.sr (KL.fin 2 rfl (KQ.seq (KC.seq ?_)))
  have wn : Own 1 (EInt .u8) 5 #[] (Array.size H) H (.slice none 0 0) [] := Own.nil _ _ _ _ _ _
  refine KC.region (KL.run 1 rfl ?_)
  have lt1 := wn.lt
  refine KL.m (M.append rfl Tryd.underlying36 inf5 rfl (by decide) rfl rfl wn hs (fun _ _ h _ => h) (by omega) (by simp; omega) (by unfold maxLen; simp; omega)) rfl ?_
  rintro v0 H1 ⟨w1, g1⟩
  have ob1 := g1.oldB wn (by omega)
  have o0 := o0.then ob1 (by omega)
  have z1 := ob1.1
  have wn := w1
  rw [List.nil_append] at wn
  have hwn := wn.lt
  refine KL.fin 1 rfl (KQ.sr ?_)
  refine KL.m (M.alloc rfl zr222 rfl) rfl ?_
  rintro _ H2 ⟨rfl, n2⟩
  have z2 := n2.2.1
  have o0 := o0.trans n2.1
  have wn := wn.old n2.1
  have b2 := n2.2.2
  have bm := b2
  have aw : AS H2 (Array.size H1) (Array.size H) (Array.size H2) (.slice none 0 0) [] v0 la := ⟨bm, Own.nil _ _ _ _ _ _, wn, .inr (.inl rfl), hwn.imp id (fun e => by omega), by omega⟩
  have zas := aw.sz
  refine KL.nil (KQ.seq (KC.seq (KC.sr (KL.run 1 rfl (KL.q (R.lenS rfl Tryd.underlying52 rfl (hs0.old o0)) rfl (KL.fin 1 rfl (KQ.seq (KC.block ?_))))))))
  refine KC.loopD (κ := Nat × Value × Value × List Int) [17, 18, 19, 9, 21, 22, 23, 20, 24, 25, 10, 11, 26, 27, 28, 29, 30, 31, 32, 33, 34, 4, 5, 35, 36, 37, 6, 38, 16] (fun k => [(16, .int .i64 (k.1 : Nat)), (6, k.2.1)]) (fun k Hl => k.1 ≤ xs.length ∧ AS Hl (Array.size H1) (Array.size H) (Array.size H2) k.2.2.1 k.2.2.2 k.2.1 (la ++ Isp.flat (xs.take k.1)) ∧ Isp.walkM [] (xs.take k.1) = some k.2.2.2 ∧ (∀ x ∈ xs.take k.1, Isp.May x) ∧ Array.size H2 ≤ Hl.size ∧ Old H Hl) (fun k => xs.length - k.1) (0, v0, .slice none 0 0, []) ?_ ?_ ?_
  · exact Sub.all rfl
  · exact ⟨Nat.zero_le _, by simpa [Isp.flat] using aw, by simp [Isp.walkM], by simp, Nat.le_refl _, o0⟩
  rintro ⟨k, vb, vm, m⟩ H3 ⟨hk, aw, hw, hMs, hBH, o0⟩
  have zl_H3 := o0.1
  dsimp only at hk aw hw hMs
  have zas := aw.sz
  have zo0 := o0.1
  have hs := hs0.old o0
  have hfl := flatB (k := k) hs0 hb
  have hml : m.length ≤ xs.length := by
    have := Isp.walk_len hw
    rw [List.length_take] at this; omega
  have hlx := Isp.bulk_len xs
  refine KC.sr (KL.fin 1 rfl (KQ.seq (KC.seq ?_)))
  refine KC.iq rfl ?_ ?_
  · intro hc17
    try dsimp only at hc17
    obtain ⟨vl, hcx0, hcl0, hxr⟩ := hs0.insV k (by omega)
    have hcx := hcx0.old o0
    have hcl := hcl0.old o0
    have hbm := Isp.bulk_mem (ins_mem (l := xs) (j := k) (by omega))
    refine KC.skip (KQ.seq (KC.seq (KC.block (KC.sr ?_))))
    refine KL.q (R.index (j := k) rfl Tryd.underlying52 sz127 rfl rfl hs rfl (by omega)) rfl ?_
    refine KL.lda rfl hcx rfl ?_
    have zasP := aw.sz
    refine KL.m (M.alloc rfl zr127 rfl) rfl ?_
    rintro _ H4 ⟨rfl, n4⟩
    have z4 := n4.2.1
    have o0 := o0.trans n4.1
    have aw := aw.old n4.1
    have b4 := n4.2.2
    have b9x := b4
    have zas := aw.sz
    refine KL.opS (S.storeAgg rfl sz127 rfl rfl (rfl) (by intro u hu; simp only [List.mem_cons, List.not_mem_nil, or_false] at hu; rcases hu with rfl | rfl | rfl | rfl | rfl <;> first | rfl | exact hcl.one) b9x (by simp)) rfl rfl ?_
    rintro H5 ⟨u5, b5⟩
    have o0 := o0.upd u5 (by omega)
    have zu5 := u5.1
    have b9x := b5
    rw [over_all (by rfl)] at b9x
    have aw := aw.updT u5 ⟨by omega, zasP.2.2.2.1.imp id (fun e => by omega), zasP.2.2.2.2.imp id (fun e => by omega)⟩
    have zas := aw.sz
    refine KL.nil (KQ.sr (KL.run 1 rfl (KL.ld rfl (cell_of b9x rfl) ?_)))
    refine KL.c rfl Tryd.call144 (next_any aw.bm aw.wm aw.lo.2 (xs.getD k default).op hxr.1 (by omega) (by omega)) ?_
    rintro _ H6 hR
    rcases hR with ⟨hno, rfl, o2⟩ | ⟨hno, rfl, o2⟩ | ⟨m2, vm2, hnx, rfl, hbm2, hwm, f2, nx2, hv2⟩
    · skip
      have o0 := o0.trans o2
      have b9x := (o2).blk b9x
      have aw := aw.old o2
      have hst : ∀ m2, Isp.nx m (xs.getD k default).op ≠ .go m2 := fun _ => by rw [hno]; simp
      refine KL.fin 5 rfl (KQ.seq (KC.seq (KC.sr (KL.fin 9 rfl (KQ.seq (KC.condT rfl (KC.sr (KL.fin 2 rfl (KQ.seq (KC.ret (KQ.retThen ?_)))))))))))
      refine KQ.retBlock (KQ.retThen (KQ.retThen (KQ.retBlock (KQ.retThen (KQ.ofRet (KQ.fin2 Tryd.results123 rfl rfl ?_))))))
      exact ⟨.inl ⟨fun h => absurd (h.1.symm.trans (Isp.walk_stop (k := k) (by omega) hw hst)) (by simp), rfl⟩, o0⟩
    · skip
      have o0 := o0.trans o2
      have b9x := (o2).blk b9x
      have aw := aw.old o2
      have hst : ∀ m2, Isp.nx m (xs.getD k default).op ≠ .go m2 := fun _ => by rw [hno]; simp
      refine KL.fin 5 rfl (KQ.seq (KC.seq (KC.sr (KL.fin 9 rfl (KQ.seq (KC.condT rfl (KC.sr (KL.fin 2 rfl (KQ.seq (KC.ret (KQ.retThen ?_)))))))))))
      refine KQ.retBlock (KQ.retThen (KQ.retThen (KQ.retBlock (KQ.retThen (KQ.ofRet (KQ.fin2 Tryd.results123 rfl rfl ?_))))))
      exact ⟨.inl ⟨fun h => absurd (h.1.symm.trans (Isp.walk_stop (k := k) (by omega) hw hst)) (by simp), rfl⟩, o0⟩
    have zf2 := f2.1
    have b9x := (f2.2 _ (blk_lt b9x) (by omega) (zasP.2.2.2.2.imp id (fun e => by omega))).trans b9x
    have aw := aw.next hbm2 hwm f2 nx2
    have o0 := o0.then (f2.oldB (B := Array.size H) (by omega) (by omega) (zas.2.2.2.2.imp id (fun e => by omega))) (Nat.le_refl _)
    have zas := aw.sz
    refine KL.fin 5 rfl (KQ.seq (KC.seq (KC.sr (KL.run 5 rfl (KL.lda rfl (cells_of b9x) rfl ?_)))))
    refine KL.c rfl Tryd.call145 (may_any hxr (by omega) (hcl0.old o0)) ?_
    rintro _ H7 ⟨⟨bM, rfl, hbM⟩, ox⟩
    have zc_H7 := (ox).1
    have o0 := o0.trans ox
    have aw := aw.old ox
    have b9x := (ox).blk b9x
    have zas := aw.sz
    refine KL.fin 2 rfl (KQ.seq ?_)
    refine KC.iq rfl ?_ ?_
    · intro hc34
      try dsimp only at hc34
      have hnM : ¬ Isp.May (xs.getD k default) := fun h => by have hq := hbM.2 h; rw [hc34] at hq; cases hq
      refine KC.sr (KL.fin 2 rfl (KQ.seq (KC.ret (KQ.retThen (KQ.retBlock (KQ.retThen (KQ.retThen (KQ.retBlock (KQ.retThen (KQ.ofRet (KQ.fin2 Tryd.results123 rfl rfl ?_)))))))))))
      exact ⟨.inl ⟨fun h => absurd h.2 (Isp.may_no (k := k) (by omega) hnM), rfl⟩, o0⟩
    intro hc34
    try dsimp only at hc34
    have hM : Isp.May (xs.getD k default) := hbM.1 (by simpa using hc34)
    refine KC.skip (KQ.r (KL.run 1 rfl (KL.lda rfl (cells_of b9x) rfl ?_)))
    refine KL.c rfl Tryd.call146 (put_any aw.wb (by omega) hxr (by omega) (by rw [List.length_append]; omega) (fun H2 kk => hcl0.old (o0.then kk (Nat.le_refl _))) hM) ?_
    rintro vp H8 ⟨wp, gq, nq⟩
    have obq := gq.oldB aw.wb (by omega)
    have aw := aw.put wp gq nq
    have zas := aw.sz
    have z_obq := obq.1
    have o0 := o0.then obq (by omega)
    refine KL.fin 1 rfl (KQ.normBlock (KQ.r ?_))
    refine KL.q ((R.add rfl rfl rfl (by dsimp only [InR]; omega)).val (congrArg (Value.int .i64) (show (k : Int) + 1 = ((k + 1 : Nat) : Int) by omega))) rfl ?_
    refine KL.fin 1 rfl ?_
    refine KQ.again ((k + 1, vp, vm2, m2)) ?_ ?_ ?_
    · exact Sub.all rfl
    · show xs.length - (k + 1) < xs.length - k; omega
    exact ⟨by show k + 1 ≤ _; omega, by dsimp only; rw [Isp.flat_step (by omega), ← List.append_assoc]; exact aw, Isp.walk_step (by omega) hw hnx, by
      dsimp only
      intro x hx
      rw [List.take_add_one, List.getElem?_eq_getElem (by omega)] at hx
      rcases List.mem_append.1 hx with hx | hx
      · exact hMs x hx
      simp only [Option.toList_some, List.mem_cons, List.not_mem_nil, or_false] at hx; subst hx
      have : xs.getD k default = xs[k] := by rw [List.getD_eq_getElem?_getD, List.getElem?_eq_getElem (by omega)]; rfl
      rw [← this]; exact hM, by omega, o0⟩
  intro hc17
  try dsimp only at hc17
  refine KC.exit (KQ.exitThen (KQ.exitThen (KQ.hit (KQ.seq (KC.seq (KC.sr ?_))))))
  refine KL.ld rfl (by exact cell_of aw.bm rfl) ?_
  refine KL.q (R.lenO rfl Tryd.underlying222 rfl aw.wm) rfl (KL.fin 1 rfl (KQ.seq ?_))
  refine KC.iq rfl ?_ ?_
  · intro hc41
    try dsimp only at hc41
    refine KC.sr (KL.fin 2 rfl (KQ.seq (KC.ret (KQ.retThen (KQ.ofRet (KQ.fin2 Tryd.results123 rfl rfl ?_))))))
    first
      | (have hkl : k = xs.length := by omega
         rw [hkl, List.take_length] at hw
         exact ⟨.inl ⟨fun h => by have e := h.1.symm.trans hw; injection e with e; subst e; simp at *, rfl⟩, o0⟩)
  intro hc41
  try dsimp only at hc41
  have wb := aw.wb
  refine KC.skip (KQ.sr (KL.run 1 rfl ?_))
  refine KL.m (M.lit rfl Tryd.underlying36 zs5 (by decide) rfl rfl rfl) rfl ?_
  rintro _ H9 ⟨rfl, n9⟩
  have z9 := n9.2.1
  have o0 := o0.trans n9.1
  have aw := aw.old n9.1
  have b9 := n9.2.2
  have wb := aw.wb
  have h11 : Sl 1 (EInt .u8) H9 _ [11] := Sl.lits (l := [11]) n9 rfl (by simp) (by decide)
  have lt10 := wb.lt
  refine KL.m (M.append rfl Tryd.underlying36 inf5 rfl (by decide) rfl rfl wb h11 (fun _ _ h _ => h) (by omega) (by simp only [List.length_append, List.length_cons, List.length_nil]; omega) (by unfold maxLen; simp only [List.length_append, List.length_cons, List.length_nil]; omega)) rfl ?_
  rintro vz H10 ⟨w10, g10⟩
  try dsimp only at g10
  have ob10 := g10.oldB wb (by omega)
  have o0 := o0.then ob10 (by omega)
  have z10 := ob10.1
  have wb := w10
  refine KL.fin 2 rfl (KQ.seq (KC.ret (KQ.ofRet (KQ.fin2 Tryd.results123 rfl rfl ?_))))
  first
    | (have hkl : k = xs.length := by omega
       rw [hkl, List.take_length] at hw hMs wb
       have hm0 : m = [] := List.eq_nil_of_length_eq_zero (by omega)
       subst hm0
       exact ⟨.inr ⟨⟨hw, hMs⟩, _, rfl, by rw [← List.append_assoc]; exact wb⟩, o0⟩)
end Go.Proofs.YtldmfchamcpmmaaDoor
namespace Go.Proofs.YtldmfchamcpmmaaDoor
open Go Go.RowKit
set_option linter.unusedVariables false
set_option linter.unusedSimpArgs false
namespace En
open Classical in
/-- has an expression bytes? -/
noncomputable def has (l : List Ins) : Bool := decide (Isp.Has l)
open Classical in
theorem has_yes {l : List Ins} (h : Isp.Has l) : has l = true := by unfold has; exact decide_eq_true h
open Classical in
theorem has_no {l : List Ins} (h : ¬ Isp.Has l) : has l = false := by unfold has; exact decide_eq_false h
noncomputable def exprB (l : List Ins) : List Int := if has l = true then Isp.flat l ++ [11] else []
noncomputable def gloB (g : Glo) : List Int := globB g.1 ++ exprB g.2
noncomputable def gloO (g : Glo) : Bool := globO g.1 && has g.2
noncomputable def elmB (x : Elm) : List Int := u x.1 ++ exprB x.2.1 ++ lst u x.2.2
noncomputable def elmO (x : Elm) : Bool := has x.2.1
noncomputable def codI (c : Cod) : List Int := lst locB c.1 ++ exprB c.2
noncomputable def codB (c : Cod) : List Int := u ((codI c).length : Nat) ++ codI c
noncomputable def codO (c : Cod) : Bool := c.1.all locO && has c.2 && decide (locS c.1 < 4294967296)
noncomputable def datB (x : Elm) : List Int := u x.1 ++ exprB x.2.1 ++ (u (x.2.2.length : Nat) ++ x.2.2)
noncomputable def datO (x : Elm) : Bool := has x.2.1
noncomputable def secs (m : Mo) : List Sec :=
  sec 1 typB m.types ++ sec 2 impB m.imports ++ sec 3 u m.funcs ++ sec 4 tabB m.tables ++ sec 5 limB m.mems ++ sec 6 gloB m.globs ++ sec 7 expB m.exports ++
  (if m.hasStart = true then [(8, u m.start)] else []) ++ sec 9 elmB m.elems ++ sec 10 codB m.codes ++ sec 11 datB m.datas
noncomputable def ok (m : Mo) : Bool :=
  decide (m.codes.length = m.funcs.length) && (m.hasStart || decide (m.start = 0)) && m.types.all typO && m.imports.all impO && m.tables.all limO && m.mems.all limO && m.globs.all gloO && m.exports.all expO && m.elems.all elmO && m.codes.all codO && m.datas.all datO
theorem n_le (sg : Bool) (z : Int) : (Isp.apN sg z).length ≤ 10 := by
  unfold Isp.apN uints
  rw [List.length_map]; exact apl sg 10 z
theorem bytes_le (x : Ins) : (Isp.bytes x).length ≤ 31 * (1 + x.l.length) := by
  have h1 := n_le false x.a
  have h2 := n_le false x.b
  have h3 := n_le true x.c
  have h4 := flatMap_le (f := Isp.apN false) (c := 10) (l := x.l) (fun y _ => n_le false y)
  have h5 := n_le false ((x.l.length : Nat) : Int)
  unfold Isp.bytes Isp.bodyE Isp.rest Isp.labsE
  dsimp only
  simp only [List.length_cons]
  repeat' split
  all_goals try simp only [List.length_append, List.length_cons, List.length_nil]
  all_goals omega
theorem flat_le (l : List Ins) : (Isp.flat l).length ≤ 31 * Isp.bulk l := by
  induction l with
  | nil => simp [Isp.flat, Isp.bulk]
  | cons x l ih =>
    have h1 := bytes_le x
    simp only [Isp.flat, Isp.bulk, List.flatMap_cons, List.map_cons, List.sum_cons, List.length_append] at *
    omega
theorem expr_le {l : List Ins} {c : Nat} (h : Isp.bulk l ≤ c) : (exprB l).length ≤ 31 * c + 1 := by
  have := flat_le l
  unfold exprB
  split
  · rw [List.length_append, List.length_singleton]; omega
  simp
/-- a module that is not great -/
structure Small (m : Mo) : Prop where
  n : m.types.length ≤ 4000 ∧ m.imports.length ≤ 4000 ∧ m.funcs.length ≤ 4000 ∧ m.tables.length ≤ 4000 ∧ m.mems.length ≤ 4000 ∧ m.globs.length ≤ 4000 ∧ m.exports.length ≤ 4000 ∧ m.elems.length ≤ 4000 ∧ m.codes.length ≤ 4000 ∧ m.datas.length ≤ 4000
  t : ∀ x ∈ m.types, x.1.length ≤ 4000 ∧ x.2.length ≤ 4000
  i : ∀ x ∈ m.imports, x.mod.size ≤ 4000 ∧ x.nam.size ≤ 4000
  e : ∀ x ∈ m.exports, x.nam.size ≤ 4000
  g : ∀ x ∈ m.globs, Isp.bulk x.2 ≤ 4000
  el : ∀ x ∈ m.elems, Isp.bulk x.2.1 ≤ 4000 ∧ x.2.2.length ≤ 4000
  c : ∀ x ∈ m.codes, Isp.bulk x.2 ≤ 4000 ∧ x.1.length ≤ 4000
  d : ∀ x ∈ m.datas, Isp.bulk x.2.1 ≤ 4000 ∧ x.2.2.length ≤ 200000
theorem glo_le {x : Glo} (h : Isp.bulk x.2 ≤ 4000) : (gloB x).length ≤ 1000000 := by
  have h1 := expr_le h
  have h2 := glob_le x.1
  unfold gloB; rw [List.length_append]; omega
theorem elm_le {x : Elm} (h : Isp.bulk x.2.1 ≤ 4000 ∧ x.2.2.length ≤ 4000) : (elmB x).length ≤ 1000000 := by
  have h1 := expr_le h.1
  have h2 := u_le x.1
  have h3 := lst_le (f := u) (c := 10) (l := x.2.2) (fun _ _ => u_le _)
  unfold elmB; simp only [List.length_append]; omega
theorem codI_le {x : Cod} (h : Isp.bulk x.2 ≤ 4000 ∧ x.1.length ≤ 4000) : (codI x).length ≤ 500000 := by
  have h1 := expr_le h.1
  have h3 := lst_le (f := locB) (c := 11) (l := x.1) (fun y _ => by have := u_le y.1; unfold locB; simp; omega)
  unfold codI; rw [List.length_append]; omega
theorem cod_le {x : Cod} (h : Isp.bulk x.2 ≤ 4000 ∧ x.1.length ≤ 4000) : (codB x).length ≤ 1000000 := by
  have h1 := codI_le h
  have h2 := u_le ((codI x).length : Nat)
  unfold codB; rw [List.length_append]; omega
theorem dat_le {x : Elm} (h : Isp.bulk x.2.1 ≤ 4000 ∧ x.2.2.length ≤ 200000) : (datB x).length ≤ 1000000 := by
  have h1 := expr_le h.1
  have h2 := u_le x.1
  have h3 := u_le (x.2.2.length : Nat)
  unfold datB; simp only [List.length_append]; omega
end En
end Go.Proofs.YtldmfchamcpmmaaDoor
namespace Go.Proofs.YtldmfchamcpmmaaDoor
open Go Go.RowKit
set_option linter.unusedVariables false
set_option linter.unusedSimpArgs false
set_option linter.unnecessarySimpa false
theorem wname_any {H : Heap} {g : Nat} {v : Value} {l : List Int} {bad : Bool} (wa : WA H g v l bad) {Hb : Heap} (oB : Old Hb H) (hgB : Hb.size ≤ g) (hT : TabU Hb) (s : ByteArray) (hz : s.size ≤ 100000) (hN : l.length + s.size + 10 ≤ 1099511627776) : Ct Tryd.prog 72 [.pointer (some ⟨g, 0, none⟩), .string s] H (fun _ H' => ∃ v', WA H' g v' (l ++ En.txt s) (bad || !Utf.valid (ints s)) ∧ WS g v H v' H') := by
  refine Ct.mk Tryd.func72 rfl Tryd.ntmps72 rfl ?_
  intro W0 hW0
  have o0 : OldB 0 H H := OldB.refl _ H
  have ws := WS.refl g v H
  have zg := wa.lt
  refine KC.sr (KL.run 2 rfl ?_)
  refine KL.m (M.toBytes rfl Tryd.underlying9 Tryd.underlying36 Tryd.underlying5 rfl (by omega)) rfl ?_
  rintro v1 H1 ⟨t1, e1, n1, z1⟩
  have o0 := o0.trans ((n1).b (by omega))
  have wa := wa.old n1
  have ws := ws.old n1
  have oB := oB.trans n1
  have s6 := t1
  refine KL.c rfl Tryd.call121 (nameValid_any _ _ s6 (hT.old oB)) ?_
  rintro _ H2 ⟨rfl, ox⟩
  have zc_H2 := (ox).1
  have o0 := o0.trans ((ox).b (by omega))
  have wa := wa.old ox
  have ws := ws.old ox
  have oB := oB.trans ox
  have s6 := s6.old ox
  refine KL.c rfl Tryd.call73 (wmay_any wa _) ?_
  rintro _ H3 ⟨wa_1, s_1⟩
  have oB := s_1.om wa oB hgB
  have zs_1 := s_1.sz
  have ws := ws.trans s_1
  have wa := wa_1
  have o0 := o0.trans s_1.ob0
  refine KL.nil (KQ.seq ?_)
  have bb := wa.b
  have ww := wa.w
  have zw := ww.lt
  have wsP := ws
  have zgg := wa.lt
  refine KC.text (clOf [(6, 2), (7, 2), (10, 2)]) (fun j Hc => j = 4 → Hc[g]? = some (.cells [v, .bool (bad || !Utf.valid (ints s))].toArray 137 (0, 0))) (by kernel_rfl) (by kernel_rfl) (fun _ _ => bb) ?_
  refine KP.run 4 rfl rfl ?_
  refine KP.op rfl (fun Hg hg => R.load rfl Tryd.underlying36 rfl rfl (cell_of (hg rfl) rfl)) rfl rfl rfl ?_
  refine KP.run 1 rfl rfl ?_
  refine KP.call rfl rfl rfl rfl rfl Tryd.call122 rfl rfl rfl (NAppend_any _ [] s (Sl.nil _ _ _) (by decide) (by omega)) (fun _ _ hR j _ _ _ => hR.2.blk bb) ?_
  rintro u H4 ⟨wu, ox⟩
  rw [List.nil_append] at wu
  have zc_H4 := (ox).1
  have o0 := o0.trans ((ox).b (by omega))
  have oB := oB.trans ox
  have bb := (ox).blk bb
  have ww := ww.old ox
  have su := wu.sl (emptyOld _) (by decide)
  have hu := En.u_le (s.size : Nat)
  unfold En.u at hu
  have oA := ox
  have hsz := ints_length s
  have lt5 := ww.lt
  refine KP.opM rfl (M.appendN rfl Tryd.underlying36 inf5 rfl (by decide) rfl rfl ww su (fun _ _ h _ => h) (by omega) (by simp only [List.length_append]; omega) (by unfold maxLen; simp only [List.length_append]; omega)) rfl rfl rfl (fun _ _ _ j _ hj2 hj => by subst hj; exact absurd (by decide +kernel) hj2) ?_
  rintro vn H5 ⟨w5, g5, nx5⟩
  try dsimp only at g5 nx5
  have ob5 := g5.oldB ww (by omega)
  have o0 := o0.trans (ob5.mono (by omega))
  have z5 := ob5.1
  have oB := oB.then ob5 (by omega)
  have bb := (g5.2 _ (blk_lt bb) (by exact ww.lt.imp id (fun h => by omega))).trans bb
  have ww := w5
  have gA := g5
  have nxA := nx5
  refine KP.run 2 rfl rfl ?_
  refine KP.opS rfl (S.store rfl sz36 rfl rfl ww.cells1 ww.one bb (by simp)) rfl rfl (fun _ _ j _ hj2 hj => by subst hj; exact absurd (by decide +kernel) hj2) ?_
  rintro H6 ⟨u6, b6⟩
  have o0 := o0.trans (OldB.upd u6 (by omega))
  have zu6 := u6.1
  have oB := oB.upd u6 (by omega)
  have ww := ww.upd u6 (by exact ww.lt.imp id (fun h => by omega))
  have bb := b6
  have ws : WS g v H vn H6 := wsP.trans ⟨((Fr.ofOld oA).grown (Nx.refl _ _) gA).upd u6, nxA.le (by omega)⟩
  refine KP.nil (KQ.fin0 Tryd.results72 ?_)
  exact ⟨_, ⟨bb, ww⟩, ws⟩
theorem wexpr_any {H : Heap} {g : Nat} {v : Value} {l : List Int} {bad : Bool} (wa : WA H g v l bad) {Hb : Heap} (oB : Old Hb H) (hgB : Hb.size ≤ g) {u : Value} {xs : List Ins} (hs : Sl 5 EIns Hb u xs) (hb : Isp.bulk xs ≤ 4000) (hN : l.length + 200000 ≤ 1099511627776) : Ct Tryd.prog 78 [.pointer (some ⟨g, 0, none⟩), u] H (fun _ H' => ∃ v', WA H' g v' (l ++ En.exprB xs) (bad || !En.has xs) ∧ WS g v H v' H') := by
  refine Ct.mk Tryd.func78 rfl Tryd.ntmps78 rfl ?_
  intro W0 hW0
  have o0 : OldB 0 H H := OldB.refl _ H
  have ws := WS.refl g v H
  have zg := wa.lt
  refine KC.sr (KL.run 1 rfl ?_)
  have wvE := wa.w.lt
  have zgE := wa.lt
  refine KL.c rfl Tryd.call123 (AppendExpr_any (Sl.nil _ _ _) (by decide) (hs.old oB) (by omega)) ?_
  rintro _ H1 ⟨hR, ox⟩
  have zc_H1 := (ox).1
  have o0 := o0.trans ((ox).b (by omega))
  have wa := wa.old ox
  have ws := ws.old ox
  have oB := oB.trans ox
  rcases hR with ⟨hno, rfl⟩ | ⟨hyes, c, rfl, wc⟩
  · skip
    have hh := En.has_no hno
    refine KL.fin 5 rfl (KQ.sr (KL.run 2 rfl (KL.e0 rfl (by decide) ?_)))
    refine KL.c rfl Tryd.call73 (wmay_any wa _) ?_
    rintro _ H2 ⟨wa_2, s_2⟩
    have oB := s_2.om wa oB hgB
    have zs_2 := s_2.sz
    have ws := ws.trans s_2
    have wa := wa_2
    have o0 := o0.trans s_2.ob0
    refine KL.nil (KQ.r (KL.run 2 rfl ?_))
    refine KL.c rfl Tryd.call68 (wbyte_any wa (Sl.nil (α := Int) 1 (EInt .u8) H2) (by simp; omega)) ?_
    rintro _ H3 ⟨v_3, wa_3, s_3⟩
    have oB := s_3.om wa oB hgB
    have zs_3 := s_3.sz
    have ws := ws.trans s_3
    have wa := wa_3
    have o0 := o0.trans s_3.ob0
    refine KL.nil (KQ.fin0 Tryd.results78 ?_)
    exact ⟨_, wa.cast (by unfold En.exprB; rw [hh]; simp) (by rw [hh]), ws⟩
  have hh := En.has_yes hyes
  rw [List.nil_append] at wc
  have hlc := En.flat_le xs
  have wcE := wc.lt
  refine KL.fin 5 rfl (KQ.sr (KL.run 2 rfl (KL.q ((R.eql rfl rfl rfl).val (congrArg Value.bool (decide_eq_true rfl))) rfl ?_)))
  refine KL.c rfl Tryd.call73 (wmay_any wa _) ?_
  rintro _ H4 ⟨wa_4, s_4⟩
  have wc := s_4.own wc (wcE.imp id (fun e => by omega)) (wcE.elim .inl (fun e => .inr (wvE.imp id (fun q => by omega))))
  have oB := s_4.om wa oB hgB
  have zs_4 := s_4.sz
  have ws := ws.trans s_4
  have wa := wa_4
  have o0 := o0.trans s_4.ob0
  have sc := wc.sl (emptyOld _) (by decide)
  refine KL.nil (KQ.r (KL.run 2 rfl ?_))
  refine KL.c rfl Tryd.call68 (wbyte_any wa sc (by rw [List.length_append, List.length_singleton]; omega)) ?_
  rintro _ H5 ⟨v_5, wa_5, s_5⟩
  have oB := s_5.om wa oB hgB
  have zs_5 := s_5.sz
  have ws := ws.trans s_5
  have wa := wa_5
  have o0 := o0.trans s_5.ob0
  refine KL.nil (KQ.fin0 Tryd.results78 ?_)
  exact ⟨_, wa.cast (by unfold En.exprB; rw [hh]; simp) (by rw [hh]), ws⟩
end Go.Proofs.YtldmfchamcpmmaaDoor
