/- The document of package opc: rows, and how one is found. No condition. -/
import Derived.Test.YtnjodpgahbpiaaaKText
import Derived.Test.YtnjodpgahbpiaaaKScope
import Derived.Test.YtnjodpgahbpiaaaKRow
import Derived.Test.YtnjodpgahbpiaaaOpcK
namespace Go.Proofs.Ytnjodpgahbpiaaa
open Go Go.RowKit
set_option linter.unusedVariables false
set_option linter.unusedSimpArgs false
set_option linter.unnecessarySimpa false
namespace Opc
def sv (l : List Int) : Value := .string (bstr l)
/-- a row of the document's table -/
structure Row where
  op : Int
  name : List Int
  form : Int
  sg : List Int
  width : Int
  deriving Inhabited
def Row.cells (x : Row) : List Value := [.int .u8 x.op, sv x.name, .int .u8 x.form, sv x.sg, .int .i64 x.width]
def Row.val (x : Row) : Value := .agg x.cells.toArray
def Row.zero : Row := ⟨0, [], 0, [], 0⟩
def low : List Row := [⟨0, [117, 110, 114, 101, 97, 99, 104, 97, 98, 108, 101], 0, [45], 0⟩, ⟨1, [110, 111, 112], 0, [45], 0⟩, ⟨2, [98, 108, 111, 99, 107], 1, [45], 0⟩, ⟨3, [108, 111, 111, 112], 1, [45], 0⟩, ⟨4, [105, 102], 1, [45], 0⟩, ⟨5, [101, 108, 115, 101], 0, [45], 0⟩, ⟨11, [101, 110, 100], 0, [45], 0⟩, ⟨12, [98, 114], 2, [45], 0⟩, ⟨13, [98, 114, 95, 105, 102], 2, [45], 0⟩, ⟨14, [98, 114, 95, 116, 97, 98, 108, 101], 3, [45], 0⟩, ⟨15, [114, 101, 116, 117, 114, 110], 0, [45], 0⟩, ⟨16, [99, 97, 108, 108], 4, [45], 0⟩, ⟨17, [99, 97, 108, 108, 95, 105, 110, 100, 105, 114, 101, 99, 116], 5, [45], 0⟩, ⟨26, [100, 114, 111, 112], 0, [45], 0⟩, ⟨27, [115, 101, 108, 101, 99, 116], 0, [45], 0⟩, ⟨32, [108, 111, 99, 97, 108, 46, 103, 101, 116], 4, [45], 0⟩, ⟨33, [108, 111, 99, 97, 108, 46, 115, 101, 116], 4, [45], 0⟩, ⟨34, [108, 111, 99, 97, 108, 46, 116, 101, 101], 4, [45], 0⟩, ⟨35, [103, 108, 111, 98, 97, 108, 46, 103, 101, 116], 4, [45], 0⟩, ⟨36, [103, 108, 111, 98, 97, 108, 46, 115, 101, 116], 4, [45], 0⟩, ⟨40, [105, 51, 50, 46, 108, 111, 97, 100], 6, [105, 62, 105], 4⟩, ⟨41, [105, 54, 52, 46, 108, 111, 97, 100], 6, [105, 62, 73], 8⟩, ⟨44, [105, 51, 50, 46, 108, 111, 97, 100, 56, 95, 115], 6, [105, 62, 105], 1⟩, ⟨45, [105, 51, 50, 46, 108, 111, 97, 100, 56, 95, 117], 6, [105, 62, 105], 1⟩, ⟨46, [105, 51, 50, 46, 108, 111, 97, 100, 49, 54, 95, 115], 6, [105, 62, 105], 2⟩, ⟨47, [105, 51, 50, 46, 108, 111, 97, 100, 49, 54, 95, 117], 6, [105, 62, 105], 2⟩, ⟨48, [105, 54, 52, 46, 108, 111, 97, 100, 56, 95, 115], 6, [105, 62, 73], 1⟩, ⟨49, [105, 54, 52, 46, 108, 111, 97, 100, 56, 95, 117], 6, [105, 62, 73], 1⟩, ⟨50, [105, 54, 52, 46, 108, 111, 97, 100, 49, 54, 95, 115], 6, [105, 62, 73], 2⟩, ⟨51, [105, 54, 52, 46, 108, 111, 97, 100, 49, 54, 95, 117], 6, [105, 62, 73], 2⟩, ⟨52, [105, 54, 52, 46, 108, 111, 97, 100, 51, 50, 95, 115], 6, [105, 62, 73], 4⟩, ⟨53, [105, 54, 52, 46, 108, 111, 97, 100, 51, 50, 95, 117], 6, [105, 62, 73], 4⟩, ⟨54, [105, 51, 50, 46, 115, 116, 111, 114, 101], 6, [105, 105, 62], 4⟩, ⟨55, [105, 54, 52, 46, 115, 116, 111, 114, 101], 6, [105, 73, 62], 8⟩, ⟨58, [105, 51, 50, 46, 115, 116, 111, 114, 101, 56], 6, [105, 105, 62], 1⟩, ⟨59, [105, 51, 50, 46, 115, 116, 111, 114, 101, 49, 54], 6, [105, 105, 62], 2⟩, ⟨60, [105, 54, 52, 46, 115, 116, 111, 114, 101, 56], 6, [105, 73, 62], 1⟩, ⟨61, [105, 54, 52, 46, 115, 116, 111, 114, 101, 49, 54], 6, [105, 73, 62], 2⟩, ⟨62, [105, 54, 52, 46, 115, 116, 111, 114, 101, 51, 50], 6, [105, 73, 62], 4⟩, ⟨63, [109, 101, 109, 111, 114, 121, 46, 115, 105, 122, 101], 7, [62, 105], 0⟩, ⟨64, [109, 101, 109, 111, 114, 121, 46, 103, 114, 111, 119], 7, [105, 62, 105], 0⟩, ⟨65, [105, 51, 50, 46, 99, 111, 110, 115, 116], 8, [62, 105], 0⟩, ⟨66, [105, 54, 52, 46, 99, 111, 110, 115, 116], 9, [62, 73], 0⟩]
def middle : List Row := [⟨69, [105, 51, 50, 46, 101, 113, 122], 0, [105, 62, 105], 0⟩, ⟨70, [105, 51, 50, 46, 101, 113], 0, [105, 105, 62, 105], 0⟩, ⟨71, [105, 51, 50, 46, 110, 101], 0, [105, 105, 62, 105], 0⟩, ⟨72, [105, 51, 50, 46, 108, 116, 95, 115], 0, [105, 105, 62, 105], 0⟩, ⟨73, [105, 51, 50, 46, 108, 116, 95, 117], 0, [105, 105, 62, 105], 0⟩, ⟨74, [105, 51, 50, 46, 103, 116, 95, 115], 0, [105, 105, 62, 105], 0⟩, ⟨75, [105, 51, 50, 46, 103, 116, 95, 117], 0, [105, 105, 62, 105], 0⟩, ⟨76, [105, 51, 50, 46, 108, 101, 95, 115], 0, [105, 105, 62, 105], 0⟩, ⟨77, [105, 51, 50, 46, 108, 101, 95, 117], 0, [105, 105, 62, 105], 0⟩, ⟨78, [105, 51, 50, 46, 103, 101, 95, 115], 0, [105, 105, 62, 105], 0⟩, ⟨79, [105, 51, 50, 46, 103, 101, 95, 117], 0, [105, 105, 62, 105], 0⟩, ⟨80, [105, 54, 52, 46, 101, 113, 122], 0, [73, 62, 105], 0⟩, ⟨81, [105, 54, 52, 46, 101, 113], 0, [73, 73, 62, 105], 0⟩, ⟨82, [105, 54, 52, 46, 110, 101], 0, [73, 73, 62, 105], 0⟩, ⟨83, [105, 54, 52, 46, 108, 116, 95, 115], 0, [73, 73, 62, 105], 0⟩, ⟨84, [105, 54, 52, 46, 108, 116, 95, 117], 0, [73, 73, 62, 105], 0⟩, ⟨85, [105, 54, 52, 46, 103, 116, 95, 115], 0, [73, 73, 62, 105], 0⟩, ⟨86, [105, 54, 52, 46, 103, 116, 95, 117], 0, [73, 73, 62, 105], 0⟩, ⟨87, [105, 54, 52, 46, 108, 101, 95, 115], 0, [73, 73, 62, 105], 0⟩, ⟨88, [105, 54, 52, 46, 108, 101, 95, 117], 0, [73, 73, 62, 105], 0⟩, ⟨89, [105, 54, 52, 46, 103, 101, 95, 115], 0, [73, 73, 62, 105], 0⟩, ⟨90, [105, 54, 52, 46, 103, 101, 95, 117], 0, [73, 73, 62, 105], 0⟩, ⟨103, [105, 51, 50, 46, 99, 108, 122], 0, [105, 62, 105], 0⟩, ⟨104, [105, 51, 50, 46, 99, 116, 122], 0, [105, 62, 105], 0⟩, ⟨105, [105, 51, 50, 46, 112, 111, 112, 99, 110, 116], 0, [105, 62, 105], 0⟩, ⟨106, [105, 51, 50, 46, 97, 100, 100], 0, [105, 105, 62, 105], 0⟩, ⟨107, [105, 51, 50, 46, 115, 117, 98], 0, [105, 105, 62, 105], 0⟩, ⟨108, [105, 51, 50, 46, 109, 117, 108], 0, [105, 105, 62, 105], 0⟩, ⟨109, [105, 51, 50, 46, 100, 105, 118, 95, 115], 0, [105, 105, 62, 105], 0⟩, ⟨110, [105, 51, 50, 46, 100, 105, 118, 95, 117], 0, [105, 105, 62, 105], 0⟩, ⟨111, [105, 51, 50, 46, 114, 101, 109, 95, 115], 0, [105, 105, 62, 105], 0⟩, ⟨112, [105, 51, 50, 46, 114, 101, 109, 95, 117], 0, [105, 105, 62, 105], 0⟩, ⟨113, [105, 51, 50, 46, 97, 110, 100], 0, [105, 105, 62, 105], 0⟩, ⟨114, [105, 51, 50, 46, 111, 114], 0, [105, 105, 62, 105], 0⟩, ⟨115, [105, 51, 50, 46, 120, 111, 114], 0, [105, 105, 62, 105], 0⟩, ⟨116, [105, 51, 50, 46, 115, 104, 108], 0, [105, 105, 62, 105], 0⟩, ⟨117, [105, 51, 50, 46, 115, 104, 114, 95, 115], 0, [105, 105, 62, 105], 0⟩, ⟨118, [105, 51, 50, 46, 115, 104, 114, 95, 117], 0, [105, 105, 62, 105], 0⟩, ⟨119, [105, 51, 50, 46, 114, 111, 116, 108], 0, [105, 105, 62, 105], 0⟩, ⟨120, [105, 51, 50, 46, 114, 111, 116, 114], 0, [105, 105, 62, 105], 0⟩]
def high : List Row := [⟨121, [105, 54, 52, 46, 99, 108, 122], 0, [73, 62, 73], 0⟩, ⟨122, [105, 54, 52, 46, 99, 116, 122], 0, [73, 62, 73], 0⟩, ⟨123, [105, 54, 52, 46, 112, 111, 112, 99, 110, 116], 0, [73, 62, 73], 0⟩, ⟨124, [105, 54, 52, 46, 97, 100, 100], 0, [73, 73, 62, 73], 0⟩, ⟨125, [105, 54, 52, 46, 115, 117, 98], 0, [73, 73, 62, 73], 0⟩, ⟨126, [105, 54, 52, 46, 109, 117, 108], 0, [73, 73, 62, 73], 0⟩, ⟨127, [105, 54, 52, 46, 100, 105, 118, 95, 115], 0, [73, 73, 62, 73], 0⟩, ⟨128, [105, 54, 52, 46, 100, 105, 118, 95, 117], 0, [73, 73, 62, 73], 0⟩, ⟨129, [105, 54, 52, 46, 114, 101, 109, 95, 115], 0, [73, 73, 62, 73], 0⟩, ⟨130, [105, 54, 52, 46, 114, 101, 109, 95, 117], 0, [73, 73, 62, 73], 0⟩, ⟨131, [105, 54, 52, 46, 97, 110, 100], 0, [73, 73, 62, 73], 0⟩, ⟨132, [105, 54, 52, 46, 111, 114], 0, [73, 73, 62, 73], 0⟩, ⟨133, [105, 54, 52, 46, 120, 111, 114], 0, [73, 73, 62, 73], 0⟩, ⟨134, [105, 54, 52, 46, 115, 104, 108], 0, [73, 73, 62, 73], 0⟩, ⟨135, [105, 54, 52, 46, 115, 104, 114, 95, 115], 0, [73, 73, 62, 73], 0⟩, ⟨136, [105, 54, 52, 46, 115, 104, 114, 95, 117], 0, [73, 73, 62, 73], 0⟩, ⟨137, [105, 54, 52, 46, 114, 111, 116, 108], 0, [73, 73, 62, 73], 0⟩, ⟨138, [105, 54, 52, 46, 114, 111, 116, 114], 0, [73, 73, 62, 73], 0⟩, ⟨167, [105, 51, 50, 46, 119, 114, 97, 112, 95, 105, 54, 52], 0, [73, 62, 105], 0⟩, ⟨172, [105, 54, 52, 46, 101, 120, 116, 101, 110, 100, 95, 105, 51, 50, 95, 115], 0, [105, 62, 73], 0⟩, ⟨173, [105, 54, 52, 46, 101, 120, 116, 101, 110, 100, 95, 105, 51, 50, 95, 117], 0, [105, 62, 73], 0⟩]
def rows : List Row := low ++ middle ++ high
def part (op : Int) : List Row := if op < 69 then low else if op < 121 then middle else high
def rfind (op : Int) : Option Row := (part op).find? fun r => decide (r.op = op)
def named (n : List Int) : Option Row := rows.find? fun r => decide (r.name = n)
def floats : List Int := [42, 43, 56, 57, 67, 68, 91, 102, 139, 166, 168, 171, 174, 191]
def rfloat (op : Int) : Bool := (List.range 7).any fun j => decide (floats.getD (2 * j) default ≤ op) && decide (op ≤ floats.getD (2 * j + 1) default)
def tys (s : List Int) : List Int := s.map fun c => if c = 105 then 127 else 126
def arrow (s : List Int) : Nat := s.findIdx fun c => decide (c = 62)
def rsig (op : Int) : List Int × List Int × Bool := match rfind op with
  | none => ([], [], false)
  | some r => if r.sg = [45] then ([], [], false) else (tys (r.sg.take (arrow r.sg)), tys (r.sg.drop (arrow r.sg + 1)), true)
theorem find_at {α : Type} [Inhabited α] {l : List α} {p : α → Bool} {k : Nat} (hk : k < l.length) (h : p (l.getD k default) = true) (hno : ∀ j, j < k → p (l.getD j default) = false) : l.find? p = some (l.getD k default) := by
  rw [List.find?_eq_some_iff_getElem]
  have e : ∀ j, (hj : j < l.length) → l.getD j default = l[j] := fun j hj => by rw [List.getD_eq_getElem?_getD, List.getElem?_eq_getElem hj]; rfl
  refine ⟨h, k, hk, (e k hk).symm, fun j hj => ?_⟩
  have := hno j hj
  rw [e j (by omega)] at this
  rw [this]; rfl
theorem find_no {α : Type} [Inhabited α] {l : List α} {p : α → Bool} (hno : ∀ j, j < l.length → p (l.getD j default) = false) : l.find? p = none := by
  rw [List.find?_eq_none]
  intro x hx
  obtain ⟨j, hj, rfl⟩ := List.getElem_of_mem hx
  have := hno j hj
  rw [List.getD_eq_getElem?_getD, List.getElem?_eq_getElem hj] at this
  simp only [Option.getD_some] at this
  simp [this]
theorem rows_range : ∀ r ∈ rows, (∀ x ∈ r.name, InR .u8 x) ∧ (∀ x ∈ r.sg, InR .u8 x) ∧ InR .u8 r.op ∧ r.name.length ≤ 40 ∧ r.sg.length ≤ 40 ∧ (r.sg = [45] ∨ 62 ∈ r.sg) := by decide +kernel
theorem part_sub (op : Int) : ∀ r ∈ part op, r ∈ rows := by
  intro r hr
  unfold part at hr
  unfold rows
  split at hr
  · simp [hr]
  · split at hr <;> simp [hr]
theorem rows_get {l : List Row} (hl : ∀ r ∈ l, r ∈ rows) {k : Nat} (hk : k < l.length) : l.getD k default ∈ rows := by
  rw [List.getD_eq_getElem?_getD, List.getElem?_eq_getElem hk]
  exact hl _ (List.getElem_mem hk)
theorem arrow_at {s : List Int} {k : Nat} (hk : k < s.length) (h : s.getD k default = 62) (hno : ∀ j, j < k → s.getD j default ≠ 62) : arrow s = k := by
  unfold arrow
  rw [List.findIdx_eq (by exact hk)]
  have e : ∀ j, (hj : j < s.length) → s.getD j default = s[j] := fun j hj => by rw [List.getD_eq_getElem?_getD, List.getElem?_eq_getElem hj]; rfl
  refine ⟨by rw [← e k hk]; simpa using h, fun j hj => ?_⟩
  have := hno j hj
  rw [e j (by omega)] at this
  simpa using this
theorem arrow_lt {s : List Int} {k : Nat} (h : (62 : Int) ∈ s) (hno : ∀ j, j < k → s.getD j default ≠ 62) : k < s.length := by
  obtain ⟨j, hj, e⟩ := List.getElem_of_mem h
  by_cases hk : k < s.length
  · exact hk
  · exact absurd (by rw [List.getD_eq_getElem?_getD, List.getElem?_eq_getElem hj]; exact e) (hno j (by omega))
theorem tys_step {s : List Int} {k : Nat} (hk : k < s.length) : tys (s.take (k + 1)) = tys (s.take k) ++ [if s.getD k default = 105 then 127 else 126] := by
  unfold tys
  rw [List.take_add_one, List.getElem?_eq_getElem hk, List.map_append, List.getD_eq_getElem?_getD, List.getElem?_eq_getElem hk]
  rfl
theorem rfloat_yes {op : Int} {k : Nat} (hk : k < 7) (h1 : floats.getD (2 * k) default ≤ op) (h2 : op ≤ floats.getD (2 * k + 1) default) : rfloat op = true := by
  unfold rfloat
  rw [List.any_eq_true]
  exact ⟨k, List.mem_range.2 hk, by simp only [Bool.and_eq_true, decide_eq_true_eq]; exact ⟨h1, h2⟩⟩
theorem rfloat_no {op : Int} (hno : ∀ j, j < 7 → ¬ (floats.getD (2 * j) default ≤ op ∧ op ≤ floats.getD (2 * j + 1) default)) : rfloat op = false := by
  unfold rfloat
  rw [List.any_eq_false]
  intro j hj
  have := hno j (List.mem_range.1 hj)
  simpa using this
end Opc
def ERow : El Opc.Row := fun _ cs x => cs = x.cells
instance keepsRow : Keeps ERow := ⟨fun _ h => h⟩
instance oneRow : One ERow := ⟨fun h u hu => by
  have h : _ = Opc.Row.cells _ := h
  subst h
  simp only [Opc.Row.cells, List.mem_cons, List.not_mem_nil, or_false] at hu
  rcases hu with rfl | rfl | rfl | rfl | rfl <;> rfl⟩
theorem flatV_at {α : Type} {f : α → List Value} {n : Nat} (hf : ∀ x, (f x).length = n) : ∀ (l : List α) (j : Nat) (x : α), nth l j = some x → ((flatV (l.map fun x => .agg (f x).toArray)).drop (j * n)).take n = f x := by
  intro l
  induction l with
  | nil => intro j x h; cases h
  | cons y l ih =>
    intro j x h
    simp only [List.map_cons, flatV, Value.cells]
    cases j with
    | zero =>
      injection h with h
      subst h
      simp only [Nat.zero_mul, List.drop_zero]
      rw [List.take_append_of_le_length (by simp [hf]), List.take_of_length_le (by simp [hf])]
    | succ j =>
      rw [show (j + 1) * n = (f y).length + j * n by rw [hf, Nat.add_mul]; omega, ← List.drop_drop]
      have : ((f y).toArray.toList ++ flatV (l.map fun x => .agg (f x).toArray)).drop (f y).length = flatV (l.map fun x => .agg (f x).toArray) := by simp
      rw [this]
      exact ih j x h
theorem flatV_row_length (l : List Opc.Row) : (flatV (l.map fun x => .agg x.cells.toArray)).length = l.length * 5 := by
  induction l with
  | nil => rfl
  | cons x l ih => simp only [List.map_cons, flatV, List.length_append, ih, Value.cells, List.length_cons]; simp [Opc.Row.cells]; omega
theorem rows_lit {H H' : Heap} {cs : List Value} {e : TypeId} {m : Nat} (l : List Opc.Row) (hn : New H cs e H') (hc : cs = flatV (l.map fun x => .agg x.cells.toArray)) (hm : m = l.length) (hmx : m ≤ 1000) : Own 5 ERow e H H.size H' (.slice (some ⟨H.size, 0, none⟩) m m) l := by
  subst hc
  exact Own.litN hn (Nat.le_refl _) hm (by unfold maxLen; omega) (flatV_row_length l) fun j x hj => flatV_at (f := Opc.Row.cells) (fun _ => rfl) l j x hj
theorem Sl.rowAt {H : Heap} {v : Value} {l : List Opc.Row} (h : Sl 5 ERow H v l) (j : Nat) (hj : j < l.length) : CellsH H ((vbase v).add (j * 5)) (l.getD j default).cells := by
  obtain ⟨cs, _, hc, e⟩ := h.at j hj
  have e : cs = Opc.Row.cells _ := e
  rw [← e]; exact hc


namespace Opc
theorem all_ops {p : Int → Prop} (h : ∀ n, n < 256 → p ((n : Nat) : Int)) {op : Int} (r : InR .u8 op) : p op := by
  have := h op.toNat (by dsimp only [InR] at r; omega)
  rwa [Int.toNat_of_nonneg (by dsimp only [InR] at r; omega)] at this
theorem tabF {op : Int} (r : InR .u8 op) : known op = (rfind op).isSome ∧ form op = ((rfind op).getD Row.zero).form :=
  all_ops (p := fun op => known op = (rfind op).isSome ∧ form op = ((rfind op).getD Row.zero).form) (by decide +kernel) r
end Opc

set_option maxRecDepth 100000 in
set_option maxHeartbeats 4000000 in
theorem low_any {H : Heap} : Ct Try.prog 35 [] H (fun u H' => Own 5 ERow 58 H H.size H' u Opc.low ∧ Old H H') := by
  refine Ct.mk Try.func35 rfl Try.ntmps35 rfl ?_
  intro W0 hW0
  have o0 : Old H H := Old.refl H
  refine KC.seq ?_
  refine KC.region ?_
  refine KL.op (R.assign rfl rfl) rfl rfl rfl ?_
  refine KL.nil ?_
  refine KQ.seq ?_
  refine KC.seq ?_
  refine KC.region ?_
  refine KL.op (R.buildL rfl Try.underlying58 zr58 [(0, 1), (1, 1), (2, 1), (3, 1), (4, 1)] (fun w => by kernel_rfl) rfl ⟨⟨_, rfl, rfl⟩, ⟨_, rfl, rfl⟩, ⟨_, rfl, rfl⟩, ⟨_, rfl, rfl⟩, ⟨_, rfl, rfl⟩, trivial⟩ rfl rfl ⟨⟨_, rfl, by first | rfl⟩, ⟨_, rfl, by first | rfl⟩, ⟨_, rfl, by first | rfl⟩, ⟨_, rfl, by first | rfl⟩, ⟨_, rfl, by first | rfl⟩, trivial⟩ rfl) rfl rfl rfl ?_
  refine KL.op (R.buildL rfl Try.underlying58 zr58 [(0, 1), (1, 1), (2, 1), (3, 1), (4, 1)] (fun w => by kernel_rfl) rfl ⟨⟨_, rfl, rfl⟩, ⟨_, rfl, rfl⟩, ⟨_, rfl, rfl⟩, ⟨_, rfl, rfl⟩, ⟨_, rfl, rfl⟩, trivial⟩ rfl rfl ⟨⟨_, rfl, by first | rfl⟩, ⟨_, rfl, by first | rfl⟩, ⟨_, rfl, by first | rfl⟩, ⟨_, rfl, by first | rfl⟩, ⟨_, rfl, by first | rfl⟩, trivial⟩ rfl) rfl rfl rfl ?_
  refine KL.op (R.buildL rfl Try.underlying58 zr58 [(0, 1), (1, 1), (2, 1), (3, 1), (4, 1)] (fun w => by kernel_rfl) rfl ⟨⟨_, rfl, rfl⟩, ⟨_, rfl, rfl⟩, ⟨_, rfl, rfl⟩, ⟨_, rfl, rfl⟩, ⟨_, rfl, rfl⟩, trivial⟩ rfl rfl ⟨⟨_, rfl, by first | rfl⟩, ⟨_, rfl, by first | rfl⟩, ⟨_, rfl, by first | rfl⟩, ⟨_, rfl, by first | rfl⟩, ⟨_, rfl, by first | rfl⟩, trivial⟩ rfl) rfl rfl rfl ?_
  refine KL.op (R.buildL rfl Try.underlying58 zr58 [(0, 1), (1, 1), (2, 1), (3, 1), (4, 1)] (fun w => by kernel_rfl) rfl ⟨⟨_, rfl, rfl⟩, ⟨_, rfl, rfl⟩, ⟨_, rfl, rfl⟩, ⟨_, rfl, rfl⟩, ⟨_, rfl, rfl⟩, trivial⟩ rfl rfl ⟨⟨_, rfl, by first | rfl⟩, ⟨_, rfl, by first | rfl⟩, ⟨_, rfl, by first | rfl⟩, ⟨_, rfl, by first | rfl⟩, ⟨_, rfl, by first | rfl⟩, trivial⟩ rfl) rfl rfl rfl ?_
  refine KL.op (R.buildL rfl Try.underlying58 zr58 [(0, 1), (1, 1), (2, 1), (3, 1), (4, 1)] (fun w => by kernel_rfl) rfl ⟨⟨_, rfl, rfl⟩, ⟨_, rfl, rfl⟩, ⟨_, rfl, rfl⟩, ⟨_, rfl, rfl⟩, ⟨_, rfl, rfl⟩, trivial⟩ rfl rfl ⟨⟨_, rfl, by first | rfl⟩, ⟨_, rfl, by first | rfl⟩, ⟨_, rfl, by first | rfl⟩, ⟨_, rfl, by first | rfl⟩, ⟨_, rfl, by first | rfl⟩, trivial⟩ rfl) rfl rfl rfl ?_
  refine KL.op (R.buildL rfl Try.underlying58 zr58 [(0, 1), (1, 1), (2, 1), (3, 1), (4, 1)] (fun w => by kernel_rfl) rfl ⟨⟨_, rfl, rfl⟩, ⟨_, rfl, rfl⟩, ⟨_, rfl, rfl⟩, ⟨_, rfl, rfl⟩, ⟨_, rfl, rfl⟩, trivial⟩ rfl rfl ⟨⟨_, rfl, by first | rfl⟩, ⟨_, rfl, by first | rfl⟩, ⟨_, rfl, by first | rfl⟩, ⟨_, rfl, by first | rfl⟩, ⟨_, rfl, by first | rfl⟩, trivial⟩ rfl) rfl rfl rfl ?_
  refine KL.op (R.buildL rfl Try.underlying58 zr58 [(0, 1), (1, 1), (2, 1), (3, 1), (4, 1)] (fun w => by kernel_rfl) rfl ⟨⟨_, rfl, rfl⟩, ⟨_, rfl, rfl⟩, ⟨_, rfl, rfl⟩, ⟨_, rfl, rfl⟩, ⟨_, rfl, rfl⟩, trivial⟩ rfl rfl ⟨⟨_, rfl, by first | rfl⟩, ⟨_, rfl, by first | rfl⟩, ⟨_, rfl, by first | rfl⟩, ⟨_, rfl, by first | rfl⟩, ⟨_, rfl, by first | rfl⟩, trivial⟩ rfl) rfl rfl rfl ?_
  refine KL.op (R.buildL rfl Try.underlying58 zr58 [(0, 1), (1, 1), (2, 1), (3, 1), (4, 1)] (fun w => by kernel_rfl) rfl ⟨⟨_, rfl, rfl⟩, ⟨_, rfl, rfl⟩, ⟨_, rfl, rfl⟩, ⟨_, rfl, rfl⟩, ⟨_, rfl, rfl⟩, trivial⟩ rfl rfl ⟨⟨_, rfl, by first | rfl⟩, ⟨_, rfl, by first | rfl⟩, ⟨_, rfl, by first | rfl⟩, ⟨_, rfl, by first | rfl⟩, ⟨_, rfl, by first | rfl⟩, trivial⟩ rfl) rfl rfl rfl ?_
  refine KL.op (R.buildL rfl Try.underlying58 zr58 [(0, 1), (1, 1), (2, 1), (3, 1), (4, 1)] (fun w => by kernel_rfl) rfl ⟨⟨_, rfl, rfl⟩, ⟨_, rfl, rfl⟩, ⟨_, rfl, rfl⟩, ⟨_, rfl, rfl⟩, ⟨_, rfl, rfl⟩, trivial⟩ rfl rfl ⟨⟨_, rfl, by first | rfl⟩, ⟨_, rfl, by first | rfl⟩, ⟨_, rfl, by first | rfl⟩, ⟨_, rfl, by first | rfl⟩, ⟨_, rfl, by first | rfl⟩, trivial⟩ rfl) rfl rfl rfl ?_
  refine KL.op (R.buildL rfl Try.underlying58 zr58 [(0, 1), (1, 1), (2, 1), (3, 1), (4, 1)] (fun w => by kernel_rfl) rfl ⟨⟨_, rfl, rfl⟩, ⟨_, rfl, rfl⟩, ⟨_, rfl, rfl⟩, ⟨_, rfl, rfl⟩, ⟨_, rfl, rfl⟩, trivial⟩ rfl rfl ⟨⟨_, rfl, by first | rfl⟩, ⟨_, rfl, by first | rfl⟩, ⟨_, rfl, by first | rfl⟩, ⟨_, rfl, by first | rfl⟩, ⟨_, rfl, by first | rfl⟩, trivial⟩ rfl) rfl rfl rfl ?_
  refine KL.op (R.buildL rfl Try.underlying58 zr58 [(0, 1), (1, 1), (2, 1), (3, 1), (4, 1)] (fun w => by kernel_rfl) rfl ⟨⟨_, rfl, rfl⟩, ⟨_, rfl, rfl⟩, ⟨_, rfl, rfl⟩, ⟨_, rfl, rfl⟩, ⟨_, rfl, rfl⟩, trivial⟩ rfl rfl ⟨⟨_, rfl, by first | rfl⟩, ⟨_, rfl, by first | rfl⟩, ⟨_, rfl, by first | rfl⟩, ⟨_, rfl, by first | rfl⟩, ⟨_, rfl, by first | rfl⟩, trivial⟩ rfl) rfl rfl rfl ?_
  refine KL.op (R.buildL rfl Try.underlying58 zr58 [(0, 1), (1, 1), (2, 1), (3, 1), (4, 1)] (fun w => by kernel_rfl) rfl ⟨⟨_, rfl, rfl⟩, ⟨_, rfl, rfl⟩, ⟨_, rfl, rfl⟩, ⟨_, rfl, rfl⟩, ⟨_, rfl, rfl⟩, trivial⟩ rfl rfl ⟨⟨_, rfl, by first | rfl⟩, ⟨_, rfl, by first | rfl⟩, ⟨_, rfl, by first | rfl⟩, ⟨_, rfl, by first | rfl⟩, ⟨_, rfl, by first | rfl⟩, trivial⟩ rfl) rfl rfl rfl ?_
  refine KL.op (R.buildL rfl Try.underlying58 zr58 [(0, 1), (1, 1), (2, 1), (3, 1), (4, 1)] (fun w => by kernel_rfl) rfl ⟨⟨_, rfl, rfl⟩, ⟨_, rfl, rfl⟩, ⟨_, rfl, rfl⟩, ⟨_, rfl, rfl⟩, ⟨_, rfl, rfl⟩, trivial⟩ rfl rfl ⟨⟨_, rfl, by first | rfl⟩, ⟨_, rfl, by first | rfl⟩, ⟨_, rfl, by first | rfl⟩, ⟨_, rfl, by first | rfl⟩, ⟨_, rfl, by first | rfl⟩, trivial⟩ rfl) rfl rfl rfl ?_
  refine KL.op (R.buildL rfl Try.underlying58 zr58 [(0, 1), (1, 1), (2, 1), (3, 1), (4, 1)] (fun w => by kernel_rfl) rfl ⟨⟨_, rfl, rfl⟩, ⟨_, rfl, rfl⟩, ⟨_, rfl, rfl⟩, ⟨_, rfl, rfl⟩, ⟨_, rfl, rfl⟩, trivial⟩ rfl rfl ⟨⟨_, rfl, by first | rfl⟩, ⟨_, rfl, by first | rfl⟩, ⟨_, rfl, by first | rfl⟩, ⟨_, rfl, by first | rfl⟩, ⟨_, rfl, by first | rfl⟩, trivial⟩ rfl) rfl rfl rfl ?_
  refine KL.op (R.buildL rfl Try.underlying58 zr58 [(0, 1), (1, 1), (2, 1), (3, 1), (4, 1)] (fun w => by kernel_rfl) rfl ⟨⟨_, rfl, rfl⟩, ⟨_, rfl, rfl⟩, ⟨_, rfl, rfl⟩, ⟨_, rfl, rfl⟩, ⟨_, rfl, rfl⟩, trivial⟩ rfl rfl ⟨⟨_, rfl, by first | rfl⟩, ⟨_, rfl, by first | rfl⟩, ⟨_, rfl, by first | rfl⟩, ⟨_, rfl, by first | rfl⟩, ⟨_, rfl, by first | rfl⟩, trivial⟩ rfl) rfl rfl rfl ?_
  refine KL.op (R.buildL rfl Try.underlying58 zr58 [(0, 1), (1, 1), (2, 1), (3, 1), (4, 1)] (fun w => by kernel_rfl) rfl ⟨⟨_, rfl, rfl⟩, ⟨_, rfl, rfl⟩, ⟨_, rfl, rfl⟩, ⟨_, rfl, rfl⟩, ⟨_, rfl, rfl⟩, trivial⟩ rfl rfl ⟨⟨_, rfl, by first | rfl⟩, ⟨_, rfl, by first | rfl⟩, ⟨_, rfl, by first | rfl⟩, ⟨_, rfl, by first | rfl⟩, ⟨_, rfl, by first | rfl⟩, trivial⟩ rfl) rfl rfl rfl ?_
  refine KL.op (R.buildL rfl Try.underlying58 zr58 [(0, 1), (1, 1), (2, 1), (3, 1), (4, 1)] (fun w => by kernel_rfl) rfl ⟨⟨_, rfl, rfl⟩, ⟨_, rfl, rfl⟩, ⟨_, rfl, rfl⟩, ⟨_, rfl, rfl⟩, ⟨_, rfl, rfl⟩, trivial⟩ rfl rfl ⟨⟨_, rfl, by first | rfl⟩, ⟨_, rfl, by first | rfl⟩, ⟨_, rfl, by first | rfl⟩, ⟨_, rfl, by first | rfl⟩, ⟨_, rfl, by first | rfl⟩, trivial⟩ rfl) rfl rfl rfl ?_
  refine KL.op (R.buildL rfl Try.underlying58 zr58 [(0, 1), (1, 1), (2, 1), (3, 1), (4, 1)] (fun w => by kernel_rfl) rfl ⟨⟨_, rfl, rfl⟩, ⟨_, rfl, rfl⟩, ⟨_, rfl, rfl⟩, ⟨_, rfl, rfl⟩, ⟨_, rfl, rfl⟩, trivial⟩ rfl rfl ⟨⟨_, rfl, by first | rfl⟩, ⟨_, rfl, by first | rfl⟩, ⟨_, rfl, by first | rfl⟩, ⟨_, rfl, by first | rfl⟩, ⟨_, rfl, by first | rfl⟩, trivial⟩ rfl) rfl rfl rfl ?_
  refine KL.op (R.buildL rfl Try.underlying58 zr58 [(0, 1), (1, 1), (2, 1), (3, 1), (4, 1)] (fun w => by kernel_rfl) rfl ⟨⟨_, rfl, rfl⟩, ⟨_, rfl, rfl⟩, ⟨_, rfl, rfl⟩, ⟨_, rfl, rfl⟩, ⟨_, rfl, rfl⟩, trivial⟩ rfl rfl ⟨⟨_, rfl, by first | rfl⟩, ⟨_, rfl, by first | rfl⟩, ⟨_, rfl, by first | rfl⟩, ⟨_, rfl, by first | rfl⟩, ⟨_, rfl, by first | rfl⟩, trivial⟩ rfl) rfl rfl rfl ?_
  refine KL.op (R.buildL rfl Try.underlying58 zr58 [(0, 1), (1, 1), (2, 1), (3, 1), (4, 1)] (fun w => by kernel_rfl) rfl ⟨⟨_, rfl, rfl⟩, ⟨_, rfl, rfl⟩, ⟨_, rfl, rfl⟩, ⟨_, rfl, rfl⟩, ⟨_, rfl, rfl⟩, trivial⟩ rfl rfl ⟨⟨_, rfl, by first | rfl⟩, ⟨_, rfl, by first | rfl⟩, ⟨_, rfl, by first | rfl⟩, ⟨_, rfl, by first | rfl⟩, ⟨_, rfl, by first | rfl⟩, trivial⟩ rfl) rfl rfl rfl ?_
  refine KL.op (R.buildL rfl Try.underlying58 zr58 [(0, 1), (1, 1), (2, 1), (3, 1), (4, 1)] (fun w => by kernel_rfl) rfl ⟨⟨_, rfl, rfl⟩, ⟨_, rfl, rfl⟩, ⟨_, rfl, rfl⟩, ⟨_, rfl, rfl⟩, ⟨_, rfl, rfl⟩, trivial⟩ rfl rfl ⟨⟨_, rfl, by first | rfl⟩, ⟨_, rfl, by first | rfl⟩, ⟨_, rfl, by first | rfl⟩, ⟨_, rfl, by first | rfl⟩, ⟨_, rfl, by first | rfl⟩, trivial⟩ rfl) rfl rfl rfl ?_
  refine KL.op (R.buildL rfl Try.underlying58 zr58 [(0, 1), (1, 1), (2, 1), (3, 1), (4, 1)] (fun w => by kernel_rfl) rfl ⟨⟨_, rfl, rfl⟩, ⟨_, rfl, rfl⟩, ⟨_, rfl, rfl⟩, ⟨_, rfl, rfl⟩, ⟨_, rfl, rfl⟩, trivial⟩ rfl rfl ⟨⟨_, rfl, by first | rfl⟩, ⟨_, rfl, by first | rfl⟩, ⟨_, rfl, by first | rfl⟩, ⟨_, rfl, by first | rfl⟩, ⟨_, rfl, by first | rfl⟩, trivial⟩ rfl) rfl rfl rfl ?_
  refine KL.op (R.buildL rfl Try.underlying58 zr58 [(0, 1), (1, 1), (2, 1), (3, 1), (4, 1)] (fun w => by kernel_rfl) rfl ⟨⟨_, rfl, rfl⟩, ⟨_, rfl, rfl⟩, ⟨_, rfl, rfl⟩, ⟨_, rfl, rfl⟩, ⟨_, rfl, rfl⟩, trivial⟩ rfl rfl ⟨⟨_, rfl, by first | rfl⟩, ⟨_, rfl, by first | rfl⟩, ⟨_, rfl, by first | rfl⟩, ⟨_, rfl, by first | rfl⟩, ⟨_, rfl, by first | rfl⟩, trivial⟩ rfl) rfl rfl rfl ?_
  refine KL.op (R.buildL rfl Try.underlying58 zr58 [(0, 1), (1, 1), (2, 1), (3, 1), (4, 1)] (fun w => by kernel_rfl) rfl ⟨⟨_, rfl, rfl⟩, ⟨_, rfl, rfl⟩, ⟨_, rfl, rfl⟩, ⟨_, rfl, rfl⟩, ⟨_, rfl, rfl⟩, trivial⟩ rfl rfl ⟨⟨_, rfl, by first | rfl⟩, ⟨_, rfl, by first | rfl⟩, ⟨_, rfl, by first | rfl⟩, ⟨_, rfl, by first | rfl⟩, ⟨_, rfl, by first | rfl⟩, trivial⟩ rfl) rfl rfl rfl ?_
  refine KL.op (R.buildL rfl Try.underlying58 zr58 [(0, 1), (1, 1), (2, 1), (3, 1), (4, 1)] (fun w => by kernel_rfl) rfl ⟨⟨_, rfl, rfl⟩, ⟨_, rfl, rfl⟩, ⟨_, rfl, rfl⟩, ⟨_, rfl, rfl⟩, ⟨_, rfl, rfl⟩, trivial⟩ rfl rfl ⟨⟨_, rfl, by first | rfl⟩, ⟨_, rfl, by first | rfl⟩, ⟨_, rfl, by first | rfl⟩, ⟨_, rfl, by first | rfl⟩, ⟨_, rfl, by first | rfl⟩, trivial⟩ rfl) rfl rfl rfl ?_
  refine KL.op (R.buildL rfl Try.underlying58 zr58 [(0, 1), (1, 1), (2, 1), (3, 1), (4, 1)] (fun w => by kernel_rfl) rfl ⟨⟨_, rfl, rfl⟩, ⟨_, rfl, rfl⟩, ⟨_, rfl, rfl⟩, ⟨_, rfl, rfl⟩, ⟨_, rfl, rfl⟩, trivial⟩ rfl rfl ⟨⟨_, rfl, by first | rfl⟩, ⟨_, rfl, by first | rfl⟩, ⟨_, rfl, by first | rfl⟩, ⟨_, rfl, by first | rfl⟩, ⟨_, rfl, by first | rfl⟩, trivial⟩ rfl) rfl rfl rfl ?_
  refine KL.op (R.buildL rfl Try.underlying58 zr58 [(0, 1), (1, 1), (2, 1), (3, 1), (4, 1)] (fun w => by kernel_rfl) rfl ⟨⟨_, rfl, rfl⟩, ⟨_, rfl, rfl⟩, ⟨_, rfl, rfl⟩, ⟨_, rfl, rfl⟩, ⟨_, rfl, rfl⟩, trivial⟩ rfl rfl ⟨⟨_, rfl, by first | rfl⟩, ⟨_, rfl, by first | rfl⟩, ⟨_, rfl, by first | rfl⟩, ⟨_, rfl, by first | rfl⟩, ⟨_, rfl, by first | rfl⟩, trivial⟩ rfl) rfl rfl rfl ?_
  refine KL.op (R.buildL rfl Try.underlying58 zr58 [(0, 1), (1, 1), (2, 1), (3, 1), (4, 1)] (fun w => by kernel_rfl) rfl ⟨⟨_, rfl, rfl⟩, ⟨_, rfl, rfl⟩, ⟨_, rfl, rfl⟩, ⟨_, rfl, rfl⟩, ⟨_, rfl, rfl⟩, trivial⟩ rfl rfl ⟨⟨_, rfl, by first | rfl⟩, ⟨_, rfl, by first | rfl⟩, ⟨_, rfl, by first | rfl⟩, ⟨_, rfl, by first | rfl⟩, ⟨_, rfl, by first | rfl⟩, trivial⟩ rfl) rfl rfl rfl ?_
  refine KL.op (R.buildL rfl Try.underlying58 zr58 [(0, 1), (1, 1), (2, 1), (3, 1), (4, 1)] (fun w => by kernel_rfl) rfl ⟨⟨_, rfl, rfl⟩, ⟨_, rfl, rfl⟩, ⟨_, rfl, rfl⟩, ⟨_, rfl, rfl⟩, ⟨_, rfl, rfl⟩, trivial⟩ rfl rfl ⟨⟨_, rfl, by first | rfl⟩, ⟨_, rfl, by first | rfl⟩, ⟨_, rfl, by first | rfl⟩, ⟨_, rfl, by first | rfl⟩, ⟨_, rfl, by first | rfl⟩, trivial⟩ rfl) rfl rfl rfl ?_
  refine KL.op (R.buildL rfl Try.underlying58 zr58 [(0, 1), (1, 1), (2, 1), (3, 1), (4, 1)] (fun w => by kernel_rfl) rfl ⟨⟨_, rfl, rfl⟩, ⟨_, rfl, rfl⟩, ⟨_, rfl, rfl⟩, ⟨_, rfl, rfl⟩, ⟨_, rfl, rfl⟩, trivial⟩ rfl rfl ⟨⟨_, rfl, by first | rfl⟩, ⟨_, rfl, by first | rfl⟩, ⟨_, rfl, by first | rfl⟩, ⟨_, rfl, by first | rfl⟩, ⟨_, rfl, by first | rfl⟩, trivial⟩ rfl) rfl rfl rfl ?_
  refine KL.op (R.buildL rfl Try.underlying58 zr58 [(0, 1), (1, 1), (2, 1), (3, 1), (4, 1)] (fun w => by kernel_rfl) rfl ⟨⟨_, rfl, rfl⟩, ⟨_, rfl, rfl⟩, ⟨_, rfl, rfl⟩, ⟨_, rfl, rfl⟩, ⟨_, rfl, rfl⟩, trivial⟩ rfl rfl ⟨⟨_, rfl, by first | rfl⟩, ⟨_, rfl, by first | rfl⟩, ⟨_, rfl, by first | rfl⟩, ⟨_, rfl, by first | rfl⟩, ⟨_, rfl, by first | rfl⟩, trivial⟩ rfl) rfl rfl rfl ?_
  refine KL.op (R.buildL rfl Try.underlying58 zr58 [(0, 1), (1, 1), (2, 1), (3, 1), (4, 1)] (fun w => by kernel_rfl) rfl ⟨⟨_, rfl, rfl⟩, ⟨_, rfl, rfl⟩, ⟨_, rfl, rfl⟩, ⟨_, rfl, rfl⟩, ⟨_, rfl, rfl⟩, trivial⟩ rfl rfl ⟨⟨_, rfl, by first | rfl⟩, ⟨_, rfl, by first | rfl⟩, ⟨_, rfl, by first | rfl⟩, ⟨_, rfl, by first | rfl⟩, ⟨_, rfl, by first | rfl⟩, trivial⟩ rfl) rfl rfl rfl ?_
  refine KL.op (R.buildL rfl Try.underlying58 zr58 [(0, 1), (1, 1), (2, 1), (3, 1), (4, 1)] (fun w => by kernel_rfl) rfl ⟨⟨_, rfl, rfl⟩, ⟨_, rfl, rfl⟩, ⟨_, rfl, rfl⟩, ⟨_, rfl, rfl⟩, ⟨_, rfl, rfl⟩, trivial⟩ rfl rfl ⟨⟨_, rfl, by first | rfl⟩, ⟨_, rfl, by first | rfl⟩, ⟨_, rfl, by first | rfl⟩, ⟨_, rfl, by first | rfl⟩, ⟨_, rfl, by first | rfl⟩, trivial⟩ rfl) rfl rfl rfl ?_
  refine KL.op (R.buildL rfl Try.underlying58 zr58 [(0, 1), (1, 1), (2, 1), (3, 1), (4, 1)] (fun w => by kernel_rfl) rfl ⟨⟨_, rfl, rfl⟩, ⟨_, rfl, rfl⟩, ⟨_, rfl, rfl⟩, ⟨_, rfl, rfl⟩, ⟨_, rfl, rfl⟩, trivial⟩ rfl rfl ⟨⟨_, rfl, by first | rfl⟩, ⟨_, rfl, by first | rfl⟩, ⟨_, rfl, by first | rfl⟩, ⟨_, rfl, by first | rfl⟩, ⟨_, rfl, by first | rfl⟩, trivial⟩ rfl) rfl rfl rfl ?_
  refine KL.op (R.buildL rfl Try.underlying58 zr58 [(0, 1), (1, 1), (2, 1), (3, 1), (4, 1)] (fun w => by kernel_rfl) rfl ⟨⟨_, rfl, rfl⟩, ⟨_, rfl, rfl⟩, ⟨_, rfl, rfl⟩, ⟨_, rfl, rfl⟩, ⟨_, rfl, rfl⟩, trivial⟩ rfl rfl ⟨⟨_, rfl, by first | rfl⟩, ⟨_, rfl, by first | rfl⟩, ⟨_, rfl, by first | rfl⟩, ⟨_, rfl, by first | rfl⟩, ⟨_, rfl, by first | rfl⟩, trivial⟩ rfl) rfl rfl rfl ?_
  refine KL.op (R.buildL rfl Try.underlying58 zr58 [(0, 1), (1, 1), (2, 1), (3, 1), (4, 1)] (fun w => by kernel_rfl) rfl ⟨⟨_, rfl, rfl⟩, ⟨_, rfl, rfl⟩, ⟨_, rfl, rfl⟩, ⟨_, rfl, rfl⟩, ⟨_, rfl, rfl⟩, trivial⟩ rfl rfl ⟨⟨_, rfl, by first | rfl⟩, ⟨_, rfl, by first | rfl⟩, ⟨_, rfl, by first | rfl⟩, ⟨_, rfl, by first | rfl⟩, ⟨_, rfl, by first | rfl⟩, trivial⟩ rfl) rfl rfl rfl ?_
  refine KL.op (R.buildL rfl Try.underlying58 zr58 [(0, 1), (1, 1), (2, 1), (3, 1), (4, 1)] (fun w => by kernel_rfl) rfl ⟨⟨_, rfl, rfl⟩, ⟨_, rfl, rfl⟩, ⟨_, rfl, rfl⟩, ⟨_, rfl, rfl⟩, ⟨_, rfl, rfl⟩, trivial⟩ rfl rfl ⟨⟨_, rfl, by first | rfl⟩, ⟨_, rfl, by first | rfl⟩, ⟨_, rfl, by first | rfl⟩, ⟨_, rfl, by first | rfl⟩, ⟨_, rfl, by first | rfl⟩, trivial⟩ rfl) rfl rfl rfl ?_
  refine KL.op (R.buildL rfl Try.underlying58 zr58 [(0, 1), (1, 1), (2, 1), (3, 1), (4, 1)] (fun w => by kernel_rfl) rfl ⟨⟨_, rfl, rfl⟩, ⟨_, rfl, rfl⟩, ⟨_, rfl, rfl⟩, ⟨_, rfl, rfl⟩, ⟨_, rfl, rfl⟩, trivial⟩ rfl rfl ⟨⟨_, rfl, by first | rfl⟩, ⟨_, rfl, by first | rfl⟩, ⟨_, rfl, by first | rfl⟩, ⟨_, rfl, by first | rfl⟩, ⟨_, rfl, by first | rfl⟩, trivial⟩ rfl) rfl rfl rfl ?_
  refine KL.op (R.buildL rfl Try.underlying58 zr58 [(0, 1), (1, 1), (2, 1), (3, 1), (4, 1)] (fun w => by kernel_rfl) rfl ⟨⟨_, rfl, rfl⟩, ⟨_, rfl, rfl⟩, ⟨_, rfl, rfl⟩, ⟨_, rfl, rfl⟩, ⟨_, rfl, rfl⟩, trivial⟩ rfl rfl ⟨⟨_, rfl, by first | rfl⟩, ⟨_, rfl, by first | rfl⟩, ⟨_, rfl, by first | rfl⟩, ⟨_, rfl, by first | rfl⟩, ⟨_, rfl, by first | rfl⟩, trivial⟩ rfl) rfl rfl rfl ?_
  refine KL.op (R.buildL rfl Try.underlying58 zr58 [(0, 1), (1, 1), (2, 1), (3, 1), (4, 1)] (fun w => by kernel_rfl) rfl ⟨⟨_, rfl, rfl⟩, ⟨_, rfl, rfl⟩, ⟨_, rfl, rfl⟩, ⟨_, rfl, rfl⟩, ⟨_, rfl, rfl⟩, trivial⟩ rfl rfl ⟨⟨_, rfl, by first | rfl⟩, ⟨_, rfl, by first | rfl⟩, ⟨_, rfl, by first | rfl⟩, ⟨_, rfl, by first | rfl⟩, ⟨_, rfl, by first | rfl⟩, trivial⟩ rfl) rfl rfl rfl ?_
  refine KL.op (R.buildL rfl Try.underlying58 zr58 [(0, 1), (1, 1), (2, 1), (3, 1), (4, 1)] (fun w => by kernel_rfl) rfl ⟨⟨_, rfl, rfl⟩, ⟨_, rfl, rfl⟩, ⟨_, rfl, rfl⟩, ⟨_, rfl, rfl⟩, ⟨_, rfl, rfl⟩, trivial⟩ rfl rfl ⟨⟨_, rfl, by first | rfl⟩, ⟨_, rfl, by first | rfl⟩, ⟨_, rfl, by first | rfl⟩, ⟨_, rfl, by first | rfl⟩, ⟨_, rfl, by first | rfl⟩, trivial⟩ rfl) rfl rfl rfl ?_
  refine KL.op (R.buildL rfl Try.underlying58 zr58 [(0, 1), (1, 1), (2, 1), (3, 1), (4, 1)] (fun w => by kernel_rfl) rfl ⟨⟨_, rfl, rfl⟩, ⟨_, rfl, rfl⟩, ⟨_, rfl, rfl⟩, ⟨_, rfl, rfl⟩, ⟨_, rfl, rfl⟩, trivial⟩ rfl rfl ⟨⟨_, rfl, by first | rfl⟩, ⟨_, rfl, by first | rfl⟩, ⟨_, rfl, by first | rfl⟩, ⟨_, rfl, by first | rfl⟩, ⟨_, rfl, by first | rfl⟩, trivial⟩ rfl) rfl rfl rfl ?_
  refine KL.op (R.buildL rfl Try.underlying58 zr58 [(0, 1), (1, 1), (2, 1), (3, 1), (4, 1)] (fun w => by kernel_rfl) rfl ⟨⟨_, rfl, rfl⟩, ⟨_, rfl, rfl⟩, ⟨_, rfl, rfl⟩, ⟨_, rfl, rfl⟩, ⟨_, rfl, rfl⟩, trivial⟩ rfl rfl ⟨⟨_, rfl, by first | rfl⟩, ⟨_, rfl, by first | rfl⟩, ⟨_, rfl, by first | rfl⟩, ⟨_, rfl, by first | rfl⟩, ⟨_, rfl, by first | rfl⟩, trivial⟩ rfl) rfl rfl rfl ?_
  refine KL.opM (M.lit rfl Try.underlying81 zs58 (by decide) rfl rfl rfl) rfl rfl rfl ?_
  rintro _ H1 ⟨rfl, n1⟩
  have z1 := n1.2.1
  have o0 := o0.trans n1.1
  have b1 := n1.2.2
  have wl : Own 5 ERow 58 H H.size H1 (.slice (some ⟨H.size, 0, none⟩) 43 43) Opc.low := rows_lit Opc.low n1 (by kernel_rfl) (by decide) (by decide)
  refine KL.op (R.assign rfl rfl) rfl rfl rfl ?_
  refine KL.nil ?_
  refine KQ.seq ?_
  refine KC.ret ?_
  refine KQ.ofRet ?_
  refine KQ.fin1 Try.results35 rfl ?_
  exact ⟨wl, o0⟩

set_option maxRecDepth 100000 in
set_option maxHeartbeats 4000000 in
theorem middle_any {H : Heap} : Ct Try.prog 36 [] H (fun u H' => Own 5 ERow 58 H H.size H' u Opc.middle ∧ Old H H') := by
  refine Ct.mk Try.func36 rfl Try.ntmps36 rfl ?_
  intro W0 hW0
  have o0 : Old H H := Old.refl H
  refine KC.seq ?_
  refine KC.region ?_
  refine KL.op (R.assign rfl rfl) rfl rfl rfl ?_
  refine KL.nil ?_
  refine KQ.seq ?_
  refine KC.seq ?_
  refine KC.region ?_
  refine KL.op (R.buildL rfl Try.underlying58 zr58 [(0, 1), (1, 1), (2, 1), (3, 1), (4, 1)] (fun w => by kernel_rfl) rfl ⟨⟨_, rfl, rfl⟩, ⟨_, rfl, rfl⟩, ⟨_, rfl, rfl⟩, ⟨_, rfl, rfl⟩, ⟨_, rfl, rfl⟩, trivial⟩ rfl rfl ⟨⟨_, rfl, by first | rfl⟩, ⟨_, rfl, by first | rfl⟩, ⟨_, rfl, by first | rfl⟩, ⟨_, rfl, by first | rfl⟩, ⟨_, rfl, by first | rfl⟩, trivial⟩ rfl) rfl rfl rfl ?_
  refine KL.op (R.buildL rfl Try.underlying58 zr58 [(0, 1), (1, 1), (2, 1), (3, 1), (4, 1)] (fun w => by kernel_rfl) rfl ⟨⟨_, rfl, rfl⟩, ⟨_, rfl, rfl⟩, ⟨_, rfl, rfl⟩, ⟨_, rfl, rfl⟩, ⟨_, rfl, rfl⟩, trivial⟩ rfl rfl ⟨⟨_, rfl, by first | rfl⟩, ⟨_, rfl, by first | rfl⟩, ⟨_, rfl, by first | rfl⟩, ⟨_, rfl, by first | rfl⟩, ⟨_, rfl, by first | rfl⟩, trivial⟩ rfl) rfl rfl rfl ?_
  refine KL.op (R.buildL rfl Try.underlying58 zr58 [(0, 1), (1, 1), (2, 1), (3, 1), (4, 1)] (fun w => by kernel_rfl) rfl ⟨⟨_, rfl, rfl⟩, ⟨_, rfl, rfl⟩, ⟨_, rfl, rfl⟩, ⟨_, rfl, rfl⟩, ⟨_, rfl, rfl⟩, trivial⟩ rfl rfl ⟨⟨_, rfl, by first | rfl⟩, ⟨_, rfl, by first | rfl⟩, ⟨_, rfl, by first | rfl⟩, ⟨_, rfl, by first | rfl⟩, ⟨_, rfl, by first | rfl⟩, trivial⟩ rfl) rfl rfl rfl ?_
  refine KL.op (R.buildL rfl Try.underlying58 zr58 [(0, 1), (1, 1), (2, 1), (3, 1), (4, 1)] (fun w => by kernel_rfl) rfl ⟨⟨_, rfl, rfl⟩, ⟨_, rfl, rfl⟩, ⟨_, rfl, rfl⟩, ⟨_, rfl, rfl⟩, ⟨_, rfl, rfl⟩, trivial⟩ rfl rfl ⟨⟨_, rfl, by first | rfl⟩, ⟨_, rfl, by first | rfl⟩, ⟨_, rfl, by first | rfl⟩, ⟨_, rfl, by first | rfl⟩, ⟨_, rfl, by first | rfl⟩, trivial⟩ rfl) rfl rfl rfl ?_
  refine KL.op (R.buildL rfl Try.underlying58 zr58 [(0, 1), (1, 1), (2, 1), (3, 1), (4, 1)] (fun w => by kernel_rfl) rfl ⟨⟨_, rfl, rfl⟩, ⟨_, rfl, rfl⟩, ⟨_, rfl, rfl⟩, ⟨_, rfl, rfl⟩, ⟨_, rfl, rfl⟩, trivial⟩ rfl rfl ⟨⟨_, rfl, by first | rfl⟩, ⟨_, rfl, by first | rfl⟩, ⟨_, rfl, by first | rfl⟩, ⟨_, rfl, by first | rfl⟩, ⟨_, rfl, by first | rfl⟩, trivial⟩ rfl) rfl rfl rfl ?_
  refine KL.op (R.buildL rfl Try.underlying58 zr58 [(0, 1), (1, 1), (2, 1), (3, 1), (4, 1)] (fun w => by kernel_rfl) rfl ⟨⟨_, rfl, rfl⟩, ⟨_, rfl, rfl⟩, ⟨_, rfl, rfl⟩, ⟨_, rfl, rfl⟩, ⟨_, rfl, rfl⟩, trivial⟩ rfl rfl ⟨⟨_, rfl, by first | rfl⟩, ⟨_, rfl, by first | rfl⟩, ⟨_, rfl, by first | rfl⟩, ⟨_, rfl, by first | rfl⟩, ⟨_, rfl, by first | rfl⟩, trivial⟩ rfl) rfl rfl rfl ?_
  refine KL.op (R.buildL rfl Try.underlying58 zr58 [(0, 1), (1, 1), (2, 1), (3, 1), (4, 1)] (fun w => by kernel_rfl) rfl ⟨⟨_, rfl, rfl⟩, ⟨_, rfl, rfl⟩, ⟨_, rfl, rfl⟩, ⟨_, rfl, rfl⟩, ⟨_, rfl, rfl⟩, trivial⟩ rfl rfl ⟨⟨_, rfl, by first | rfl⟩, ⟨_, rfl, by first | rfl⟩, ⟨_, rfl, by first | rfl⟩, ⟨_, rfl, by first | rfl⟩, ⟨_, rfl, by first | rfl⟩, trivial⟩ rfl) rfl rfl rfl ?_
  refine KL.op (R.buildL rfl Try.underlying58 zr58 [(0, 1), (1, 1), (2, 1), (3, 1), (4, 1)] (fun w => by kernel_rfl) rfl ⟨⟨_, rfl, rfl⟩, ⟨_, rfl, rfl⟩, ⟨_, rfl, rfl⟩, ⟨_, rfl, rfl⟩, ⟨_, rfl, rfl⟩, trivial⟩ rfl rfl ⟨⟨_, rfl, by first | rfl⟩, ⟨_, rfl, by first | rfl⟩, ⟨_, rfl, by first | rfl⟩, ⟨_, rfl, by first | rfl⟩, ⟨_, rfl, by first | rfl⟩, trivial⟩ rfl) rfl rfl rfl ?_
  refine KL.op (R.buildL rfl Try.underlying58 zr58 [(0, 1), (1, 1), (2, 1), (3, 1), (4, 1)] (fun w => by kernel_rfl) rfl ⟨⟨_, rfl, rfl⟩, ⟨_, rfl, rfl⟩, ⟨_, rfl, rfl⟩, ⟨_, rfl, rfl⟩, ⟨_, rfl, rfl⟩, trivial⟩ rfl rfl ⟨⟨_, rfl, by first | rfl⟩, ⟨_, rfl, by first | rfl⟩, ⟨_, rfl, by first | rfl⟩, ⟨_, rfl, by first | rfl⟩, ⟨_, rfl, by first | rfl⟩, trivial⟩ rfl) rfl rfl rfl ?_
  refine KL.op (R.buildL rfl Try.underlying58 zr58 [(0, 1), (1, 1), (2, 1), (3, 1), (4, 1)] (fun w => by kernel_rfl) rfl ⟨⟨_, rfl, rfl⟩, ⟨_, rfl, rfl⟩, ⟨_, rfl, rfl⟩, ⟨_, rfl, rfl⟩, ⟨_, rfl, rfl⟩, trivial⟩ rfl rfl ⟨⟨_, rfl, by first | rfl⟩, ⟨_, rfl, by first | rfl⟩, ⟨_, rfl, by first | rfl⟩, ⟨_, rfl, by first | rfl⟩, ⟨_, rfl, by first | rfl⟩, trivial⟩ rfl) rfl rfl rfl ?_
  refine KL.op (R.buildL rfl Try.underlying58 zr58 [(0, 1), (1, 1), (2, 1), (3, 1), (4, 1)] (fun w => by kernel_rfl) rfl ⟨⟨_, rfl, rfl⟩, ⟨_, rfl, rfl⟩, ⟨_, rfl, rfl⟩, ⟨_, rfl, rfl⟩, ⟨_, rfl, rfl⟩, trivial⟩ rfl rfl ⟨⟨_, rfl, by first | rfl⟩, ⟨_, rfl, by first | rfl⟩, ⟨_, rfl, by first | rfl⟩, ⟨_, rfl, by first | rfl⟩, ⟨_, rfl, by first | rfl⟩, trivial⟩ rfl) rfl rfl rfl ?_
  refine KL.op (R.buildL rfl Try.underlying58 zr58 [(0, 1), (1, 1), (2, 1), (3, 1), (4, 1)] (fun w => by kernel_rfl) rfl ⟨⟨_, rfl, rfl⟩, ⟨_, rfl, rfl⟩, ⟨_, rfl, rfl⟩, ⟨_, rfl, rfl⟩, ⟨_, rfl, rfl⟩, trivial⟩ rfl rfl ⟨⟨_, rfl, by first | rfl⟩, ⟨_, rfl, by first | rfl⟩, ⟨_, rfl, by first | rfl⟩, ⟨_, rfl, by first | rfl⟩, ⟨_, rfl, by first | rfl⟩, trivial⟩ rfl) rfl rfl rfl ?_
  refine KL.op (R.buildL rfl Try.underlying58 zr58 [(0, 1), (1, 1), (2, 1), (3, 1), (4, 1)] (fun w => by kernel_rfl) rfl ⟨⟨_, rfl, rfl⟩, ⟨_, rfl, rfl⟩, ⟨_, rfl, rfl⟩, ⟨_, rfl, rfl⟩, ⟨_, rfl, rfl⟩, trivial⟩ rfl rfl ⟨⟨_, rfl, by first | rfl⟩, ⟨_, rfl, by first | rfl⟩, ⟨_, rfl, by first | rfl⟩, ⟨_, rfl, by first | rfl⟩, ⟨_, rfl, by first | rfl⟩, trivial⟩ rfl) rfl rfl rfl ?_
  refine KL.op (R.buildL rfl Try.underlying58 zr58 [(0, 1), (1, 1), (2, 1), (3, 1), (4, 1)] (fun w => by kernel_rfl) rfl ⟨⟨_, rfl, rfl⟩, ⟨_, rfl, rfl⟩, ⟨_, rfl, rfl⟩, ⟨_, rfl, rfl⟩, ⟨_, rfl, rfl⟩, trivial⟩ rfl rfl ⟨⟨_, rfl, by first | rfl⟩, ⟨_, rfl, by first | rfl⟩, ⟨_, rfl, by first | rfl⟩, ⟨_, rfl, by first | rfl⟩, ⟨_, rfl, by first | rfl⟩, trivial⟩ rfl) rfl rfl rfl ?_
  refine KL.op (R.buildL rfl Try.underlying58 zr58 [(0, 1), (1, 1), (2, 1), (3, 1), (4, 1)] (fun w => by kernel_rfl) rfl ⟨⟨_, rfl, rfl⟩, ⟨_, rfl, rfl⟩, ⟨_, rfl, rfl⟩, ⟨_, rfl, rfl⟩, ⟨_, rfl, rfl⟩, trivial⟩ rfl rfl ⟨⟨_, rfl, by first | rfl⟩, ⟨_, rfl, by first | rfl⟩, ⟨_, rfl, by first | rfl⟩, ⟨_, rfl, by first | rfl⟩, ⟨_, rfl, by first | rfl⟩, trivial⟩ rfl) rfl rfl rfl ?_
  refine KL.op (R.buildL rfl Try.underlying58 zr58 [(0, 1), (1, 1), (2, 1), (3, 1), (4, 1)] (fun w => by kernel_rfl) rfl ⟨⟨_, rfl, rfl⟩, ⟨_, rfl, rfl⟩, ⟨_, rfl, rfl⟩, ⟨_, rfl, rfl⟩, ⟨_, rfl, rfl⟩, trivial⟩ rfl rfl ⟨⟨_, rfl, by first | rfl⟩, ⟨_, rfl, by first | rfl⟩, ⟨_, rfl, by first | rfl⟩, ⟨_, rfl, by first | rfl⟩, ⟨_, rfl, by first | rfl⟩, trivial⟩ rfl) rfl rfl rfl ?_
  refine KL.op (R.buildL rfl Try.underlying58 zr58 [(0, 1), (1, 1), (2, 1), (3, 1), (4, 1)] (fun w => by kernel_rfl) rfl ⟨⟨_, rfl, rfl⟩, ⟨_, rfl, rfl⟩, ⟨_, rfl, rfl⟩, ⟨_, rfl, rfl⟩, ⟨_, rfl, rfl⟩, trivial⟩ rfl rfl ⟨⟨_, rfl, by first | rfl⟩, ⟨_, rfl, by first | rfl⟩, ⟨_, rfl, by first | rfl⟩, ⟨_, rfl, by first | rfl⟩, ⟨_, rfl, by first | rfl⟩, trivial⟩ rfl) rfl rfl rfl ?_
  refine KL.op (R.buildL rfl Try.underlying58 zr58 [(0, 1), (1, 1), (2, 1), (3, 1), (4, 1)] (fun w => by kernel_rfl) rfl ⟨⟨_, rfl, rfl⟩, ⟨_, rfl, rfl⟩, ⟨_, rfl, rfl⟩, ⟨_, rfl, rfl⟩, ⟨_, rfl, rfl⟩, trivial⟩ rfl rfl ⟨⟨_, rfl, by first | rfl⟩, ⟨_, rfl, by first | rfl⟩, ⟨_, rfl, by first | rfl⟩, ⟨_, rfl, by first | rfl⟩, ⟨_, rfl, by first | rfl⟩, trivial⟩ rfl) rfl rfl rfl ?_
  refine KL.op (R.buildL rfl Try.underlying58 zr58 [(0, 1), (1, 1), (2, 1), (3, 1), (4, 1)] (fun w => by kernel_rfl) rfl ⟨⟨_, rfl, rfl⟩, ⟨_, rfl, rfl⟩, ⟨_, rfl, rfl⟩, ⟨_, rfl, rfl⟩, ⟨_, rfl, rfl⟩, trivial⟩ rfl rfl ⟨⟨_, rfl, by first | rfl⟩, ⟨_, rfl, by first | rfl⟩, ⟨_, rfl, by first | rfl⟩, ⟨_, rfl, by first | rfl⟩, ⟨_, rfl, by first | rfl⟩, trivial⟩ rfl) rfl rfl rfl ?_
  refine KL.op (R.buildL rfl Try.underlying58 zr58 [(0, 1), (1, 1), (2, 1), (3, 1), (4, 1)] (fun w => by kernel_rfl) rfl ⟨⟨_, rfl, rfl⟩, ⟨_, rfl, rfl⟩, ⟨_, rfl, rfl⟩, ⟨_, rfl, rfl⟩, ⟨_, rfl, rfl⟩, trivial⟩ rfl rfl ⟨⟨_, rfl, by first | rfl⟩, ⟨_, rfl, by first | rfl⟩, ⟨_, rfl, by first | rfl⟩, ⟨_, rfl, by first | rfl⟩, ⟨_, rfl, by first | rfl⟩, trivial⟩ rfl) rfl rfl rfl ?_
  refine KL.op (R.buildL rfl Try.underlying58 zr58 [(0, 1), (1, 1), (2, 1), (3, 1), (4, 1)] (fun w => by kernel_rfl) rfl ⟨⟨_, rfl, rfl⟩, ⟨_, rfl, rfl⟩, ⟨_, rfl, rfl⟩, ⟨_, rfl, rfl⟩, ⟨_, rfl, rfl⟩, trivial⟩ rfl rfl ⟨⟨_, rfl, by first | rfl⟩, ⟨_, rfl, by first | rfl⟩, ⟨_, rfl, by first | rfl⟩, ⟨_, rfl, by first | rfl⟩, ⟨_, rfl, by first | rfl⟩, trivial⟩ rfl) rfl rfl rfl ?_
  refine KL.op (R.buildL rfl Try.underlying58 zr58 [(0, 1), (1, 1), (2, 1), (3, 1), (4, 1)] (fun w => by kernel_rfl) rfl ⟨⟨_, rfl, rfl⟩, ⟨_, rfl, rfl⟩, ⟨_, rfl, rfl⟩, ⟨_, rfl, rfl⟩, ⟨_, rfl, rfl⟩, trivial⟩ rfl rfl ⟨⟨_, rfl, by first | rfl⟩, ⟨_, rfl, by first | rfl⟩, ⟨_, rfl, by first | rfl⟩, ⟨_, rfl, by first | rfl⟩, ⟨_, rfl, by first | rfl⟩, trivial⟩ rfl) rfl rfl rfl ?_
  refine KL.op (R.buildL rfl Try.underlying58 zr58 [(0, 1), (1, 1), (2, 1), (3, 1), (4, 1)] (fun w => by kernel_rfl) rfl ⟨⟨_, rfl, rfl⟩, ⟨_, rfl, rfl⟩, ⟨_, rfl, rfl⟩, ⟨_, rfl, rfl⟩, ⟨_, rfl, rfl⟩, trivial⟩ rfl rfl ⟨⟨_, rfl, by first | rfl⟩, ⟨_, rfl, by first | rfl⟩, ⟨_, rfl, by first | rfl⟩, ⟨_, rfl, by first | rfl⟩, ⟨_, rfl, by first | rfl⟩, trivial⟩ rfl) rfl rfl rfl ?_
  refine KL.op (R.buildL rfl Try.underlying58 zr58 [(0, 1), (1, 1), (2, 1), (3, 1), (4, 1)] (fun w => by kernel_rfl) rfl ⟨⟨_, rfl, rfl⟩, ⟨_, rfl, rfl⟩, ⟨_, rfl, rfl⟩, ⟨_, rfl, rfl⟩, ⟨_, rfl, rfl⟩, trivial⟩ rfl rfl ⟨⟨_, rfl, by first | rfl⟩, ⟨_, rfl, by first | rfl⟩, ⟨_, rfl, by first | rfl⟩, ⟨_, rfl, by first | rfl⟩, ⟨_, rfl, by first | rfl⟩, trivial⟩ rfl) rfl rfl rfl ?_
  refine KL.op (R.buildL rfl Try.underlying58 zr58 [(0, 1), (1, 1), (2, 1), (3, 1), (4, 1)] (fun w => by kernel_rfl) rfl ⟨⟨_, rfl, rfl⟩, ⟨_, rfl, rfl⟩, ⟨_, rfl, rfl⟩, ⟨_, rfl, rfl⟩, ⟨_, rfl, rfl⟩, trivial⟩ rfl rfl ⟨⟨_, rfl, by first | rfl⟩, ⟨_, rfl, by first | rfl⟩, ⟨_, rfl, by first | rfl⟩, ⟨_, rfl, by first | rfl⟩, ⟨_, rfl, by first | rfl⟩, trivial⟩ rfl) rfl rfl rfl ?_
  refine KL.op (R.buildL rfl Try.underlying58 zr58 [(0, 1), (1, 1), (2, 1), (3, 1), (4, 1)] (fun w => by kernel_rfl) rfl ⟨⟨_, rfl, rfl⟩, ⟨_, rfl, rfl⟩, ⟨_, rfl, rfl⟩, ⟨_, rfl, rfl⟩, ⟨_, rfl, rfl⟩, trivial⟩ rfl rfl ⟨⟨_, rfl, by first | rfl⟩, ⟨_, rfl, by first | rfl⟩, ⟨_, rfl, by first | rfl⟩, ⟨_, rfl, by first | rfl⟩, ⟨_, rfl, by first | rfl⟩, trivial⟩ rfl) rfl rfl rfl ?_
  refine KL.op (R.buildL rfl Try.underlying58 zr58 [(0, 1), (1, 1), (2, 1), (3, 1), (4, 1)] (fun w => by kernel_rfl) rfl ⟨⟨_, rfl, rfl⟩, ⟨_, rfl, rfl⟩, ⟨_, rfl, rfl⟩, ⟨_, rfl, rfl⟩, ⟨_, rfl, rfl⟩, trivial⟩ rfl rfl ⟨⟨_, rfl, by first | rfl⟩, ⟨_, rfl, by first | rfl⟩, ⟨_, rfl, by first | rfl⟩, ⟨_, rfl, by first | rfl⟩, ⟨_, rfl, by first | rfl⟩, trivial⟩ rfl) rfl rfl rfl ?_
  refine KL.op (R.buildL rfl Try.underlying58 zr58 [(0, 1), (1, 1), (2, 1), (3, 1), (4, 1)] (fun w => by kernel_rfl) rfl ⟨⟨_, rfl, rfl⟩, ⟨_, rfl, rfl⟩, ⟨_, rfl, rfl⟩, ⟨_, rfl, rfl⟩, ⟨_, rfl, rfl⟩, trivial⟩ rfl rfl ⟨⟨_, rfl, by first | rfl⟩, ⟨_, rfl, by first | rfl⟩, ⟨_, rfl, by first | rfl⟩, ⟨_, rfl, by first | rfl⟩, ⟨_, rfl, by first | rfl⟩, trivial⟩ rfl) rfl rfl rfl ?_
  refine KL.op (R.buildL rfl Try.underlying58 zr58 [(0, 1), (1, 1), (2, 1), (3, 1), (4, 1)] (fun w => by kernel_rfl) rfl ⟨⟨_, rfl, rfl⟩, ⟨_, rfl, rfl⟩, ⟨_, rfl, rfl⟩, ⟨_, rfl, rfl⟩, ⟨_, rfl, rfl⟩, trivial⟩ rfl rfl ⟨⟨_, rfl, by first | rfl⟩, ⟨_, rfl, by first | rfl⟩, ⟨_, rfl, by first | rfl⟩, ⟨_, rfl, by first | rfl⟩, ⟨_, rfl, by first | rfl⟩, trivial⟩ rfl) rfl rfl rfl ?_
  refine KL.op (R.buildL rfl Try.underlying58 zr58 [(0, 1), (1, 1), (2, 1), (3, 1), (4, 1)] (fun w => by kernel_rfl) rfl ⟨⟨_, rfl, rfl⟩, ⟨_, rfl, rfl⟩, ⟨_, rfl, rfl⟩, ⟨_, rfl, rfl⟩, ⟨_, rfl, rfl⟩, trivial⟩ rfl rfl ⟨⟨_, rfl, by first | rfl⟩, ⟨_, rfl, by first | rfl⟩, ⟨_, rfl, by first | rfl⟩, ⟨_, rfl, by first | rfl⟩, ⟨_, rfl, by first | rfl⟩, trivial⟩ rfl) rfl rfl rfl ?_
  refine KL.op (R.buildL rfl Try.underlying58 zr58 [(0, 1), (1, 1), (2, 1), (3, 1), (4, 1)] (fun w => by kernel_rfl) rfl ⟨⟨_, rfl, rfl⟩, ⟨_, rfl, rfl⟩, ⟨_, rfl, rfl⟩, ⟨_, rfl, rfl⟩, ⟨_, rfl, rfl⟩, trivial⟩ rfl rfl ⟨⟨_, rfl, by first | rfl⟩, ⟨_, rfl, by first | rfl⟩, ⟨_, rfl, by first | rfl⟩, ⟨_, rfl, by first | rfl⟩, ⟨_, rfl, by first | rfl⟩, trivial⟩ rfl) rfl rfl rfl ?_
  refine KL.op (R.buildL rfl Try.underlying58 zr58 [(0, 1), (1, 1), (2, 1), (3, 1), (4, 1)] (fun w => by kernel_rfl) rfl ⟨⟨_, rfl, rfl⟩, ⟨_, rfl, rfl⟩, ⟨_, rfl, rfl⟩, ⟨_, rfl, rfl⟩, ⟨_, rfl, rfl⟩, trivial⟩ rfl rfl ⟨⟨_, rfl, by first | rfl⟩, ⟨_, rfl, by first | rfl⟩, ⟨_, rfl, by first | rfl⟩, ⟨_, rfl, by first | rfl⟩, ⟨_, rfl, by first | rfl⟩, trivial⟩ rfl) rfl rfl rfl ?_
  refine KL.op (R.buildL rfl Try.underlying58 zr58 [(0, 1), (1, 1), (2, 1), (3, 1), (4, 1)] (fun w => by kernel_rfl) rfl ⟨⟨_, rfl, rfl⟩, ⟨_, rfl, rfl⟩, ⟨_, rfl, rfl⟩, ⟨_, rfl, rfl⟩, ⟨_, rfl, rfl⟩, trivial⟩ rfl rfl ⟨⟨_, rfl, by first | rfl⟩, ⟨_, rfl, by first | rfl⟩, ⟨_, rfl, by first | rfl⟩, ⟨_, rfl, by first | rfl⟩, ⟨_, rfl, by first | rfl⟩, trivial⟩ rfl) rfl rfl rfl ?_
  refine KL.op (R.buildL rfl Try.underlying58 zr58 [(0, 1), (1, 1), (2, 1), (3, 1), (4, 1)] (fun w => by kernel_rfl) rfl ⟨⟨_, rfl, rfl⟩, ⟨_, rfl, rfl⟩, ⟨_, rfl, rfl⟩, ⟨_, rfl, rfl⟩, ⟨_, rfl, rfl⟩, trivial⟩ rfl rfl ⟨⟨_, rfl, by first | rfl⟩, ⟨_, rfl, by first | rfl⟩, ⟨_, rfl, by first | rfl⟩, ⟨_, rfl, by first | rfl⟩, ⟨_, rfl, by first | rfl⟩, trivial⟩ rfl) rfl rfl rfl ?_
  refine KL.op (R.buildL rfl Try.underlying58 zr58 [(0, 1), (1, 1), (2, 1), (3, 1), (4, 1)] (fun w => by kernel_rfl) rfl ⟨⟨_, rfl, rfl⟩, ⟨_, rfl, rfl⟩, ⟨_, rfl, rfl⟩, ⟨_, rfl, rfl⟩, ⟨_, rfl, rfl⟩, trivial⟩ rfl rfl ⟨⟨_, rfl, by first | rfl⟩, ⟨_, rfl, by first | rfl⟩, ⟨_, rfl, by first | rfl⟩, ⟨_, rfl, by first | rfl⟩, ⟨_, rfl, by first | rfl⟩, trivial⟩ rfl) rfl rfl rfl ?_
  refine KL.op (R.buildL rfl Try.underlying58 zr58 [(0, 1), (1, 1), (2, 1), (3, 1), (4, 1)] (fun w => by kernel_rfl) rfl ⟨⟨_, rfl, rfl⟩, ⟨_, rfl, rfl⟩, ⟨_, rfl, rfl⟩, ⟨_, rfl, rfl⟩, ⟨_, rfl, rfl⟩, trivial⟩ rfl rfl ⟨⟨_, rfl, by first | rfl⟩, ⟨_, rfl, by first | rfl⟩, ⟨_, rfl, by first | rfl⟩, ⟨_, rfl, by first | rfl⟩, ⟨_, rfl, by first | rfl⟩, trivial⟩ rfl) rfl rfl rfl ?_
  refine KL.op (R.buildL rfl Try.underlying58 zr58 [(0, 1), (1, 1), (2, 1), (3, 1), (4, 1)] (fun w => by kernel_rfl) rfl ⟨⟨_, rfl, rfl⟩, ⟨_, rfl, rfl⟩, ⟨_, rfl, rfl⟩, ⟨_, rfl, rfl⟩, ⟨_, rfl, rfl⟩, trivial⟩ rfl rfl ⟨⟨_, rfl, by first | rfl⟩, ⟨_, rfl, by first | rfl⟩, ⟨_, rfl, by first | rfl⟩, ⟨_, rfl, by first | rfl⟩, ⟨_, rfl, by first | rfl⟩, trivial⟩ rfl) rfl rfl rfl ?_
  refine KL.op (R.buildL rfl Try.underlying58 zr58 [(0, 1), (1, 1), (2, 1), (3, 1), (4, 1)] (fun w => by kernel_rfl) rfl ⟨⟨_, rfl, rfl⟩, ⟨_, rfl, rfl⟩, ⟨_, rfl, rfl⟩, ⟨_, rfl, rfl⟩, ⟨_, rfl, rfl⟩, trivial⟩ rfl rfl ⟨⟨_, rfl, by first | rfl⟩, ⟨_, rfl, by first | rfl⟩, ⟨_, rfl, by first | rfl⟩, ⟨_, rfl, by first | rfl⟩, ⟨_, rfl, by first | rfl⟩, trivial⟩ rfl) rfl rfl rfl ?_
  refine KL.op (R.buildL rfl Try.underlying58 zr58 [(0, 1), (1, 1), (2, 1), (3, 1), (4, 1)] (fun w => by kernel_rfl) rfl ⟨⟨_, rfl, rfl⟩, ⟨_, rfl, rfl⟩, ⟨_, rfl, rfl⟩, ⟨_, rfl, rfl⟩, ⟨_, rfl, rfl⟩, trivial⟩ rfl rfl ⟨⟨_, rfl, by first | rfl⟩, ⟨_, rfl, by first | rfl⟩, ⟨_, rfl, by first | rfl⟩, ⟨_, rfl, by first | rfl⟩, ⟨_, rfl, by first | rfl⟩, trivial⟩ rfl) rfl rfl rfl ?_
  refine KL.op (R.buildL rfl Try.underlying58 zr58 [(0, 1), (1, 1), (2, 1), (3, 1), (4, 1)] (fun w => by kernel_rfl) rfl ⟨⟨_, rfl, rfl⟩, ⟨_, rfl, rfl⟩, ⟨_, rfl, rfl⟩, ⟨_, rfl, rfl⟩, ⟨_, rfl, rfl⟩, trivial⟩ rfl rfl ⟨⟨_, rfl, by first | rfl⟩, ⟨_, rfl, by first | rfl⟩, ⟨_, rfl, by first | rfl⟩, ⟨_, rfl, by first | rfl⟩, ⟨_, rfl, by first | rfl⟩, trivial⟩ rfl) rfl rfl rfl ?_
  refine KL.opM (M.lit rfl Try.underlying81 zs58 (by decide) rfl rfl rfl) rfl rfl rfl ?_
  rintro _ H1 ⟨rfl, n1⟩
  have z1 := n1.2.1
  have o0 := o0.trans n1.1
  have b1 := n1.2.2
  have wl : Own 5 ERow 58 H H.size H1 (.slice (some ⟨H.size, 0, none⟩) 40 40) Opc.middle := rows_lit Opc.middle n1 (by kernel_rfl) (by decide) (by decide)
  refine KL.op (R.assign rfl rfl) rfl rfl rfl ?_
  refine KL.nil ?_
  refine KQ.seq ?_
  refine KC.ret ?_
  refine KQ.ofRet ?_
  refine KQ.fin1 Try.results36 rfl ?_
  exact ⟨wl, o0⟩

set_option maxRecDepth 100000 in
set_option maxHeartbeats 4000000 in
theorem high_any {H : Heap} : Ct Try.prog 34 [] H (fun u H' => Own 5 ERow 58 H H.size H' u Opc.high ∧ Old H H') := by
  refine Ct.mk Try.func34 rfl Try.ntmps34 rfl ?_
  intro W0 hW0
  have o0 : Old H H := Old.refl H
  refine KC.seq ?_
  refine KC.region ?_
  refine KL.op (R.assign rfl rfl) rfl rfl rfl ?_
  refine KL.nil ?_
  refine KQ.seq ?_
  refine KC.seq ?_
  refine KC.region ?_
  refine KL.op (R.buildL rfl Try.underlying58 zr58 [(0, 1), (1, 1), (2, 1), (3, 1), (4, 1)] (fun w => by kernel_rfl) rfl ⟨⟨_, rfl, rfl⟩, ⟨_, rfl, rfl⟩, ⟨_, rfl, rfl⟩, ⟨_, rfl, rfl⟩, ⟨_, rfl, rfl⟩, trivial⟩ rfl rfl ⟨⟨_, rfl, by first | rfl⟩, ⟨_, rfl, by first | rfl⟩, ⟨_, rfl, by first | rfl⟩, ⟨_, rfl, by first | rfl⟩, ⟨_, rfl, by first | rfl⟩, trivial⟩ rfl) rfl rfl rfl ?_
  refine KL.op (R.buildL rfl Try.underlying58 zr58 [(0, 1), (1, 1), (2, 1), (3, 1), (4, 1)] (fun w => by kernel_rfl) rfl ⟨⟨_, rfl, rfl⟩, ⟨_, rfl, rfl⟩, ⟨_, rfl, rfl⟩, ⟨_, rfl, rfl⟩, ⟨_, rfl, rfl⟩, trivial⟩ rfl rfl ⟨⟨_, rfl, by first | rfl⟩, ⟨_, rfl, by first | rfl⟩, ⟨_, rfl, by first | rfl⟩, ⟨_, rfl, by first | rfl⟩, ⟨_, rfl, by first | rfl⟩, trivial⟩ rfl) rfl rfl rfl ?_
  refine KL.op (R.buildL rfl Try.underlying58 zr58 [(0, 1), (1, 1), (2, 1), (3, 1), (4, 1)] (fun w => by kernel_rfl) rfl ⟨⟨_, rfl, rfl⟩, ⟨_, rfl, rfl⟩, ⟨_, rfl, rfl⟩, ⟨_, rfl, rfl⟩, ⟨_, rfl, rfl⟩, trivial⟩ rfl rfl ⟨⟨_, rfl, by first | rfl⟩, ⟨_, rfl, by first | rfl⟩, ⟨_, rfl, by first | rfl⟩, ⟨_, rfl, by first | rfl⟩, ⟨_, rfl, by first | rfl⟩, trivial⟩ rfl) rfl rfl rfl ?_
  refine KL.op (R.buildL rfl Try.underlying58 zr58 [(0, 1), (1, 1), (2, 1), (3, 1), (4, 1)] (fun w => by kernel_rfl) rfl ⟨⟨_, rfl, rfl⟩, ⟨_, rfl, rfl⟩, ⟨_, rfl, rfl⟩, ⟨_, rfl, rfl⟩, ⟨_, rfl, rfl⟩, trivial⟩ rfl rfl ⟨⟨_, rfl, by first | rfl⟩, ⟨_, rfl, by first | rfl⟩, ⟨_, rfl, by first | rfl⟩, ⟨_, rfl, by first | rfl⟩, ⟨_, rfl, by first | rfl⟩, trivial⟩ rfl) rfl rfl rfl ?_
  refine KL.op (R.buildL rfl Try.underlying58 zr58 [(0, 1), (1, 1), (2, 1), (3, 1), (4, 1)] (fun w => by kernel_rfl) rfl ⟨⟨_, rfl, rfl⟩, ⟨_, rfl, rfl⟩, ⟨_, rfl, rfl⟩, ⟨_, rfl, rfl⟩, ⟨_, rfl, rfl⟩, trivial⟩ rfl rfl ⟨⟨_, rfl, by first | rfl⟩, ⟨_, rfl, by first | rfl⟩, ⟨_, rfl, by first | rfl⟩, ⟨_, rfl, by first | rfl⟩, ⟨_, rfl, by first | rfl⟩, trivial⟩ rfl) rfl rfl rfl ?_
  refine KL.op (R.buildL rfl Try.underlying58 zr58 [(0, 1), (1, 1), (2, 1), (3, 1), (4, 1)] (fun w => by kernel_rfl) rfl ⟨⟨_, rfl, rfl⟩, ⟨_, rfl, rfl⟩, ⟨_, rfl, rfl⟩, ⟨_, rfl, rfl⟩, ⟨_, rfl, rfl⟩, trivial⟩ rfl rfl ⟨⟨_, rfl, by first | rfl⟩, ⟨_, rfl, by first | rfl⟩, ⟨_, rfl, by first | rfl⟩, ⟨_, rfl, by first | rfl⟩, ⟨_, rfl, by first | rfl⟩, trivial⟩ rfl) rfl rfl rfl ?_
  refine KL.op (R.buildL rfl Try.underlying58 zr58 [(0, 1), (1, 1), (2, 1), (3, 1), (4, 1)] (fun w => by kernel_rfl) rfl ⟨⟨_, rfl, rfl⟩, ⟨_, rfl, rfl⟩, ⟨_, rfl, rfl⟩, ⟨_, rfl, rfl⟩, ⟨_, rfl, rfl⟩, trivial⟩ rfl rfl ⟨⟨_, rfl, by first | rfl⟩, ⟨_, rfl, by first | rfl⟩, ⟨_, rfl, by first | rfl⟩, ⟨_, rfl, by first | rfl⟩, ⟨_, rfl, by first | rfl⟩, trivial⟩ rfl) rfl rfl rfl ?_
  refine KL.op (R.buildL rfl Try.underlying58 zr58 [(0, 1), (1, 1), (2, 1), (3, 1), (4, 1)] (fun w => by kernel_rfl) rfl ⟨⟨_, rfl, rfl⟩, ⟨_, rfl, rfl⟩, ⟨_, rfl, rfl⟩, ⟨_, rfl, rfl⟩, ⟨_, rfl, rfl⟩, trivial⟩ rfl rfl ⟨⟨_, rfl, by first | rfl⟩, ⟨_, rfl, by first | rfl⟩, ⟨_, rfl, by first | rfl⟩, ⟨_, rfl, by first | rfl⟩, ⟨_, rfl, by first | rfl⟩, trivial⟩ rfl) rfl rfl rfl ?_
  refine KL.op (R.buildL rfl Try.underlying58 zr58 [(0, 1), (1, 1), (2, 1), (3, 1), (4, 1)] (fun w => by kernel_rfl) rfl ⟨⟨_, rfl, rfl⟩, ⟨_, rfl, rfl⟩, ⟨_, rfl, rfl⟩, ⟨_, rfl, rfl⟩, ⟨_, rfl, rfl⟩, trivial⟩ rfl rfl ⟨⟨_, rfl, by first | rfl⟩, ⟨_, rfl, by first | rfl⟩, ⟨_, rfl, by first | rfl⟩, ⟨_, rfl, by first | rfl⟩, ⟨_, rfl, by first | rfl⟩, trivial⟩ rfl) rfl rfl rfl ?_
  refine KL.op (R.buildL rfl Try.underlying58 zr58 [(0, 1), (1, 1), (2, 1), (3, 1), (4, 1)] (fun w => by kernel_rfl) rfl ⟨⟨_, rfl, rfl⟩, ⟨_, rfl, rfl⟩, ⟨_, rfl, rfl⟩, ⟨_, rfl, rfl⟩, ⟨_, rfl, rfl⟩, trivial⟩ rfl rfl ⟨⟨_, rfl, by first | rfl⟩, ⟨_, rfl, by first | rfl⟩, ⟨_, rfl, by first | rfl⟩, ⟨_, rfl, by first | rfl⟩, ⟨_, rfl, by first | rfl⟩, trivial⟩ rfl) rfl rfl rfl ?_
  refine KL.op (R.buildL rfl Try.underlying58 zr58 [(0, 1), (1, 1), (2, 1), (3, 1), (4, 1)] (fun w => by kernel_rfl) rfl ⟨⟨_, rfl, rfl⟩, ⟨_, rfl, rfl⟩, ⟨_, rfl, rfl⟩, ⟨_, rfl, rfl⟩, ⟨_, rfl, rfl⟩, trivial⟩ rfl rfl ⟨⟨_, rfl, by first | rfl⟩, ⟨_, rfl, by first | rfl⟩, ⟨_, rfl, by first | rfl⟩, ⟨_, rfl, by first | rfl⟩, ⟨_, rfl, by first | rfl⟩, trivial⟩ rfl) rfl rfl rfl ?_
  refine KL.op (R.buildL rfl Try.underlying58 zr58 [(0, 1), (1, 1), (2, 1), (3, 1), (4, 1)] (fun w => by kernel_rfl) rfl ⟨⟨_, rfl, rfl⟩, ⟨_, rfl, rfl⟩, ⟨_, rfl, rfl⟩, ⟨_, rfl, rfl⟩, ⟨_, rfl, rfl⟩, trivial⟩ rfl rfl ⟨⟨_, rfl, by first | rfl⟩, ⟨_, rfl, by first | rfl⟩, ⟨_, rfl, by first | rfl⟩, ⟨_, rfl, by first | rfl⟩, ⟨_, rfl, by first | rfl⟩, trivial⟩ rfl) rfl rfl rfl ?_
  refine KL.op (R.buildL rfl Try.underlying58 zr58 [(0, 1), (1, 1), (2, 1), (3, 1), (4, 1)] (fun w => by kernel_rfl) rfl ⟨⟨_, rfl, rfl⟩, ⟨_, rfl, rfl⟩, ⟨_, rfl, rfl⟩, ⟨_, rfl, rfl⟩, ⟨_, rfl, rfl⟩, trivial⟩ rfl rfl ⟨⟨_, rfl, by first | rfl⟩, ⟨_, rfl, by first | rfl⟩, ⟨_, rfl, by first | rfl⟩, ⟨_, rfl, by first | rfl⟩, ⟨_, rfl, by first | rfl⟩, trivial⟩ rfl) rfl rfl rfl ?_
  refine KL.op (R.buildL rfl Try.underlying58 zr58 [(0, 1), (1, 1), (2, 1), (3, 1), (4, 1)] (fun w => by kernel_rfl) rfl ⟨⟨_, rfl, rfl⟩, ⟨_, rfl, rfl⟩, ⟨_, rfl, rfl⟩, ⟨_, rfl, rfl⟩, ⟨_, rfl, rfl⟩, trivial⟩ rfl rfl ⟨⟨_, rfl, by first | rfl⟩, ⟨_, rfl, by first | rfl⟩, ⟨_, rfl, by first | rfl⟩, ⟨_, rfl, by first | rfl⟩, ⟨_, rfl, by first | rfl⟩, trivial⟩ rfl) rfl rfl rfl ?_
  refine KL.op (R.buildL rfl Try.underlying58 zr58 [(0, 1), (1, 1), (2, 1), (3, 1), (4, 1)] (fun w => by kernel_rfl) rfl ⟨⟨_, rfl, rfl⟩, ⟨_, rfl, rfl⟩, ⟨_, rfl, rfl⟩, ⟨_, rfl, rfl⟩, ⟨_, rfl, rfl⟩, trivial⟩ rfl rfl ⟨⟨_, rfl, by first | rfl⟩, ⟨_, rfl, by first | rfl⟩, ⟨_, rfl, by first | rfl⟩, ⟨_, rfl, by first | rfl⟩, ⟨_, rfl, by first | rfl⟩, trivial⟩ rfl) rfl rfl rfl ?_
  refine KL.op (R.buildL rfl Try.underlying58 zr58 [(0, 1), (1, 1), (2, 1), (3, 1), (4, 1)] (fun w => by kernel_rfl) rfl ⟨⟨_, rfl, rfl⟩, ⟨_, rfl, rfl⟩, ⟨_, rfl, rfl⟩, ⟨_, rfl, rfl⟩, ⟨_, rfl, rfl⟩, trivial⟩ rfl rfl ⟨⟨_, rfl, by first | rfl⟩, ⟨_, rfl, by first | rfl⟩, ⟨_, rfl, by first | rfl⟩, ⟨_, rfl, by first | rfl⟩, ⟨_, rfl, by first | rfl⟩, trivial⟩ rfl) rfl rfl rfl ?_
  refine KL.op (R.buildL rfl Try.underlying58 zr58 [(0, 1), (1, 1), (2, 1), (3, 1), (4, 1)] (fun w => by kernel_rfl) rfl ⟨⟨_, rfl, rfl⟩, ⟨_, rfl, rfl⟩, ⟨_, rfl, rfl⟩, ⟨_, rfl, rfl⟩, ⟨_, rfl, rfl⟩, trivial⟩ rfl rfl ⟨⟨_, rfl, by first | rfl⟩, ⟨_, rfl, by first | rfl⟩, ⟨_, rfl, by first | rfl⟩, ⟨_, rfl, by first | rfl⟩, ⟨_, rfl, by first | rfl⟩, trivial⟩ rfl) rfl rfl rfl ?_
  refine KL.op (R.buildL rfl Try.underlying58 zr58 [(0, 1), (1, 1), (2, 1), (3, 1), (4, 1)] (fun w => by kernel_rfl) rfl ⟨⟨_, rfl, rfl⟩, ⟨_, rfl, rfl⟩, ⟨_, rfl, rfl⟩, ⟨_, rfl, rfl⟩, ⟨_, rfl, rfl⟩, trivial⟩ rfl rfl ⟨⟨_, rfl, by first | rfl⟩, ⟨_, rfl, by first | rfl⟩, ⟨_, rfl, by first | rfl⟩, ⟨_, rfl, by first | rfl⟩, ⟨_, rfl, by first | rfl⟩, trivial⟩ rfl) rfl rfl rfl ?_
  refine KL.op (R.buildL rfl Try.underlying58 zr58 [(0, 1), (1, 1), (2, 1), (3, 1), (4, 1)] (fun w => by kernel_rfl) rfl ⟨⟨_, rfl, rfl⟩, ⟨_, rfl, rfl⟩, ⟨_, rfl, rfl⟩, ⟨_, rfl, rfl⟩, ⟨_, rfl, rfl⟩, trivial⟩ rfl rfl ⟨⟨_, rfl, by first | rfl⟩, ⟨_, rfl, by first | rfl⟩, ⟨_, rfl, by first | rfl⟩, ⟨_, rfl, by first | rfl⟩, ⟨_, rfl, by first | rfl⟩, trivial⟩ rfl) rfl rfl rfl ?_
  refine KL.op (R.buildL rfl Try.underlying58 zr58 [(0, 1), (1, 1), (2, 1), (3, 1), (4, 1)] (fun w => by kernel_rfl) rfl ⟨⟨_, rfl, rfl⟩, ⟨_, rfl, rfl⟩, ⟨_, rfl, rfl⟩, ⟨_, rfl, rfl⟩, ⟨_, rfl, rfl⟩, trivial⟩ rfl rfl ⟨⟨_, rfl, by first | rfl⟩, ⟨_, rfl, by first | rfl⟩, ⟨_, rfl, by first | rfl⟩, ⟨_, rfl, by first | rfl⟩, ⟨_, rfl, by first | rfl⟩, trivial⟩ rfl) rfl rfl rfl ?_
  refine KL.op (R.buildL rfl Try.underlying58 zr58 [(0, 1), (1, 1), (2, 1), (3, 1), (4, 1)] (fun w => by kernel_rfl) rfl ⟨⟨_, rfl, rfl⟩, ⟨_, rfl, rfl⟩, ⟨_, rfl, rfl⟩, ⟨_, rfl, rfl⟩, ⟨_, rfl, rfl⟩, trivial⟩ rfl rfl ⟨⟨_, rfl, by first | rfl⟩, ⟨_, rfl, by first | rfl⟩, ⟨_, rfl, by first | rfl⟩, ⟨_, rfl, by first | rfl⟩, ⟨_, rfl, by first | rfl⟩, trivial⟩ rfl) rfl rfl rfl ?_
  refine KL.opM (M.lit rfl Try.underlying81 zs58 (by decide) rfl rfl rfl) rfl rfl rfl ?_
  rintro _ H1 ⟨rfl, n1⟩
  have z1 := n1.2.1
  have o0 := o0.trans n1.1
  have b1 := n1.2.2
  have wl : Own 5 ERow 58 H H.size H1 (.slice (some ⟨H.size, 0, none⟩) 21 21) Opc.high := rows_lit Opc.high n1 (by kernel_rfl) (by decide) (by decide)
  refine KL.op (R.assign rfl rfl) rfl rfl rfl ?_
  refine KL.nil ?_
  refine KQ.seq ?_
  refine KC.ret ?_
  refine KQ.ofRet ?_
  refine KQ.fin1 Try.results34 rfl ?_
  exact ⟨wl, o0⟩

theorem cells_nth {H : Heap} {p : Addr} {cs : List Value} {i : Nat} {v : Value} (h : CellsH H p cs) (hv : nth cs i = some v) : cellH H (p.add i) = some v := h i v hv

set_option maxRecDepth 100000 in
set_option maxHeartbeats 4000000 in
theorem RFind_any {H : Heap} (op : Int) : Ct Try.prog 23 [.int .u8 op] H (fun u H' => u = .tuple #[((Opc.rfind op).getD Opc.Row.zero).val, .bool (Opc.rfind op).isSome] ∧ Old H H') := by
  refine Ct.mk Try.func23 rfl Try.ntmps23 rfl ?_
  intro W0 hW0
  have o0 : Old H H := Old.refl H
  refine KC.seq ?_
  refine KC.region ?_
  refine KL.opM (M.alloc rfl zr58 rfl) rfl rfl rfl ?_
  rintro _ H1 ⟨rfl, n1⟩
  have z1 := n1.2.1
  have o0 := o0.trans n1.1
  have b1 := n1.2.2
  have b2 := b1
  refine KL.op (R.assign rfl rfl) rfl rfl rfl ?_
  refine KL.nil ?_
  refine KQ.seq ?_
  refine KC.seq ?_
  refine KC.region ?_
  refine KL.call rfl rfl rfl rfl Try.call34 rfl rfl rfl (high_any) ?_
  rintro vl H2 ⟨wl, ox⟩
  have zc_H2 := (ox).1
  have o0 := o0.trans ox
  have b2 := (ox).blk b2
  have hl := wl.sl (by first | exact ox | exact o0) (by decide)
  have hsub : ∀ r ∈ Opc.high, r ∈ Opc.rows := by intro r hr; unfold Opc.rows; simp [hr]
  refine KL.op (R.assign rfl rfl) rfl rfl rfl ?_
  refine KL.nil ?_
  refine KQ.seq ?_
  refine KC.seq ?_
  refine KC.seq ?_
  refine KC.region ?_
  refine KL.op (R.move rfl rfl) rfl rfl rfl ?_
  refine KL.op (R.lss rfl rfl rfl) rfl rfl rfl ?_
  refine KL.nil ?_
  refine KQ.seq ?_
  refine KC.iteL rfl ?_ ?_
  · intro hc8
    try simp only [decide_eq_true_eq, decide_eq_false_iff_not, Bool.not_eq_true', Bool.not_eq_false', Bool.and_eq_true, Bool.or_eq_false_iff] at hc8
    refine KC.region ?_
    refine KL.call rfl rfl rfl rfl Try.call35 rfl rfl rfl (low_any) ?_
    rintro vl H3 ⟨wl, ox⟩
    have zc_H3 := (ox).1
    have o0 := o0.trans ox
    have b2 := (ox).blk b2
    have hl := hl.old ox
    have hl := wl.sl (by first | exact ox | exact o0) (by decide)
    have hsub : ∀ r ∈ Opc.low, r ∈ Opc.rows := by intro r hr; unfold Opc.rows; simp [hr]
    refine KL.op (R.assign rfl rfl) rfl rfl rfl ?_
    refine KL.nil ?_
    refine KQ.seq ?_
    refine KC.seq ?_
    refine KC.seq ?_
    refine KC.region ?_
    refine KL.op (R.assign rfl rfl) rfl rfl rfl ?_
    refine KL.nil ?_
    refine KQ.seq ?_
    refine KC.block ?_
    refine KC.loopD (κ := Nat) [13, 14, 15, 16, 19, 20, 21, 22, 23, 24, 25, 26, 27, 28, 29, 3, 17, 18, 5] (fun k => [(5, .int .i64 (k : Nat))]) (fun k Hl => k ≤ Opc.low.length ∧ H3 = Hl ∧ ∀ j, j < k → decide ((Opc.low.getD j default).op = op) = false) (fun k => Opc.low.length - k) 0 ?_ ?_ ?_
    · exact (Sub.cons rfl (Ext.sub (Ext.refl _ _)))
    · exact ⟨Nat.zero_le _, rfl, fun j hj => by omega⟩
    · rintro k H4 ⟨hk, rfl, hno⟩
      have hlen : Opc.low.length ≤ 120 := by decide
      refine KC.seq ?_
      refine KC.seq ?_
      refine KC.region ?_
      refine KL.op (R.move rfl rfl) rfl rfl rfl ?_
      refine KL.op (R.move rfl rfl) rfl rfl rfl ?_
      refine KL.op (R.lenS rfl Try.underlying81 rfl hl) rfl rfl rfl ?_
      refine KL.op (R.lss rfl rfl rfl) rfl rfl rfl ?_
      refine KL.nil ?_
      refine KQ.seq ?_
      refine KC.iteL rfl ?_ ?_
      · intro hc16
        try simp only [decide_eq_true_eq, decide_eq_false_iff_not, Bool.not_eq_true', Bool.not_eq_false', Bool.and_eq_true, Bool.or_eq_false_iff] at hc16
        have hcx := hl.rowAt k (by omega)
        refine KC.skip ?_
        refine KQ.seq ?_
        refine KC.seq ?_
        refine KC.block ?_
        refine KC.seq ?_
        refine KC.region ?_
        refine KL.op (R.move rfl rfl) rfl rfl rfl ?_
        refine KL.op (R.move rfl rfl) rfl rfl rfl ?_
        refine KL.op (R.index (j := k) rfl Try.underlying81 sz58 rfl rfl hl rfl (by omega)) rfl rfl rfl ?_
        refine KL.op ((by first | exact R.fieldAddr rfl Try.underlying58 rfl rfl sz5 rfl | exact R.fieldAddrP rfl Try.underlying58 rfl rfl sz5 rfl)) rfl rfl rfl ?_
        refine KL.op (R.load rfl Try.underlying5 rfl rfl (cells_nth hcx rfl)) rfl rfl rfl ?_
        refine KL.op (R.move rfl rfl) rfl rfl rfl ?_
        refine KL.op (R.eql rfl rfl rfl) rfl rfl rfl ?_
        refine KL.nil ?_
        refine KQ.seq ?_
        refine KC.iteL rfl ?_ ?_
        · intro hc25
          try simp only [decide_eq_true_eq, decide_eq_false_iff_not, Bool.not_eq_true', Bool.not_eq_false', Bool.and_eq_true, Bool.or_eq_false_iff] at hc25
          refine KC.seq ?_
          refine KC.region ?_
          refine KL.op (R.move rfl rfl) rfl rfl rfl ?_
          refine KL.op (R.move rfl rfl) rfl rfl rfl ?_
          refine KL.op (R.index (j := k) rfl Try.underlying81 sz58 rfl rfl hl rfl (by omega)) rfl rfl rfl ?_
          refine KL.op (R.loadAgg rfl Try.underlying58 rfl sz58 rfl hcx rfl) rfl rfl rfl ?_
          refine KL.opS (S.storeAgg rfl sz58 rfl rfl (rfl) (by intro u hu; simp only [Opc.Row.cells, List.mem_cons, List.not_mem_nil, or_false] at hu; rcases hu with rfl | rfl | rfl | rfl | rfl <;> rfl) b2 (by simp [Opc.Row.cells])) rfl rfl ?_
          rintro H5 ⟨u5, b5⟩
          have o0 := o0.upd u5 (by omega)
          have zu5 := u5.1
          have b2 := b5
          refine KL.op (R.assign rfl rfl) rfl rfl rfl ?_
          refine KL.nil ?_
          refine KQ.seq ?_
          refine KC.ret ?_
          refine KQ.retBlock ?_
          refine KQ.retThen ?_
          refine KQ.retThen ?_
          refine KQ.retBlock ?_
          refine KQ.retThen ?_
          refine KQ.ofRet ?_
          refine KQ.finCell2 Try.results23 rfl Try.underlying58 rfl sz58 (cells_of b2) (rfl) rfl ?_
          first
            | (have hf : Opc.rfind op = some (Opc.low.getD k default) := by
                 unfold Opc.rfind Opc.part
                 simp only [*, if_true, if_false]
                 exact Opc.find_at (by omega) (by simpa using ‹_›) hno
               exact ⟨by rw [hf]; rfl, o0⟩)
            | (have hf : Opc.rfind op = none := by
                 unfold Opc.rfind Opc.part
                 simp only [*, if_true, if_false]
                 exact Opc.find_no (fun j hj => hno j (by omega))
               exact ⟨by rw [hf]; rfl, o0⟩)
        · intro hc25
          try simp only [decide_eq_true_eq, decide_eq_false_iff_not, Bool.not_eq_true', Bool.not_eq_false', Bool.and_eq_true, Bool.or_eq_false_iff] at hc25
          refine KC.skip ?_
          refine KQ.normBlock ?_
          refine KQ.seq ?_
          refine KC.region ?_
          refine KL.op (R.move rfl rfl) rfl rfl rfl ?_
          refine KL.op ((R.add rfl rfl rfl (by dsimp only [InR]; omega)).val (congrArg (Value.int .i64) (show (k : Int) + 1 = ((k + 1 : Nat) : Int) by omega))) rfl rfl rfl ?_
          refine KL.op (R.assign rfl rfl) rfl rfl rfl ?_
          refine KL.nil ?_
          refine KQ.again (k + 1) ?_ ?_ ?_
          · exact (Sub.cons rfl (Ext.sub (by repeat (first | exact Ext.refl _ _ | refine Ext.put rfl ?_ | refine Ext.drop rfl ?_))))
          · omega
          · exact ⟨by omega, rfl, fun j hj => by
              by_cases e : j = k
              · subst e; simp_all
              · exact hno j (by omega)⟩
      · intro hc16
        try simp only [decide_eq_true_eq, decide_eq_false_iff_not, Bool.not_eq_true', Bool.not_eq_false', Bool.and_eq_true, Bool.or_eq_false_iff] at hc16
        refine KC.exit ?_
        refine KQ.exitThen ?_
        refine KQ.exitThen ?_
        refine KQ.hit ?_
        refine KQ.seq ?_
        refine KC.seq ?_
        refine KC.region ?_
        refine KL.op (R.buildL rfl Try.underlying58 zr58 [(0, 1), (1, 1), (2, 1), (3, 1), (4, 1)] (fun w => by kernel_rfl) rfl trivial rfl rfl trivial rfl) rfl rfl rfl ?_
        refine KL.opS (S.storeAgg rfl sz58 rfl rfl (rfl) (by simp [Value.oneCell']) b2 (by simp)) rfl rfl ?_
        rintro H6 ⟨u6, b6⟩
        have o0 := o0.upd u6 (by omega)
        have zu6 := u6.1
        have b2 := b6
        refine KL.op (R.assign rfl rfl) rfl rfl rfl ?_
        refine KL.nil ?_
        refine KQ.seq ?_
        refine KC.ret ?_
        refine KQ.ofRet ?_
        refine KQ.finCell2 Try.results23 rfl Try.underlying58 rfl sz58 (cells_of b2) (rfl) rfl ?_
        first
          | (have hf : Opc.rfind op = some (Opc.low.getD k default) := by
               unfold Opc.rfind Opc.part
               simp only [*, if_true, if_false]
               exact Opc.find_at (by omega) (by simpa using ‹_›) hno
             exact ⟨by rw [hf]; rfl, o0⟩)
          | (have hf : Opc.rfind op = none := by
               unfold Opc.rfind Opc.part
               simp only [*, if_true, if_false]
               exact Opc.find_no (fun j hj => hno j (by omega))
             exact ⟨by rw [hf]; rfl, o0⟩)
  · intro hc8
    try simp only [decide_eq_true_eq, decide_eq_false_iff_not, Bool.not_eq_true', Bool.not_eq_false', Bool.and_eq_true, Bool.or_eq_false_iff] at hc8
    refine KC.seq ?_
    refine KC.region ?_
    refine KL.op (R.move rfl rfl) rfl rfl rfl ?_
    refine KL.op (R.lss rfl rfl rfl) rfl rfl rfl ?_
    refine KL.nil ?_
    refine KQ.seq ?_
    refine KC.iteL rfl ?_ ?_
    · intro hc11
      try simp only [decide_eq_true_eq, decide_eq_false_iff_not, Bool.not_eq_true', Bool.not_eq_false', Bool.and_eq_true, Bool.or_eq_false_iff] at hc11
      refine KC.region ?_
      refine KL.call rfl rfl rfl rfl Try.call36 rfl rfl rfl (middle_any) ?_
      rintro vl H7 ⟨wl, ox⟩
      have zc_H7 := (ox).1
      have o0 := o0.trans ox
      have b2 := (ox).blk b2
      have hl := hl.old ox
      have hl := wl.sl (by first | exact ox | exact o0) (by decide)
      have hsub : ∀ r ∈ Opc.middle, r ∈ Opc.rows := by intro r hr; unfold Opc.rows; simp [hr]
      refine KL.op (R.assign rfl rfl) rfl rfl rfl ?_
      refine KL.nil ?_
      refine KQ.seq ?_
      refine KC.seq ?_
      refine KC.seq ?_
      refine KC.region ?_
      refine KL.op (R.assign rfl rfl) rfl rfl rfl ?_
      refine KL.nil ?_
      refine KQ.seq ?_
      refine KC.block ?_
      refine KC.loopD (κ := Nat) [13, 14, 15, 16, 19, 20, 21, 22, 23, 24, 25, 26, 27, 28, 29, 3, 17, 18, 5] (fun k => [(5, .int .i64 (k : Nat))]) (fun k Hl => k ≤ Opc.middle.length ∧ H7 = Hl ∧ ∀ j, j < k → decide ((Opc.middle.getD j default).op = op) = false) (fun k => Opc.middle.length - k) 0 ?_ ?_ ?_
      · exact (Sub.cons rfl (Ext.sub (Ext.refl _ _)))
      · exact ⟨Nat.zero_le _, rfl, fun j hj => by omega⟩
      · rintro k H8 ⟨hk, rfl, hno⟩
        have hlen : Opc.middle.length ≤ 120 := by decide
        refine KC.seq ?_
        refine KC.seq ?_
        refine KC.region ?_
        refine KL.op (R.move rfl rfl) rfl rfl rfl ?_
        refine KL.op (R.move rfl rfl) rfl rfl rfl ?_
        refine KL.op (R.lenS rfl Try.underlying81 rfl hl) rfl rfl rfl ?_
        refine KL.op (R.lss rfl rfl rfl) rfl rfl rfl ?_
        refine KL.nil ?_
        refine KQ.seq ?_
        refine KC.iteL rfl ?_ ?_
        · intro hc16
          try simp only [decide_eq_true_eq, decide_eq_false_iff_not, Bool.not_eq_true', Bool.not_eq_false', Bool.and_eq_true, Bool.or_eq_false_iff] at hc16
          have hcx := hl.rowAt k (by omega)
          refine KC.skip ?_
          refine KQ.seq ?_
          refine KC.seq ?_
          refine KC.block ?_
          refine KC.seq ?_
          refine KC.region ?_
          refine KL.op (R.move rfl rfl) rfl rfl rfl ?_
          refine KL.op (R.move rfl rfl) rfl rfl rfl ?_
          refine KL.op (R.index (j := k) rfl Try.underlying81 sz58 rfl rfl hl rfl (by omega)) rfl rfl rfl ?_
          refine KL.op ((by first | exact R.fieldAddr rfl Try.underlying58 rfl rfl sz5 rfl | exact R.fieldAddrP rfl Try.underlying58 rfl rfl sz5 rfl)) rfl rfl rfl ?_
          refine KL.op (R.load rfl Try.underlying5 rfl rfl (cells_nth hcx rfl)) rfl rfl rfl ?_
          refine KL.op (R.move rfl rfl) rfl rfl rfl ?_
          refine KL.op (R.eql rfl rfl rfl) rfl rfl rfl ?_
          refine KL.nil ?_
          refine KQ.seq ?_
          refine KC.iteL rfl ?_ ?_
          · intro hc25
            try simp only [decide_eq_true_eq, decide_eq_false_iff_not, Bool.not_eq_true', Bool.not_eq_false', Bool.and_eq_true, Bool.or_eq_false_iff] at hc25
            refine KC.seq ?_
            refine KC.region ?_
            refine KL.op (R.move rfl rfl) rfl rfl rfl ?_
            refine KL.op (R.move rfl rfl) rfl rfl rfl ?_
            refine KL.op (R.index (j := k) rfl Try.underlying81 sz58 rfl rfl hl rfl (by omega)) rfl rfl rfl ?_
            refine KL.op (R.loadAgg rfl Try.underlying58 rfl sz58 rfl hcx rfl) rfl rfl rfl ?_
            refine KL.opS (S.storeAgg rfl sz58 rfl rfl (rfl) (by intro u hu; simp only [Opc.Row.cells, List.mem_cons, List.not_mem_nil, or_false] at hu; rcases hu with rfl | rfl | rfl | rfl | rfl <;> rfl) b2 (by simp [Opc.Row.cells])) rfl rfl ?_
            rintro H9 ⟨u9, b9⟩
            have o0 := o0.upd u9 (by omega)
            have zu9 := u9.1
            have b2 := b9
            refine KL.op (R.assign rfl rfl) rfl rfl rfl ?_
            refine KL.nil ?_
            refine KQ.seq ?_
            refine KC.ret ?_
            refine KQ.retBlock ?_
            refine KQ.retThen ?_
            refine KQ.retThen ?_
            refine KQ.retBlock ?_
            refine KQ.retThen ?_
            refine KQ.ofRet ?_
            refine KQ.finCell2 Try.results23 rfl Try.underlying58 rfl sz58 (cells_of b2) (rfl) rfl ?_
            first
              | (have hf : Opc.rfind op = some (Opc.middle.getD k default) := by
                   unfold Opc.rfind Opc.part
                   simp only [*, if_true, if_false]
                   exact Opc.find_at (by omega) (by simpa using ‹_›) hno
                 exact ⟨by rw [hf]; rfl, o0⟩)
              | (have hf : Opc.rfind op = none := by
                   unfold Opc.rfind Opc.part
                   simp only [*, if_true, if_false]
                   exact Opc.find_no (fun j hj => hno j (by omega))
                 exact ⟨by rw [hf]; rfl, o0⟩)
          · intro hc25
            try simp only [decide_eq_true_eq, decide_eq_false_iff_not, Bool.not_eq_true', Bool.not_eq_false', Bool.and_eq_true, Bool.or_eq_false_iff] at hc25
            refine KC.skip ?_
            refine KQ.normBlock ?_
            refine KQ.seq ?_
            refine KC.region ?_
            refine KL.op (R.move rfl rfl) rfl rfl rfl ?_
            refine KL.op ((R.add rfl rfl rfl (by dsimp only [InR]; omega)).val (congrArg (Value.int .i64) (show (k : Int) + 1 = ((k + 1 : Nat) : Int) by omega))) rfl rfl rfl ?_
            refine KL.op (R.assign rfl rfl) rfl rfl rfl ?_
            refine KL.nil ?_
            refine KQ.again (k + 1) ?_ ?_ ?_
            · exact (Sub.cons rfl (Ext.sub (by repeat (first | exact Ext.refl _ _ | refine Ext.put rfl ?_ | refine Ext.drop rfl ?_))))
            · omega
            · exact ⟨by omega, rfl, fun j hj => by
                by_cases e : j = k
                · subst e; simp_all
                · exact hno j (by omega)⟩
        · intro hc16
          try simp only [decide_eq_true_eq, decide_eq_false_iff_not, Bool.not_eq_true', Bool.not_eq_false', Bool.and_eq_true, Bool.or_eq_false_iff] at hc16
          refine KC.exit ?_
          refine KQ.exitThen ?_
          refine KQ.exitThen ?_
          refine KQ.hit ?_
          refine KQ.seq ?_
          refine KC.seq ?_
          refine KC.region ?_
          refine KL.op (R.buildL rfl Try.underlying58 zr58 [(0, 1), (1, 1), (2, 1), (3, 1), (4, 1)] (fun w => by kernel_rfl) rfl trivial rfl rfl trivial rfl) rfl rfl rfl ?_
          refine KL.opS (S.storeAgg rfl sz58 rfl rfl (rfl) (by simp [Value.oneCell']) b2 (by simp)) rfl rfl ?_
          rintro H10 ⟨u10, b10⟩
          have o0 := o0.upd u10 (by omega)
          have zu10 := u10.1
          have b2 := b10
          refine KL.op (R.assign rfl rfl) rfl rfl rfl ?_
          refine KL.nil ?_
          refine KQ.seq ?_
          refine KC.ret ?_
          refine KQ.ofRet ?_
          refine KQ.finCell2 Try.results23 rfl Try.underlying58 rfl sz58 (cells_of b2) (rfl) rfl ?_
          first
            | (have hf : Opc.rfind op = some (Opc.middle.getD k default) := by
                 unfold Opc.rfind Opc.part
                 simp only [*, if_true, if_false]
                 exact Opc.find_at (by omega) (by simpa using ‹_›) hno
               exact ⟨by rw [hf]; rfl, o0⟩)
            | (have hf : Opc.rfind op = none := by
                 unfold Opc.rfind Opc.part
                 simp only [*, if_true, if_false]
                 exact Opc.find_no (fun j hj => hno j (by omega))
               exact ⟨by rw [hf]; rfl, o0⟩)
    · intro hc11
      try simp only [decide_eq_true_eq, decide_eq_false_iff_not, Bool.not_eq_true', Bool.not_eq_false', Bool.and_eq_true, Bool.or_eq_false_iff] at hc11
      refine KC.skip ?_
      refine KQ.seq ?_
      refine KC.seq ?_
      refine KC.seq ?_
      refine KC.region ?_
      refine KL.op (R.assign rfl rfl) rfl rfl rfl ?_
      refine KL.nil ?_
      refine KQ.seq ?_
      refine KC.block ?_
      refine KC.loopD (κ := Nat) [13, 14, 15, 16, 19, 20, 21, 22, 23, 24, 25, 26, 27, 28, 29, 3, 17, 18, 5] (fun k => [(5, .int .i64 (k : Nat))]) (fun k Hl => k ≤ Opc.high.length ∧ H2 = Hl ∧ ∀ j, j < k → decide ((Opc.high.getD j default).op = op) = false) (fun k => Opc.high.length - k) 0 ?_ ?_ ?_
      · exact (Sub.cons rfl (Ext.sub (Ext.refl _ _)))
      · exact ⟨Nat.zero_le _, rfl, fun j hj => by omega⟩
      · rintro k H11 ⟨hk, rfl, hno⟩
        have hlen : Opc.high.length ≤ 120 := by decide
        refine KC.seq ?_
        refine KC.seq ?_
        refine KC.region ?_
        refine KL.op (R.move rfl rfl) rfl rfl rfl ?_
        refine KL.op (R.move rfl rfl) rfl rfl rfl ?_
        refine KL.op (R.lenS rfl Try.underlying81 rfl hl) rfl rfl rfl ?_
        refine KL.op (R.lss rfl rfl rfl) rfl rfl rfl ?_
        refine KL.nil ?_
        refine KQ.seq ?_
        refine KC.iteL rfl ?_ ?_
        · intro hc16
          try simp only [decide_eq_true_eq, decide_eq_false_iff_not, Bool.not_eq_true', Bool.not_eq_false', Bool.and_eq_true, Bool.or_eq_false_iff] at hc16
          have hcx := hl.rowAt k (by omega)
          refine KC.skip ?_
          refine KQ.seq ?_
          refine KC.seq ?_
          refine KC.block ?_
          refine KC.seq ?_
          refine KC.region ?_
          refine KL.op (R.move rfl rfl) rfl rfl rfl ?_
          refine KL.op (R.move rfl rfl) rfl rfl rfl ?_
          refine KL.op (R.index (j := k) rfl Try.underlying81 sz58 rfl rfl hl rfl (by omega)) rfl rfl rfl ?_
          refine KL.op ((by first | exact R.fieldAddr rfl Try.underlying58 rfl rfl sz5 rfl | exact R.fieldAddrP rfl Try.underlying58 rfl rfl sz5 rfl)) rfl rfl rfl ?_
          refine KL.op (R.load rfl Try.underlying5 rfl rfl (cells_nth hcx rfl)) rfl rfl rfl ?_
          refine KL.op (R.move rfl rfl) rfl rfl rfl ?_
          refine KL.op (R.eql rfl rfl rfl) rfl rfl rfl ?_
          refine KL.nil ?_
          refine KQ.seq ?_
          refine KC.iteL rfl ?_ ?_
          · intro hc25
            try simp only [decide_eq_true_eq, decide_eq_false_iff_not, Bool.not_eq_true', Bool.not_eq_false', Bool.and_eq_true, Bool.or_eq_false_iff] at hc25
            refine KC.seq ?_
            refine KC.region ?_
            refine KL.op (R.move rfl rfl) rfl rfl rfl ?_
            refine KL.op (R.move rfl rfl) rfl rfl rfl ?_
            refine KL.op (R.index (j := k) rfl Try.underlying81 sz58 rfl rfl hl rfl (by omega)) rfl rfl rfl ?_
            refine KL.op (R.loadAgg rfl Try.underlying58 rfl sz58 rfl hcx rfl) rfl rfl rfl ?_
            refine KL.opS (S.storeAgg rfl sz58 rfl rfl (rfl) (by intro u hu; simp only [Opc.Row.cells, List.mem_cons, List.not_mem_nil, or_false] at hu; rcases hu with rfl | rfl | rfl | rfl | rfl <;> rfl) b2 (by simp [Opc.Row.cells])) rfl rfl ?_
            rintro H12 ⟨u12, b12⟩
            have o0 := o0.upd u12 (by omega)
            have zu12 := u12.1
            have b2 := b12
            refine KL.op (R.assign rfl rfl) rfl rfl rfl ?_
            refine KL.nil ?_
            refine KQ.seq ?_
            refine KC.ret ?_
            refine KQ.retBlock ?_
            refine KQ.retThen ?_
            refine KQ.retThen ?_
            refine KQ.retBlock ?_
            refine KQ.retThen ?_
            refine KQ.ofRet ?_
            refine KQ.finCell2 Try.results23 rfl Try.underlying58 rfl sz58 (cells_of b2) (rfl) rfl ?_
            first
              | (have hf : Opc.rfind op = some (Opc.high.getD k default) := by
                   unfold Opc.rfind Opc.part
                   simp only [*, if_true, if_false]
                   exact Opc.find_at (by omega) (by simpa using ‹_›) hno
                 exact ⟨by rw [hf]; rfl, o0⟩)
              | (have hf : Opc.rfind op = none := by
                   unfold Opc.rfind Opc.part
                   simp only [*, if_true, if_false]
                   exact Opc.find_no (fun j hj => hno j (by omega))
                 exact ⟨by rw [hf]; rfl, o0⟩)
          · intro hc25
            try simp only [decide_eq_true_eq, decide_eq_false_iff_not, Bool.not_eq_true', Bool.not_eq_false', Bool.and_eq_true, Bool.or_eq_false_iff] at hc25
            refine KC.skip ?_
            refine KQ.normBlock ?_
            refine KQ.seq ?_
            refine KC.region ?_
            refine KL.op (R.move rfl rfl) rfl rfl rfl ?_
            refine KL.op ((R.add rfl rfl rfl (by dsimp only [InR]; omega)).val (congrArg (Value.int .i64) (show (k : Int) + 1 = ((k + 1 : Nat) : Int) by omega))) rfl rfl rfl ?_
            refine KL.op (R.assign rfl rfl) rfl rfl rfl ?_
            refine KL.nil ?_
            refine KQ.again (k + 1) ?_ ?_ ?_
            · exact (Sub.cons rfl (Ext.sub (by repeat (first | exact Ext.refl _ _ | refine Ext.put rfl ?_ | refine Ext.drop rfl ?_))))
            · omega
            · exact ⟨by omega, rfl, fun j hj => by
                by_cases e : j = k
                · subst e; simp_all
                · exact hno j (by omega)⟩
        · intro hc16
          try simp only [decide_eq_true_eq, decide_eq_false_iff_not, Bool.not_eq_true', Bool.not_eq_false', Bool.and_eq_true, Bool.or_eq_false_iff] at hc16
          refine KC.exit ?_
          refine KQ.exitThen ?_
          refine KQ.exitThen ?_
          refine KQ.hit ?_
          refine KQ.seq ?_
          refine KC.seq ?_
          refine KC.region ?_
          refine KL.op (R.buildL rfl Try.underlying58 zr58 [(0, 1), (1, 1), (2, 1), (3, 1), (4, 1)] (fun w => by kernel_rfl) rfl trivial rfl rfl trivial rfl) rfl rfl rfl ?_
          refine KL.opS (S.storeAgg rfl sz58 rfl rfl (rfl) (by simp [Value.oneCell']) b2 (by simp)) rfl rfl ?_
          rintro H13 ⟨u13, b13⟩
          have o0 := o0.upd u13 (by omega)
          have zu13 := u13.1
          have b2 := b13
          refine KL.op (R.assign rfl rfl) rfl rfl rfl ?_
          refine KL.nil ?_
          refine KQ.seq ?_
          refine KC.ret ?_
          refine KQ.ofRet ?_
          refine KQ.finCell2 Try.results23 rfl Try.underlying58 rfl sz58 (cells_of b2) (rfl) rfl ?_
          first
            | (have hf : Opc.rfind op = some (Opc.high.getD k default) := by
                 unfold Opc.rfind Opc.part
                 simp only [*, if_true, if_false]
                 exact Opc.find_at (by omega) (by simpa using ‹_›) hno
               exact ⟨by rw [hf]; rfl, o0⟩)
            | (have hf : Opc.rfind op = none := by
                 unfold Opc.rfind Opc.part
                 simp only [*, if_true, if_false]
                 exact Opc.find_no (fun j hj => hno j (by omega))
               exact ⟨by rw [hf]; rfl, o0⟩)

end Go.Proofs.Ytnjodpgahbpiaaa
