/- The document of package opc: rows, and what each function answers. No condition. -/
import Derived.Test.YthgdaacbhcondaaDoorOpcB
namespace Go.Proofs.YthgdaacbhcondaaDoor
open Go Go.RowKit
set_option linter.unusedVariables false
set_option linter.unusedSimpArgs false
set_option linter.unnecessarySimpa false
namespace Opc
/-- a row of the document's table -/
structure Row where
  op : Int
  name : List Int
  form : Int
  sg : List Int
  width : Int
  deriving Inhabited
def Row.cells (x : Row) : List Value := [.int .u8 x.op, sv x.name, .int .u8 x.form, sv x.sg, .int .i64 x.width]
def Row.val (x : Row) : Value := .agg x.cells.toArray
def Row.zero : Row := ⟨0, [], 0, [], 0⟩
def low : List Row := [⟨0, [117, 110, 114, 101, 97, 99, 104, 97, 98, 108, 101], 0, [45], 0⟩, ⟨1, [110, 111, 112], 0, [45], 0⟩, ⟨2, [98, 108, 111, 99, 107], 1, [45], 0⟩, ⟨3, [108, 111, 111, 112], 1, [45], 0⟩, ⟨4, [105, 102], 1, [45], 0⟩, ⟨5, [101, 108, 115, 101], 0, [45], 0⟩, ⟨11, [101, 110, 100], 0, [45], 0⟩, ⟨12, [98, 114], 2, [45], 0⟩, ⟨13, [98, 114, 95, 105, 102], 2, [45], 0⟩, ⟨14, [98, 114, 95, 116, 97, 98, 108, 101], 3, [45], 0⟩, ⟨15, [114, 101, 116, 117, 114, 110], 0, [45], 0⟩, ⟨16, [99, 97, 108, 108], 4, [45], 0⟩, ⟨17, [99, 97, 108, 108, 95, 105, 110, 100, 105, 114, 101, 99, 116], 5, [45], 0⟩, ⟨26, [100, 114, 111, 112], 0, [45], 0⟩, ⟨27, [115, 101, 108, 101, 99, 116], 0, [45], 0⟩, ⟨32, [108, 111, 99, 97, 108, 46, 103, 101, 116], 4, [45], 0⟩, ⟨33, [108, 111, 99, 97, 108, 46, 115, 101, 116], 4, [45], 0⟩, ⟨34, [108, 111, 99, 97, 108, 46, 116, 101, 101], 4, [45], 0⟩, ⟨35, [103, 108, 111, 98, 97, 108, 46, 103, 101, 116], 4, [45], 0⟩, ⟨36, [103, 108, 111, 98, 97, 108, 46, 115, 101, 116], 4, [45], 0⟩, ⟨40, [105, 51, 50, 46, 108, 111, 97, 100], 6, [105, 62, 105], 4⟩, ⟨41, [105, 54, 52, 46, 108, 111, 97, 100], 6, [105, 62, 73], 8⟩, ⟨44, [105, 51, 50, 46, 108, 111, 97, 100, 56, 95, 115], 6, [105, 62, 105], 1⟩, ⟨45, [105, 51, 50, 46, 108, 111, 97, 100, 56, 95, 117], 6, [105, 62, 105], 1⟩, ⟨46, [105, 51, 50, 46, 108, 111, 97, 100, 49, 54, 95, 115], 6, [105, 62, 105], 2⟩, ⟨47, [105, 51, 50, 46, 108, 111, 97, 100, 49, 54, 95, 117], 6, [105, 62, 105], 2⟩, ⟨48, [105, 54, 52, 46, 108, 111, 97, 100, 56, 95, 115], 6, [105, 62, 73], 1⟩, ⟨49, [105, 54, 52, 46, 108, 111, 97, 100, 56, 95, 117], 6, [105, 62, 73], 1⟩, ⟨50, [105, 54, 52, 46, 108, 111, 97, 100, 49, 54, 95, 115], 6, [105, 62, 73], 2⟩, ⟨51, [105, 54, 52, 46, 108, 111, 97, 100, 49, 54, 95, 117], 6, [105, 62, 73], 2⟩, ⟨52, [105, 54, 52, 46, 108, 111, 97, 100, 51, 50, 95, 115], 6, [105, 62, 73], 4⟩, ⟨53, [105, 54, 52, 46, 108, 111, 97, 100, 51, 50, 95, 117], 6, [105, 62, 73], 4⟩, ⟨54, [105, 51, 50, 46, 115, 116, 111, 114, 101], 6, [105, 105, 62], 4⟩, ⟨55, [105, 54, 52, 46, 115, 116, 111, 114, 101], 6, [105, 73, 62], 8⟩, ⟨58, [105, 51, 50, 46, 115, 116, 111, 114, 101, 56], 6, [105, 105, 62], 1⟩, ⟨59, [105, 51, 50, 46, 115, 116, 111, 114, 101, 49, 54], 6, [105, 105, 62], 2⟩, ⟨60, [105, 54, 52, 46, 115, 116, 111, 114, 101, 56], 6, [105, 73, 62], 1⟩, ⟨61, [105, 54, 52, 46, 115, 116, 111, 114, 101, 49, 54], 6, [105, 73, 62], 2⟩, ⟨62, [105, 54, 52, 46, 115, 116, 111, 114, 101, 51, 50], 6, [105, 73, 62], 4⟩, ⟨63, [109, 101, 109, 111, 114, 121, 46, 115, 105, 122, 101], 7, [62, 105], 0⟩, ⟨64, [109, 101, 109, 111, 114, 121, 46, 103, 114, 111, 119], 7, [105, 62, 105], 0⟩, ⟨65, [105, 51, 50, 46, 99, 111, 110, 115, 116], 8, [62, 105], 0⟩, ⟨66, [105, 54, 52, 46, 99, 111, 110, 115, 116], 9, [62, 73], 0⟩]
def middle : List Row := [⟨69, [105, 51, 50, 46, 101, 113, 122], 0, [105, 62, 105], 0⟩, ⟨70, [105, 51, 50, 46, 101, 113], 0, [105, 105, 62, 105], 0⟩, ⟨71, [105, 51, 50, 46, 110, 101], 0, [105, 105, 62, 105], 0⟩, ⟨72, [105, 51, 50, 46, 108, 116, 95, 115], 0, [105, 105, 62, 105], 0⟩, ⟨73, [105, 51, 50, 46, 108, 116, 95, 117], 0, [105, 105, 62, 105], 0⟩, ⟨74, [105, 51, 50, 46, 103, 116, 95, 115], 0, [105, 105, 62, 105], 0⟩, ⟨75, [105, 51, 50, 46, 103, 116, 95, 117], 0, [105, 105, 62, 105], 0⟩, ⟨76, [105, 51, 50, 46, 108, 101, 95, 115], 0, [105, 105, 62, 105], 0⟩, ⟨77, [105, 51, 50, 46, 108, 101, 95, 117], 0, [105, 105, 62, 105], 0⟩, ⟨78, [105, 51, 50, 46, 103, 101, 95, 115], 0, [105, 105, 62, 105], 0⟩, ⟨79, [105, 51, 50, 46, 103, 101, 95, 117], 0, [105, 105, 62, 105], 0⟩, ⟨80, [105, 54, 52, 46, 101, 113, 122], 0, [73, 62, 105], 0⟩, ⟨81, [105, 54, 52, 46, 101, 113], 0, [73, 73, 62, 105], 0⟩, ⟨82, [105, 54, 52, 46, 110, 101], 0, [73, 73, 62, 105], 0⟩, ⟨83, [105, 54, 52, 46, 108, 116, 95, 115], 0, [73, 73, 62, 105], 0⟩, ⟨84, [105, 54, 52, 46, 108, 116, 95, 117], 0, [73, 73, 62, 105], 0⟩, ⟨85, [105, 54, 52, 46, 103, 116, 95, 115], 0, [73, 73, 62, 105], 0⟩, ⟨86, [105, 54, 52, 46, 103, 116, 95, 117], 0, [73, 73, 62, 105], 0⟩, ⟨87, [105, 54, 52, 46, 108, 101, 95, 115], 0, [73, 73, 62, 105], 0⟩, ⟨88, [105, 54, 52, 46, 108, 101, 95, 117], 0, [73, 73, 62, 105], 0⟩, ⟨89, [105, 54, 52, 46, 103, 101, 95, 115], 0, [73, 73, 62, 105], 0⟩, ⟨90, [105, 54, 52, 46, 103, 101, 95, 117], 0, [73, 73, 62, 105], 0⟩, ⟨103, [105, 51, 50, 46, 99, 108, 122], 0, [105, 62, 105], 0⟩, ⟨104, [105, 51, 50, 46, 99, 116, 122], 0, [105, 62, 105], 0⟩, ⟨105, [105, 51, 50, 46, 112, 111, 112, 99, 110, 116], 0, [105, 62, 105], 0⟩, ⟨106, [105, 51, 50, 46, 97, 100, 100], 0, [105, 105, 62, 105], 0⟩, ⟨107, [105, 51, 50, 46, 115, 117, 98], 0, [105, 105, 62, 105], 0⟩, ⟨108, [105, 51, 50, 46, 109, 117, 108], 0, [105, 105, 62, 105], 0⟩, ⟨109, [105, 51, 50, 46, 100, 105, 118, 95, 115], 0, [105, 105, 62, 105], 0⟩, ⟨110, [105, 51, 50, 46, 100, 105, 118, 95, 117], 0, [105, 105, 62, 105], 0⟩, ⟨111, [105, 51, 50, 46, 114, 101, 109, 95, 115], 0, [105, 105, 62, 105], 0⟩, ⟨112, [105, 51, 50, 46, 114, 101, 109, 95, 117], 0, [105, 105, 62, 105], 0⟩, ⟨113, [105, 51, 50, 46, 97, 110, 100], 0, [105, 105, 62, 105], 0⟩, ⟨114, [105, 51, 50, 46, 111, 114], 0, [105, 105, 62, 105], 0⟩, ⟨115, [105, 51, 50, 46, 120, 111, 114], 0, [105, 105, 62, 105], 0⟩, ⟨116, [105, 51, 50, 46, 115, 104, 108], 0, [105, 105, 62, 105], 0⟩, ⟨117, [105, 51, 50, 46, 115, 104, 114, 95, 115], 0, [105, 105, 62, 105], 0⟩, ⟨118, [105, 51, 50, 46, 115, 104, 114, 95, 117], 0, [105, 105, 62, 105], 0⟩, ⟨119, [105, 51, 50, 46, 114, 111, 116, 108], 0, [105, 105, 62, 105], 0⟩, ⟨120, [105, 51, 50, 46, 114, 111, 116, 114], 0, [105, 105, 62, 105], 0⟩]
def high : List Row := [⟨121, [105, 54, 52, 46, 99, 108, 122], 0, [73, 62, 73], 0⟩, ⟨122, [105, 54, 52, 46, 99, 116, 122], 0, [73, 62, 73], 0⟩, ⟨123, [105, 54, 52, 46, 112, 111, 112, 99, 110, 116], 0, [73, 62, 73], 0⟩, ⟨124, [105, 54, 52, 46, 97, 100, 100], 0, [73, 73, 62, 73], 0⟩, ⟨125, [105, 54, 52, 46, 115, 117, 98], 0, [73, 73, 62, 73], 0⟩, ⟨126, [105, 54, 52, 46, 109, 117, 108], 0, [73, 73, 62, 73], 0⟩, ⟨127, [105, 54, 52, 46, 100, 105, 118, 95, 115], 0, [73, 73, 62, 73], 0⟩, ⟨128, [105, 54, 52, 46, 100, 105, 118, 95, 117], 0, [73, 73, 62, 73], 0⟩, ⟨129, [105, 54, 52, 46, 114, 101, 109, 95, 115], 0, [73, 73, 62, 73], 0⟩, ⟨130, [105, 54, 52, 46, 114, 101, 109, 95, 117], 0, [73, 73, 62, 73], 0⟩, ⟨131, [105, 54, 52, 46, 97, 110, 100], 0, [73, 73, 62, 73], 0⟩, ⟨132, [105, 54, 52, 46, 111, 114], 0, [73, 73, 62, 73], 0⟩, ⟨133, [105, 54, 52, 46, 120, 111, 114], 0, [73, 73, 62, 73], 0⟩, ⟨134, [105, 54, 52, 46, 115, 104, 108], 0, [73, 73, 62, 73], 0⟩, ⟨135, [105, 54, 52, 46, 115, 104, 114, 95, 115], 0, [73, 73, 62, 73], 0⟩, ⟨136, [105, 54, 52, 46, 115, 104, 114, 95, 117], 0, [73, 73, 62, 73], 0⟩, ⟨137, [105, 54, 52, 46, 114, 111, 116, 108], 0, [73, 73, 62, 73], 0⟩, ⟨138, [105, 54, 52, 46, 114, 111, 116, 114], 0, [73, 73, 62, 73], 0⟩, ⟨167, [105, 51, 50, 46, 119, 114, 97, 112, 95, 105, 54, 52], 0, [73, 62, 105], 0⟩, ⟨172, [105, 54, 52, 46, 101, 120, 116, 101, 110, 100, 95, 105, 51, 50, 95, 115], 0, [105, 62, 73], 0⟩, ⟨173, [105, 54, 52, 46, 101, 120, 116, 101, 110, 100, 95, 105, 51, 50, 95, 117], 0, [105, 62, 73], 0⟩]
def rows : List Row := low ++ middle ++ high
def part (op : Int) : List Row := if op < 69 then low else if op < 121 then middle else high
def rfind (op : Int) : Option Row := (part op).find? fun r => decide (r.op = op)
def named (n : List Int) : Option Row := rows.find? fun r => decide (r.name = n)
def floats : List Int := [42, 43, 56, 57, 67, 68, 91, 102, 139, 166, 168, 171, 174, 191]
def rfloat (op : Int) : Bool := (List.range 7).any fun j => decide (floats.getD (2 * j) default ≤ op) && decide (op ≤ floats.getD (2 * j + 1) default)
def tys (s : List Int) : List Int := s.map fun c => if c = 105 then 127 else 126
def arrow (s : List Int) : Nat := s.findIdx fun c => decide (c = 62)
def rsig (op : Int) : List Int × List Int × Bool := match rfind op with
  | none => ([], [], false)
  | some r => if r.sg = [45] then ([], [], false) else (tys (r.sg.take (arrow r.sg)), tys (r.sg.drop (arrow r.sg + 1)), true)
theorem find_at {α : Type} [Inhabited α] {l : List α} {p : α → Bool} {k : Nat} (hk : k < l.length) (h : p (l.getD k default) = true) (hno : ∀ j, j < k → p (l.getD j default) = false) : l.find? p = some (l.getD k default) := by
  rw [List.find?_eq_some_iff_getElem]
  have e : ∀ j, (hj : j < l.length) → l.getD j default = l[j] := fun j hj => by rw [List.getD_eq_getElem?_getD, List.getElem?_eq_getElem hj]; rfl
  refine ⟨h, k, hk, (e k hk).symm, fun j hj => ?_⟩
  have := hno j hj
  rw [e j (by omega)] at this
  rw [this]; rfl
theorem find_no {α : Type} [Inhabited α] {l : List α} {p : α → Bool} (hno : ∀ j, j < l.length → p (l.getD j default) = false) : l.find? p = none := by
  rw [List.find?_eq_none]
  intro x hx
  obtain ⟨j, hj, rfl⟩ := List.getElem_of_mem hx
  have := hno j hj
  rw [List.getD_eq_getElem?_getD, List.getElem?_eq_getElem hj] at this
  simp only [Option.getD_some] at this
  simp [this]
theorem rows_range : ∀ r ∈ rows, (∀ x ∈ r.name, InR .u8 x) ∧ (∀ x ∈ r.sg, InR .u8 x) ∧ InR .u8 r.op ∧ r.name.length ≤ 40 ∧ r.sg.length ≤ 40 ∧ (r.sg = [45] ∨ 62 ∈ r.sg) := by decide +kernel
theorem part_sub (op : Int) : ∀ r ∈ part op, r ∈ rows := by
  intro r hr
  unfold part at hr
  unfold rows
  split at hr
  · simp [hr]
  · split at hr <;> simp [hr]
theorem rows_get {l : List Row} (hl : ∀ r ∈ l, r ∈ rows) {k : Nat} (hk : k < l.length) : l.getD k default ∈ rows := by
  rw [List.getD_eq_getElem?_getD, List.getElem?_eq_getElem hk]
  exact hl _ (List.getElem_mem hk)
theorem arrow_at {s : List Int} {k : Nat} (hk : k < s.length) (h : s.getD k default = 62) (hno : ∀ j, j < k → s.getD j default ≠ 62) : arrow s = k := by
  unfold arrow
  rw [List.findIdx_eq (by exact hk)]
  have e : ∀ j, (hj : j < s.length) → s.getD j default = s[j] := fun j hj => by rw [List.getD_eq_getElem?_getD, List.getElem?_eq_getElem hj]; rfl
  refine ⟨by rw [← e k hk]; simpa using h, fun j hj => ?_⟩
  have := hno j hj
  rw [e j (by omega)] at this
  simpa using this
theorem arrow_lt {s : List Int} {k : Nat} (h : (62 : Int) ∈ s) (hno : ∀ j, j < k → s.getD j default ≠ 62) : k < s.length := by
  obtain ⟨j, hj, e⟩ := List.getElem_of_mem h
  by_cases hk : k < s.length
  · exact hk
  · exact absurd (by rw [List.getD_eq_getElem?_getD, List.getElem?_eq_getElem hj]; exact e) (hno j (by omega))
theorem tys_step {s : List Int} {k : Nat} (hk : k < s.length) : tys (s.take (k + 1)) = tys (s.take k) ++ [if s.getD k default = 105 then 127 else 126] := by
  unfold tys
  rw [List.take_add_one, List.getElem?_eq_getElem hk, List.map_append, List.getD_eq_getElem?_getD, List.getElem?_eq_getElem hk]
  rfl
theorem rfloat_yes {op : Int} {k : Nat} (hk : k < 7) (h1 : floats.getD (2 * k) default ≤ op) (h2 : op ≤ floats.getD (2 * k + 1) default) : rfloat op = true := by
  unfold rfloat
  rw [List.any_eq_true]
  exact ⟨k, List.mem_range.2 hk, by simp only [Bool.and_eq_true, decide_eq_true_eq]; exact ⟨h1, h2⟩⟩
theorem rfloat_no {op : Int} (hno : ∀ j, j < 7 → ¬ (floats.getD (2 * j) default ≤ op ∧ op ≤ floats.getD (2 * j + 1) default)) : rfloat op = false := by
  unfold rfloat
  rw [List.any_eq_false]
  intro j hj
  have := hno j (List.mem_range.1 hj)
  simpa using this
end Opc
def ERow : El Opc.Row := fun _ cs x => cs = x.cells
instance keepsRow : Keeps ERow := ⟨fun _ h => h⟩
instance oneRow : One ERow := ⟨fun h u hu => by
  have h : _ = Opc.Row.cells _ := h
  subst h
  simp only [Opc.Row.cells, List.mem_cons, List.not_mem_nil, or_false] at hu
  rcases hu with rfl | rfl | rfl | rfl | rfl <;> rfl⟩
theorem flatV_at {α : Type} {f : α → List Value} {n : Nat} (hf : ∀ x, (f x).length = n) : ∀ (l : List α) (j : Nat) (x : α), nth l j = some x → ((flatV (l.map fun x => .agg (f x).toArray)).drop (j * n)).take n = f x := by
  intro l
  induction l with
  | nil => intro j x h; cases h
  | cons y l ih =>
    intro j x h
    simp only [List.map_cons, flatV, Value.cells]
    cases j with
    | zero =>
      injection h with h
      subst h
      simp only [Nat.zero_mul, List.drop_zero]
      rw [List.take_append_of_le_length (by simp [hf]), List.take_of_length_le (by simp [hf])]
    | succ j =>
      rw [show (j + 1) * n = (f y).length + j * n by rw [hf, Nat.add_mul]; omega, ← List.drop_drop]
      have : ((f y).toArray.toList ++ flatV (l.map fun x => .agg (f x).toArray)).drop (f y).length = flatV (l.map fun x => .agg (f x).toArray) := by simp
      rw [this]
      exact ih j x h
theorem flatV_row_length (l : List Opc.Row) : (flatV (l.map fun x => .agg x.cells.toArray)).length = l.length * 5 := by
  induction l with
  | nil => rfl
  | cons x l ih => simp only [List.map_cons, flatV, List.length_append, ih, Value.cells, List.length_cons]; simp [Opc.Row.cells]; omega
theorem rows_lit {H H' : Heap} {cs : List Value} {e : TypeId} {m : Nat} (l : List Opc.Row) (hn : New H cs e H') (hc : cs = flatV (l.map fun x => .agg x.cells.toArray)) (hm : m = l.length) (hmx : m ≤ 1000) : Own 5 ERow e H H.size H' (.slice (some ⟨H.size, 0, none⟩) m m) l := by
  subst hc
  exact Own.litN hn (Nat.le_refl _) hm (by unfold maxLen; omega) (flatV_row_length l) fun j x hj => flatV_at (f := Opc.Row.cells) (fun _ => rfl) l j x hj
theorem Sl.rowAt {H : Heap} {v : Value} {l : List Opc.Row} (h : Sl 5 ERow H v l) (j : Nat) (hj : j < l.length) : CellsH H ((vbase v).add (j * 5)) (l.getD j default).cells := by
  obtain ⟨cs, _, hc, e⟩ := h.at j hj
  have e : cs = Opc.Row.cells _ := e
  rw [← e]; exact hc

set_option maxRecDepth 100000 in
set_option maxHeartbeats 4000000 in
theorem low_any {H : Heap} : Ct Tryd.prog 19 [] H (fun u H' => Own 5 ERow 24 H H.size H' u Opc.low ∧ Old H H') := by
  refine Ct.mk Tryd.func19 rfl Tryd.ntmps19 rfl ?_
  intro W0 hW0
  have o0 : Old H H := Old.refl H
  refine KC.seq ?_
  refine KC.region ?_
  refine KL.op (R.assign rfl rfl) rfl rfl rfl ?_
  refine KL.nil ?_
  refine KQ.seq ?_
  refine KC.seq ?_
  refine KC.region ?_
  refine KL.op (R.buildL rfl Tryd.underlying24 zr24 [(0, 1), (1, 1), (2, 1), (3, 1), (4, 1)] (fun w => by kernel_rfl) rfl ⟨⟨_, rfl, rfl⟩, ⟨_, rfl, rfl⟩, ⟨_, rfl, rfl⟩, ⟨_, rfl, rfl⟩, ⟨_, rfl, rfl⟩, trivial⟩ rfl rfl ⟨⟨_, rfl, by first | rfl⟩, ⟨_, rfl, by first | rfl⟩, ⟨_, rfl, by first | rfl⟩, ⟨_, rfl, by first | rfl⟩, ⟨_, rfl, by first | rfl⟩, trivial⟩ rfl) rfl rfl rfl ?_
  refine KL.op (R.buildL rfl Tryd.underlying24 zr24 [(0, 1), (1, 1), (2, 1), (3, 1), (4, 1)] (fun w => by kernel_rfl) rfl ⟨⟨_, rfl, rfl⟩, ⟨_, rfl, rfl⟩, ⟨_, rfl, rfl⟩, ⟨_, rfl, rfl⟩, ⟨_, rfl, rfl⟩, trivial⟩ rfl rfl ⟨⟨_, rfl, by first | rfl⟩, ⟨_, rfl, by first | rfl⟩, ⟨_, rfl, by first | rfl⟩, ⟨_, rfl, by first | rfl⟩, ⟨_, rfl, by first | rfl⟩, trivial⟩ rfl) rfl rfl rfl ?_
  refine KL.op (R.buildL rfl Tryd.underlying24 zr24 [(0, 1), (1, 1), (2, 1), (3, 1), (4, 1)] (fun w => by kernel_rfl) rfl ⟨⟨_, rfl, rfl⟩, ⟨_, rfl, rfl⟩, ⟨_, rfl, rfl⟩, ⟨_, rfl, rfl⟩, ⟨_, rfl, rfl⟩, trivial⟩ rfl rfl ⟨⟨_, rfl, by first | rfl⟩, ⟨_, rfl, by first | rfl⟩, ⟨_, rfl, by first | rfl⟩, ⟨_, rfl, by first | rfl⟩, ⟨_, rfl, by first | rfl⟩, trivial⟩ rfl) rfl rfl rfl ?_
  refine KL.op (R.buildL rfl Tryd.underlying24 zr24 [(0, 1), (1, 1), (2, 1), (3, 1), (4, 1)] (fun w => by kernel_rfl) rfl ⟨⟨_, rfl, rfl⟩, ⟨_, rfl, rfl⟩, ⟨_, rfl, rfl⟩, ⟨_, rfl, rfl⟩, ⟨_, rfl, rfl⟩, trivial⟩ rfl rfl ⟨⟨_, rfl, by first | rfl⟩, ⟨_, rfl, by first | rfl⟩, ⟨_, rfl, by first | rfl⟩, ⟨_, rfl, by first | rfl⟩, ⟨_, rfl, by first | rfl⟩, trivial⟩ rfl) rfl rfl rfl ?_
  refine KL.op (R.buildL rfl Tryd.underlying24 zr24 [(0, 1), (1, 1), (2, 1), (3, 1), (4, 1)] (fun w => by kernel_rfl) rfl ⟨⟨_, rfl, rfl⟩, ⟨_, rfl, rfl⟩, ⟨_, rfl, rfl⟩, ⟨_, rfl, rfl⟩, ⟨_, rfl, rfl⟩, trivial⟩ rfl rfl ⟨⟨_, rfl, by first | rfl⟩, ⟨_, rfl, by first | rfl⟩, ⟨_, rfl, by first | rfl⟩, ⟨_, rfl, by first | rfl⟩, ⟨_, rfl, by first | rfl⟩, trivial⟩ rfl) rfl rfl rfl ?_
  refine KL.op (R.buildL rfl Tryd.underlying24 zr24 [(0, 1), (1, 1), (2, 1), (3, 1), (4, 1)] (fun w => by kernel_rfl) rfl ⟨⟨_, rfl, rfl⟩, ⟨_, rfl, rfl⟩, ⟨_, rfl, rfl⟩, ⟨_, rfl, rfl⟩, ⟨_, rfl, rfl⟩, trivial⟩ rfl rfl ⟨⟨_, rfl, by first | rfl⟩, ⟨_, rfl, by first | rfl⟩, ⟨_, rfl, by first | rfl⟩, ⟨_, rfl, by first | rfl⟩, ⟨_, rfl, by first | rfl⟩, trivial⟩ rfl) rfl rfl rfl ?_
  refine KL.op (R.buildL rfl Tryd.underlying24 zr24 [(0, 1), (1, 1), (2, 1), (3, 1), (4, 1)] (fun w => by kernel_rfl) rfl ⟨⟨_, rfl, rfl⟩, ⟨_, rfl, rfl⟩, ⟨_, rfl, rfl⟩, ⟨_, rfl, rfl⟩, ⟨_, rfl, rfl⟩, trivial⟩ rfl rfl ⟨⟨_, rfl, by first | rfl⟩, ⟨_, rfl, by first | rfl⟩, ⟨_, rfl, by first | rfl⟩, ⟨_, rfl, by first | rfl⟩, ⟨_, rfl, by first | rfl⟩, trivial⟩ rfl) rfl rfl rfl ?_
  refine KL.op (R.buildL rfl Tryd.underlying24 zr24 [(0, 1), (1, 1), (2, 1), (3, 1), (4, 1)] (fun w => by kernel_rfl) rfl ⟨⟨_, rfl, rfl⟩, ⟨_, rfl, rfl⟩, ⟨_, rfl, rfl⟩, ⟨_, rfl, rfl⟩, ⟨_, rfl, rfl⟩, trivial⟩ rfl rfl ⟨⟨_, rfl, by first | rfl⟩, ⟨_, rfl, by first | rfl⟩, ⟨_, rfl, by first | rfl⟩, ⟨_, rfl, by first | rfl⟩, ⟨_, rfl, by first | rfl⟩, trivial⟩ rfl) rfl rfl rfl ?_
  refine KL.op (R.buildL rfl Tryd.underlying24 zr24 [(0, 1), (1, 1), (2, 1), (3, 1), (4, 1)] (fun w => by kernel_rfl) rfl ⟨⟨_, rfl, rfl⟩, ⟨_, rfl, rfl⟩, ⟨_, rfl, rfl⟩, ⟨_, rfl, rfl⟩, ⟨_, rfl, rfl⟩, trivial⟩ rfl rfl ⟨⟨_, rfl, by first | rfl⟩, ⟨_, rfl, by first | rfl⟩, ⟨_, rfl, by first | rfl⟩, ⟨_, rfl, by first | rfl⟩, ⟨_, rfl, by first | rfl⟩, trivial⟩ rfl) rfl rfl rfl ?_
  refine KL.op (R.buildL rfl Tryd.underlying24 zr24 [(0, 1), (1, 1), (2, 1), (3, 1), (4, 1)] (fun w => by kernel_rfl) rfl ⟨⟨_, rfl, rfl⟩, ⟨_, rfl, rfl⟩, ⟨_, rfl, rfl⟩, ⟨_, rfl, rfl⟩, ⟨_, rfl, rfl⟩, trivial⟩ rfl rfl ⟨⟨_, rfl, by first | rfl⟩, ⟨_, rfl, by first | rfl⟩, ⟨_, rfl, by first | rfl⟩, ⟨_, rfl, by first | rfl⟩, ⟨_, rfl, by first | rfl⟩, trivial⟩ rfl) rfl rfl rfl ?_
  refine KL.op (R.buildL rfl Tryd.underlying24 zr24 [(0, 1), (1, 1), (2, 1), (3, 1), (4, 1)] (fun w => by kernel_rfl) rfl ⟨⟨_, rfl, rfl⟩, ⟨_, rfl, rfl⟩, ⟨_, rfl, rfl⟩, ⟨_, rfl, rfl⟩, ⟨_, rfl, rfl⟩, trivial⟩ rfl rfl ⟨⟨_, rfl, by first | rfl⟩, ⟨_, rfl, by first | rfl⟩, ⟨_, rfl, by first | rfl⟩, ⟨_, rfl, by first | rfl⟩, ⟨_, rfl, by first | rfl⟩, trivial⟩ rfl) rfl rfl rfl ?_
  refine KL.op (R.buildL rfl Tryd.underlying24 zr24 [(0, 1), (1, 1), (2, 1), (3, 1), (4, 1)] (fun w => by kernel_rfl) rfl ⟨⟨_, rfl, rfl⟩, ⟨_, rfl, rfl⟩, ⟨_, rfl, rfl⟩, ⟨_, rfl, rfl⟩, ⟨_, rfl, rfl⟩, trivial⟩ rfl rfl ⟨⟨_, rfl, by first | rfl⟩, ⟨_, rfl, by first | rfl⟩, ⟨_, rfl, by first | rfl⟩, ⟨_, rfl, by first | rfl⟩, ⟨_, rfl, by first | rfl⟩, trivial⟩ rfl) rfl rfl rfl ?_
  refine KL.op (R.buildL rfl Tryd.underlying24 zr24 [(0, 1), (1, 1), (2, 1), (3, 1), (4, 1)] (fun w => by kernel_rfl) rfl ⟨⟨_, rfl, rfl⟩, ⟨_, rfl, rfl⟩, ⟨_, rfl, rfl⟩, ⟨_, rfl, rfl⟩, ⟨_, rfl, rfl⟩, trivial⟩ rfl rfl ⟨⟨_, rfl, by first | rfl⟩, ⟨_, rfl, by first | rfl⟩, ⟨_, rfl, by first | rfl⟩, ⟨_, rfl, by first | rfl⟩, ⟨_, rfl, by first | rfl⟩, trivial⟩ rfl) rfl rfl rfl ?_
  refine KL.op (R.buildL rfl Tryd.underlying24 zr24 [(0, 1), (1, 1), (2, 1), (3, 1), (4, 1)] (fun w => by kernel_rfl) rfl ⟨⟨_, rfl, rfl⟩, ⟨_, rfl, rfl⟩, ⟨_, rfl, rfl⟩, ⟨_, rfl, rfl⟩, ⟨_, rfl, rfl⟩, trivial⟩ rfl rfl ⟨⟨_, rfl, by first | rfl⟩, ⟨_, rfl, by first | rfl⟩, ⟨_, rfl, by first | rfl⟩, ⟨_, rfl, by first | rfl⟩, ⟨_, rfl, by first | rfl⟩, trivial⟩ rfl) rfl rfl rfl ?_
  refine KL.op (R.buildL rfl Tryd.underlying24 zr24 [(0, 1), (1, 1), (2, 1), (3, 1), (4, 1)] (fun w => by kernel_rfl) rfl ⟨⟨_, rfl, rfl⟩, ⟨_, rfl, rfl⟩, ⟨_, rfl, rfl⟩, ⟨_, rfl, rfl⟩, ⟨_, rfl, rfl⟩, trivial⟩ rfl rfl ⟨⟨_, rfl, by first | rfl⟩, ⟨_, rfl, by first | rfl⟩, ⟨_, rfl, by first | rfl⟩, ⟨_, rfl, by first | rfl⟩, ⟨_, rfl, by first | rfl⟩, trivial⟩ rfl) rfl rfl rfl ?_
  refine KL.op (R.buildL rfl Tryd.underlying24 zr24 [(0, 1), (1, 1), (2, 1), (3, 1), (4, 1)] (fun w => by kernel_rfl) rfl ⟨⟨_, rfl, rfl⟩, ⟨_, rfl, rfl⟩, ⟨_, rfl, rfl⟩, ⟨_, rfl, rfl⟩, ⟨_, rfl, rfl⟩, trivial⟩ rfl rfl ⟨⟨_, rfl, by first | rfl⟩, ⟨_, rfl, by first | rfl⟩, ⟨_, rfl, by first | rfl⟩, ⟨_, rfl, by first | rfl⟩, ⟨_, rfl, by first | rfl⟩, trivial⟩ rfl) rfl rfl rfl ?_
  refine KL.op (R.buildL rfl Tryd.underlying24 zr24 [(0, 1), (1, 1), (2, 1), (3, 1), (4, 1)] (fun w => by kernel_rfl) rfl ⟨⟨_, rfl, rfl⟩, ⟨_, rfl, rfl⟩, ⟨_, rfl, rfl⟩, ⟨_, rfl, rfl⟩, ⟨_, rfl, rfl⟩, trivial⟩ rfl rfl ⟨⟨_, rfl, by first | rfl⟩, ⟨_, rfl, by first | rfl⟩, ⟨_, rfl, by first | rfl⟩, ⟨_, rfl, by first | rfl⟩, ⟨_, rfl, by first | rfl⟩, trivial⟩ rfl) rfl rfl rfl ?_
  refine KL.op (R.buildL rfl Tryd.underlying24 zr24 [(0, 1), (1, 1), (2, 1), (3, 1), (4, 1)] (fun w => by kernel_rfl) rfl ⟨⟨_, rfl, rfl⟩, ⟨_, rfl, rfl⟩, ⟨_, rfl, rfl⟩, ⟨_, rfl, rfl⟩, ⟨_, rfl, rfl⟩, trivial⟩ rfl rfl ⟨⟨_, rfl, by first | rfl⟩, ⟨_, rfl, by first | rfl⟩, ⟨_, rfl, by first | rfl⟩, ⟨_, rfl, by first | rfl⟩, ⟨_, rfl, by first | rfl⟩, trivial⟩ rfl) rfl rfl rfl ?_
  refine KL.op (R.buildL rfl Tryd.underlying24 zr24 [(0, 1), (1, 1), (2, 1), (3, 1), (4, 1)] (fun w => by kernel_rfl) rfl ⟨⟨_, rfl, rfl⟩, ⟨_, rfl, rfl⟩, ⟨_, rfl, rfl⟩, ⟨_, rfl, rfl⟩, ⟨_, rfl, rfl⟩, trivial⟩ rfl rfl ⟨⟨_, rfl, by first | rfl⟩, ⟨_, rfl, by first | rfl⟩, ⟨_, rfl, by first | rfl⟩, ⟨_, rfl, by first | rfl⟩, ⟨_, rfl, by first | rfl⟩, trivial⟩ rfl) rfl rfl rfl ?_
  refine KL.op (R.buildL rfl Tryd.underlying24 zr24 [(0, 1), (1, 1), (2, 1), (3, 1), (4, 1)] (fun w => by kernel_rfl) rfl ⟨⟨_, rfl, rfl⟩, ⟨_, rfl, rfl⟩, ⟨_, rfl, rfl⟩, ⟨_, rfl, rfl⟩, ⟨_, rfl, rfl⟩, trivial⟩ rfl rfl ⟨⟨_, rfl, by first | rfl⟩, ⟨_, rfl, by first | rfl⟩, ⟨_, rfl, by first | rfl⟩, ⟨_, rfl, by first | rfl⟩, ⟨_, rfl, by first | rfl⟩, trivial⟩ rfl) rfl rfl rfl ?_
  refine KL.op (R.buildL rfl Tryd.underlying24 zr24 [(0, 1), (1, 1), (2, 1), (3, 1), (4, 1)] (fun w => by kernel_rfl) rfl ⟨⟨_, rfl, rfl⟩, ⟨_, rfl, rfl⟩, ⟨_, rfl, rfl⟩, ⟨_, rfl, rfl⟩, ⟨_, rfl, rfl⟩, trivial⟩ rfl rfl ⟨⟨_, rfl, by first | rfl⟩, ⟨_, rfl, by first | rfl⟩, ⟨_, rfl, by first | rfl⟩, ⟨_, rfl, by first | rfl⟩, ⟨_, rfl, by first | rfl⟩, trivial⟩ rfl) rfl rfl rfl ?_
  refine KL.op (R.buildL rfl Tryd.underlying24 zr24 [(0, 1), (1, 1), (2, 1), (3, 1), (4, 1)] (fun w => by kernel_rfl) rfl ⟨⟨_, rfl, rfl⟩, ⟨_, rfl, rfl⟩, ⟨_, rfl, rfl⟩, ⟨_, rfl, rfl⟩, ⟨_, rfl, rfl⟩, trivial⟩ rfl rfl ⟨⟨_, rfl, by first | rfl⟩, ⟨_, rfl, by first | rfl⟩, ⟨_, rfl, by first | rfl⟩, ⟨_, rfl, by first | rfl⟩, ⟨_, rfl, by first | rfl⟩, trivial⟩ rfl) rfl rfl rfl ?_
  refine KL.op (R.buildL rfl Tryd.underlying24 zr24 [(0, 1), (1, 1), (2, 1), (3, 1), (4, 1)] (fun w => by kernel_rfl) rfl ⟨⟨_, rfl, rfl⟩, ⟨_, rfl, rfl⟩, ⟨_, rfl, rfl⟩, ⟨_, rfl, rfl⟩, ⟨_, rfl, rfl⟩, trivial⟩ rfl rfl ⟨⟨_, rfl, by first | rfl⟩, ⟨_, rfl, by first | rfl⟩, ⟨_, rfl, by first | rfl⟩, ⟨_, rfl, by first | rfl⟩, ⟨_, rfl, by first | rfl⟩, trivial⟩ rfl) rfl rfl rfl ?_
  refine KL.op (R.buildL rfl Tryd.underlying24 zr24 [(0, 1), (1, 1), (2, 1), (3, 1), (4, 1)] (fun w => by kernel_rfl) rfl ⟨⟨_, rfl, rfl⟩, ⟨_, rfl, rfl⟩, ⟨_, rfl, rfl⟩, ⟨_, rfl, rfl⟩, ⟨_, rfl, rfl⟩, trivial⟩ rfl rfl ⟨⟨_, rfl, by first | rfl⟩, ⟨_, rfl, by first | rfl⟩, ⟨_, rfl, by first | rfl⟩, ⟨_, rfl, by first | rfl⟩, ⟨_, rfl, by first | rfl⟩, trivial⟩ rfl) rfl rfl rfl ?_
  refine KL.op (R.buildL rfl Tryd.underlying24 zr24 [(0, 1), (1, 1), (2, 1), (3, 1), (4, 1)] (fun w => by kernel_rfl) rfl ⟨⟨_, rfl, rfl⟩, ⟨_, rfl, rfl⟩, ⟨_, rfl, rfl⟩, ⟨_, rfl, rfl⟩, ⟨_, rfl, rfl⟩, trivial⟩ rfl rfl ⟨⟨_, rfl, by first | rfl⟩, ⟨_, rfl, by first | rfl⟩, ⟨_, rfl, by first | rfl⟩, ⟨_, rfl, by first | rfl⟩, ⟨_, rfl, by first | rfl⟩, trivial⟩ rfl) rfl rfl rfl ?_
  refine KL.op (R.buildL rfl Tryd.underlying24 zr24 [(0, 1), (1, 1), (2, 1), (3, 1), (4, 1)] (fun w => by kernel_rfl) rfl ⟨⟨_, rfl, rfl⟩, ⟨_, rfl, rfl⟩, ⟨_, rfl, rfl⟩, ⟨_, rfl, rfl⟩, ⟨_, rfl, rfl⟩, trivial⟩ rfl rfl ⟨⟨_, rfl, by first | rfl⟩, ⟨_, rfl, by first | rfl⟩, ⟨_, rfl, by first | rfl⟩, ⟨_, rfl, by first | rfl⟩, ⟨_, rfl, by first | rfl⟩, trivial⟩ rfl) rfl rfl rfl ?_
  refine KL.op (R.buildL rfl Tryd.underlying24 zr24 [(0, 1), (1, 1), (2, 1), (3, 1), (4, 1)] (fun w => by kernel_rfl) rfl ⟨⟨_, rfl, rfl⟩, ⟨_, rfl, rfl⟩, ⟨_, rfl, rfl⟩, ⟨_, rfl, rfl⟩, ⟨_, rfl, rfl⟩, trivial⟩ rfl rfl ⟨⟨_, rfl, by first | rfl⟩, ⟨_, rfl, by first | rfl⟩, ⟨_, rfl, by first | rfl⟩, ⟨_, rfl, by first | rfl⟩, ⟨_, rfl, by first | rfl⟩, trivial⟩ rfl) rfl rfl rfl ?_
  refine KL.op (R.buildL rfl Tryd.underlying24 zr24 [(0, 1), (1, 1), (2, 1), (3, 1), (4, 1)] (fun w => by kernel_rfl) rfl ⟨⟨_, rfl, rfl⟩, ⟨_, rfl, rfl⟩, ⟨_, rfl, rfl⟩, ⟨_, rfl, rfl⟩, ⟨_, rfl, rfl⟩, trivial⟩ rfl rfl ⟨⟨_, rfl, by first | rfl⟩, ⟨_, rfl, by first | rfl⟩, ⟨_, rfl, by first | rfl⟩, ⟨_, rfl, by first | rfl⟩, ⟨_, rfl, by first | rfl⟩, trivial⟩ rfl) rfl rfl rfl ?_
  refine KL.op (R.buildL rfl Tryd.underlying24 zr24 [(0, 1), (1, 1), (2, 1), (3, 1), (4, 1)] (fun w => by kernel_rfl) rfl ⟨⟨_, rfl, rfl⟩, ⟨_, rfl, rfl⟩, ⟨_, rfl, rfl⟩, ⟨_, rfl, rfl⟩, ⟨_, rfl, rfl⟩, trivial⟩ rfl rfl ⟨⟨_, rfl, by first | rfl⟩, ⟨_, rfl, by first | rfl⟩, ⟨_, rfl, by first | rfl⟩, ⟨_, rfl, by first | rfl⟩, ⟨_, rfl, by first | rfl⟩, trivial⟩ rfl) rfl rfl rfl ?_
  refine KL.op (R.buildL rfl Tryd.underlying24 zr24 [(0, 1), (1, 1), (2, 1), (3, 1), (4, 1)] (fun w => by kernel_rfl) rfl ⟨⟨_, rfl, rfl⟩, ⟨_, rfl, rfl⟩, ⟨_, rfl, rfl⟩, ⟨_, rfl, rfl⟩, ⟨_, rfl, rfl⟩, trivial⟩ rfl rfl ⟨⟨_, rfl, by first | rfl⟩, ⟨_, rfl, by first | rfl⟩, ⟨_, rfl, by first | rfl⟩, ⟨_, rfl, by first | rfl⟩, ⟨_, rfl, by first | rfl⟩, trivial⟩ rfl) rfl rfl rfl ?_
  refine KL.op (R.buildL rfl Tryd.underlying24 zr24 [(0, 1), (1, 1), (2, 1), (3, 1), (4, 1)] (fun w => by kernel_rfl) rfl ⟨⟨_, rfl, rfl⟩, ⟨_, rfl, rfl⟩, ⟨_, rfl, rfl⟩, ⟨_, rfl, rfl⟩, ⟨_, rfl, rfl⟩, trivial⟩ rfl rfl ⟨⟨_, rfl, by first | rfl⟩, ⟨_, rfl, by first | rfl⟩, ⟨_, rfl, by first | rfl⟩, ⟨_, rfl, by first | rfl⟩, ⟨_, rfl, by first | rfl⟩, trivial⟩ rfl) rfl rfl rfl ?_
  refine KL.op (R.buildL rfl Tryd.underlying24 zr24 [(0, 1), (1, 1), (2, 1), (3, 1), (4, 1)] (fun w => by kernel_rfl) rfl ⟨⟨_, rfl, rfl⟩, ⟨_, rfl, rfl⟩, ⟨_, rfl, rfl⟩, ⟨_, rfl, rfl⟩, ⟨_, rfl, rfl⟩, trivial⟩ rfl rfl ⟨⟨_, rfl, by first | rfl⟩, ⟨_, rfl, by first | rfl⟩, ⟨_, rfl, by first | rfl⟩, ⟨_, rfl, by first | rfl⟩, ⟨_, rfl, by first | rfl⟩, trivial⟩ rfl) rfl rfl rfl ?_
  refine KL.op (R.buildL rfl Tryd.underlying24 zr24 [(0, 1), (1, 1), (2, 1), (3, 1), (4, 1)] (fun w => by kernel_rfl) rfl ⟨⟨_, rfl, rfl⟩, ⟨_, rfl, rfl⟩, ⟨_, rfl, rfl⟩, ⟨_, rfl, rfl⟩, ⟨_, rfl, rfl⟩, trivial⟩ rfl rfl ⟨⟨_, rfl, by first | rfl⟩, ⟨_, rfl, by first | rfl⟩, ⟨_, rfl, by first | rfl⟩, ⟨_, rfl, by first | rfl⟩, ⟨_, rfl, by first | rfl⟩, trivial⟩ rfl) rfl rfl rfl ?_
  refine KL.op (R.buildL rfl Tryd.underlying24 zr24 [(0, 1), (1, 1), (2, 1), (3, 1), (4, 1)] (fun w => by kernel_rfl) rfl ⟨⟨_, rfl, rfl⟩, ⟨_, rfl, rfl⟩, ⟨_, rfl, rfl⟩, ⟨_, rfl, rfl⟩, ⟨_, rfl, rfl⟩, trivial⟩ rfl rfl ⟨⟨_, rfl, by first | rfl⟩, ⟨_, rfl, by first | rfl⟩, ⟨_, rfl, by first | rfl⟩, ⟨_, rfl, by first | rfl⟩, ⟨_, rfl, by first | rfl⟩, trivial⟩ rfl) rfl rfl rfl ?_
  refine KL.op (R.buildL rfl Tryd.underlying24 zr24 [(0, 1), (1, 1), (2, 1), (3, 1), (4, 1)] (fun w => by kernel_rfl) rfl ⟨⟨_, rfl, rfl⟩, ⟨_, rfl, rfl⟩, ⟨_, rfl, rfl⟩, ⟨_, rfl, rfl⟩, ⟨_, rfl, rfl⟩, trivial⟩ rfl rfl ⟨⟨_, rfl, by first | rfl⟩, ⟨_, rfl, by first | rfl⟩, ⟨_, rfl, by first | rfl⟩, ⟨_, rfl, by first | rfl⟩, ⟨_, rfl, by first | rfl⟩, trivial⟩ rfl) rfl rfl rfl ?_
  refine KL.op (R.buildL rfl Tryd.underlying24 zr24 [(0, 1), (1, 1), (2, 1), (3, 1), (4, 1)] (fun w => by kernel_rfl) rfl ⟨⟨_, rfl, rfl⟩, ⟨_, rfl, rfl⟩, ⟨_, rfl, rfl⟩, ⟨_, rfl, rfl⟩, ⟨_, rfl, rfl⟩, trivial⟩ rfl rfl ⟨⟨_, rfl, by first | rfl⟩, ⟨_, rfl, by first | rfl⟩, ⟨_, rfl, by first | rfl⟩, ⟨_, rfl, by first | rfl⟩, ⟨_, rfl, by first | rfl⟩, trivial⟩ rfl) rfl rfl rfl ?_
  refine KL.op (R.buildL rfl Tryd.underlying24 zr24 [(0, 1), (1, 1), (2, 1), (3, 1), (4, 1)] (fun w => by kernel_rfl) rfl ⟨⟨_, rfl, rfl⟩, ⟨_, rfl, rfl⟩, ⟨_, rfl, rfl⟩, ⟨_, rfl, rfl⟩, ⟨_, rfl, rfl⟩, trivial⟩ rfl rfl ⟨⟨_, rfl, by first | rfl⟩, ⟨_, rfl, by first | rfl⟩, ⟨_, rfl, by first | rfl⟩, ⟨_, rfl, by first | rfl⟩, ⟨_, rfl, by first | rfl⟩, trivial⟩ rfl) rfl rfl rfl ?_
  refine KL.op (R.buildL rfl Tryd.underlying24 zr24 [(0, 1), (1, 1), (2, 1), (3, 1), (4, 1)] (fun w => by kernel_rfl) rfl ⟨⟨_, rfl, rfl⟩, ⟨_, rfl, rfl⟩, ⟨_, rfl, rfl⟩, ⟨_, rfl, rfl⟩, ⟨_, rfl, rfl⟩, trivial⟩ rfl rfl ⟨⟨_, rfl, by first | rfl⟩, ⟨_, rfl, by first | rfl⟩, ⟨_, rfl, by first | rfl⟩, ⟨_, rfl, by first | rfl⟩, ⟨_, rfl, by first | rfl⟩, trivial⟩ rfl) rfl rfl rfl ?_
  refine KL.op (R.buildL rfl Tryd.underlying24 zr24 [(0, 1), (1, 1), (2, 1), (3, 1), (4, 1)] (fun w => by kernel_rfl) rfl ⟨⟨_, rfl, rfl⟩, ⟨_, rfl, rfl⟩, ⟨_, rfl, rfl⟩, ⟨_, rfl, rfl⟩, ⟨_, rfl, rfl⟩, trivial⟩ rfl rfl ⟨⟨_, rfl, by first | rfl⟩, ⟨_, rfl, by first | rfl⟩, ⟨_, rfl, by first | rfl⟩, ⟨_, rfl, by first | rfl⟩, ⟨_, rfl, by first | rfl⟩, trivial⟩ rfl) rfl rfl rfl ?_
  refine KL.op (R.buildL rfl Tryd.underlying24 zr24 [(0, 1), (1, 1), (2, 1), (3, 1), (4, 1)] (fun w => by kernel_rfl) rfl ⟨⟨_, rfl, rfl⟩, ⟨_, rfl, rfl⟩, ⟨_, rfl, rfl⟩, ⟨_, rfl, rfl⟩, ⟨_, rfl, rfl⟩, trivial⟩ rfl rfl ⟨⟨_, rfl, by first | rfl⟩, ⟨_, rfl, by first | rfl⟩, ⟨_, rfl, by first | rfl⟩, ⟨_, rfl, by first | rfl⟩, ⟨_, rfl, by first | rfl⟩, trivial⟩ rfl) rfl rfl rfl ?_
  refine KL.op (R.buildL rfl Tryd.underlying24 zr24 [(0, 1), (1, 1), (2, 1), (3, 1), (4, 1)] (fun w => by kernel_rfl) rfl ⟨⟨_, rfl, rfl⟩, ⟨_, rfl, rfl⟩, ⟨_, rfl, rfl⟩, ⟨_, rfl, rfl⟩, ⟨_, rfl, rfl⟩, trivial⟩ rfl rfl ⟨⟨_, rfl, by first | rfl⟩, ⟨_, rfl, by first | rfl⟩, ⟨_, rfl, by first | rfl⟩, ⟨_, rfl, by first | rfl⟩, ⟨_, rfl, by first | rfl⟩, trivial⟩ rfl) rfl rfl rfl ?_
  refine KL.op (R.buildL rfl Tryd.underlying24 zr24 [(0, 1), (1, 1), (2, 1), (3, 1), (4, 1)] (fun w => by kernel_rfl) rfl ⟨⟨_, rfl, rfl⟩, ⟨_, rfl, rfl⟩, ⟨_, rfl, rfl⟩, ⟨_, rfl, rfl⟩, ⟨_, rfl, rfl⟩, trivial⟩ rfl rfl ⟨⟨_, rfl, by first | rfl⟩, ⟨_, rfl, by first | rfl⟩, ⟨_, rfl, by first | rfl⟩, ⟨_, rfl, by first | rfl⟩, ⟨_, rfl, by first | rfl⟩, trivial⟩ rfl) rfl rfl rfl ?_
  refine KL.op (R.buildL rfl Tryd.underlying24 zr24 [(0, 1), (1, 1), (2, 1), (3, 1), (4, 1)] (fun w => by kernel_rfl) rfl ⟨⟨_, rfl, rfl⟩, ⟨_, rfl, rfl⟩, ⟨_, rfl, rfl⟩, ⟨_, rfl, rfl⟩, ⟨_, rfl, rfl⟩, trivial⟩ rfl rfl ⟨⟨_, rfl, by first | rfl⟩, ⟨_, rfl, by first | rfl⟩, ⟨_, rfl, by first | rfl⟩, ⟨_, rfl, by first | rfl⟩, ⟨_, rfl, by first | rfl⟩, trivial⟩ rfl) rfl rfl rfl ?_
  refine KL.opM (M.lit rfl Tryd.underlying39 zs24 (by decide) rfl rfl rfl) rfl rfl rfl ?_
  rintro _ H1 ⟨rfl, n1⟩
  have z1 := n1.2.1
  have o0 := o0.trans n1.1
  have b1 := n1.2.2
  have wl : Own 5 ERow 24 H H.size H1 (.slice (some ⟨H.size, 0, none⟩) 43 43) Opc.low := rows_lit Opc.low n1 (by kernel_rfl) (by decide) (by decide)
  refine KL.op (R.assign rfl rfl) rfl rfl rfl ?_
  refine KL.nil ?_
  refine KQ.seq ?_
  refine KC.ret ?_
  refine KQ.ofRet ?_
  refine KQ.fin1 Tryd.results19 rfl ?_
  exact ⟨wl, o0⟩

set_option maxRecDepth 100000 in
set_option maxHeartbeats 4000000 in
theorem middle_any {H : Heap} : Ct Tryd.prog 20 [] H (fun u H' => Own 5 ERow 24 H H.size H' u Opc.middle ∧ Old H H') := by
  refine Ct.mk Tryd.func20 rfl Tryd.ntmps20 rfl ?_
  intro W0 hW0
  have o0 : Old H H := Old.refl H
  refine KC.seq ?_
  refine KC.region ?_
  refine KL.op (R.assign rfl rfl) rfl rfl rfl ?_
  refine KL.nil ?_
  refine KQ.seq ?_
  refine KC.seq ?_
  refine KC.region ?_
  refine KL.op (R.buildL rfl Tryd.underlying24 zr24 [(0, 1), (1, 1), (2, 1), (3, 1), (4, 1)] (fun w => by kernel_rfl) rfl ⟨⟨_, rfl, rfl⟩, ⟨_, rfl, rfl⟩, ⟨_, rfl, rfl⟩, ⟨_, rfl, rfl⟩, ⟨_, rfl, rfl⟩, trivial⟩ rfl rfl ⟨⟨_, rfl, by first | rfl⟩, ⟨_, rfl, by first | rfl⟩, ⟨_, rfl, by first | rfl⟩, ⟨_, rfl, by first | rfl⟩, ⟨_, rfl, by first | rfl⟩, trivial⟩ rfl) rfl rfl rfl ?_
  refine KL.op (R.buildL rfl Tryd.underlying24 zr24 [(0, 1), (1, 1), (2, 1), (3, 1), (4, 1)] (fun w => by kernel_rfl) rfl ⟨⟨_, rfl, rfl⟩, ⟨_, rfl, rfl⟩, ⟨_, rfl, rfl⟩, ⟨_, rfl, rfl⟩, ⟨_, rfl, rfl⟩, trivial⟩ rfl rfl ⟨⟨_, rfl, by first | rfl⟩, ⟨_, rfl, by first | rfl⟩, ⟨_, rfl, by first | rfl⟩, ⟨_, rfl, by first | rfl⟩, ⟨_, rfl, by first | rfl⟩, trivial⟩ rfl) rfl rfl rfl ?_
  refine KL.op (R.buildL rfl Tryd.underlying24 zr24 [(0, 1), (1, 1), (2, 1), (3, 1), (4, 1)] (fun w => by kernel_rfl) rfl ⟨⟨_, rfl, rfl⟩, ⟨_, rfl, rfl⟩, ⟨_, rfl, rfl⟩, ⟨_, rfl, rfl⟩, ⟨_, rfl, rfl⟩, trivial⟩ rfl rfl ⟨⟨_, rfl, by first | rfl⟩, ⟨_, rfl, by first | rfl⟩, ⟨_, rfl, by first | rfl⟩, ⟨_, rfl, by first | rfl⟩, ⟨_, rfl, by first | rfl⟩, trivial⟩ rfl) rfl rfl rfl ?_
  refine KL.op (R.buildL rfl Tryd.underlying24 zr24 [(0, 1), (1, 1), (2, 1), (3, 1), (4, 1)] (fun w => by kernel_rfl) rfl ⟨⟨_, rfl, rfl⟩, ⟨_, rfl, rfl⟩, ⟨_, rfl, rfl⟩, ⟨_, rfl, rfl⟩, ⟨_, rfl, rfl⟩, trivial⟩ rfl rfl ⟨⟨_, rfl, by first | rfl⟩, ⟨_, rfl, by first | rfl⟩, ⟨_, rfl, by first | rfl⟩, ⟨_, rfl, by first | rfl⟩, ⟨_, rfl, by first | rfl⟩, trivial⟩ rfl) rfl rfl rfl ?_
  refine KL.op (R.buildL rfl Tryd.underlying24 zr24 [(0, 1), (1, 1), (2, 1), (3, 1), (4, 1)] (fun w => by kernel_rfl) rfl ⟨⟨_, rfl, rfl⟩, ⟨_, rfl, rfl⟩, ⟨_, rfl, rfl⟩, ⟨_, rfl, rfl⟩, ⟨_, rfl, rfl⟩, trivial⟩ rfl rfl ⟨⟨_, rfl, by first | rfl⟩, ⟨_, rfl, by first | rfl⟩, ⟨_, rfl, by first | rfl⟩, ⟨_, rfl, by first | rfl⟩, ⟨_, rfl, by first | rfl⟩, trivial⟩ rfl) rfl rfl rfl ?_
  refine KL.op (R.buildL rfl Tryd.underlying24 zr24 [(0, 1), (1, 1), (2, 1), (3, 1), (4, 1)] (fun w => by kernel_rfl) rfl ⟨⟨_, rfl, rfl⟩, ⟨_, rfl, rfl⟩, ⟨_, rfl, rfl⟩, ⟨_, rfl, rfl⟩, ⟨_, rfl, rfl⟩, trivial⟩ rfl rfl ⟨⟨_, rfl, by first | rfl⟩, ⟨_, rfl, by first | rfl⟩, ⟨_, rfl, by first | rfl⟩, ⟨_, rfl, by first | rfl⟩, ⟨_, rfl, by first | rfl⟩, trivial⟩ rfl) rfl rfl rfl ?_
  refine KL.op (R.buildL rfl Tryd.underlying24 zr24 [(0, 1), (1, 1), (2, 1), (3, 1), (4, 1)] (fun w => by kernel_rfl) rfl ⟨⟨_, rfl, rfl⟩, ⟨_, rfl, rfl⟩, ⟨_, rfl, rfl⟩, ⟨_, rfl, rfl⟩, ⟨_, rfl, rfl⟩, trivial⟩ rfl rfl ⟨⟨_, rfl, by first | rfl⟩, ⟨_, rfl, by first | rfl⟩, ⟨_, rfl, by first | rfl⟩, ⟨_, rfl, by first | rfl⟩, ⟨_, rfl, by first | rfl⟩, trivial⟩ rfl) rfl rfl rfl ?_
  refine KL.op (R.buildL rfl Tryd.underlying24 zr24 [(0, 1), (1, 1), (2, 1), (3, 1), (4, 1)] (fun w => by kernel_rfl) rfl ⟨⟨_, rfl, rfl⟩, ⟨_, rfl, rfl⟩, ⟨_, rfl, rfl⟩, ⟨_, rfl, rfl⟩, ⟨_, rfl, rfl⟩, trivial⟩ rfl rfl ⟨⟨_, rfl, by first | rfl⟩, ⟨_, rfl, by first | rfl⟩, ⟨_, rfl, by first | rfl⟩, ⟨_, rfl, by first | rfl⟩, ⟨_, rfl, by first | rfl⟩, trivial⟩ rfl) rfl rfl rfl ?_
  refine KL.op (R.buildL rfl Tryd.underlying24 zr24 [(0, 1), (1, 1), (2, 1), (3, 1), (4, 1)] (fun w => by kernel_rfl) rfl ⟨⟨_, rfl, rfl⟩, ⟨_, rfl, rfl⟩, ⟨_, rfl, rfl⟩, ⟨_, rfl, rfl⟩, ⟨_, rfl, rfl⟩, trivial⟩ rfl rfl ⟨⟨_, rfl, by first | rfl⟩, ⟨_, rfl, by first | rfl⟩, ⟨_, rfl, by first | rfl⟩, ⟨_, rfl, by first | rfl⟩, ⟨_, rfl, by first | rfl⟩, trivial⟩ rfl) rfl rfl rfl ?_
  refine KL.op (R.buildL rfl Tryd.underlying24 zr24 [(0, 1), (1, 1), (2, 1), (3, 1), (4, 1)] (fun w => by kernel_rfl) rfl ⟨⟨_, rfl, rfl⟩, ⟨_, rfl, rfl⟩, ⟨_, rfl, rfl⟩, ⟨_, rfl, rfl⟩, ⟨_, rfl, rfl⟩, trivial⟩ rfl rfl ⟨⟨_, rfl, by first | rfl⟩, ⟨_, rfl, by first | rfl⟩, ⟨_, rfl, by first | rfl⟩, ⟨_, rfl, by first | rfl⟩, ⟨_, rfl, by first | rfl⟩, trivial⟩ rfl) rfl rfl rfl ?_
  refine KL.op (R.buildL rfl Tryd.underlying24 zr24 [(0, 1), (1, 1), (2, 1), (3, 1), (4, 1)] (fun w => by kernel_rfl) rfl ⟨⟨_, rfl, rfl⟩, ⟨_, rfl, rfl⟩, ⟨_, rfl, rfl⟩, ⟨_, rfl, rfl⟩, ⟨_, rfl, rfl⟩, trivial⟩ rfl rfl ⟨⟨_, rfl, by first | rfl⟩, ⟨_, rfl, by first | rfl⟩, ⟨_, rfl, by first | rfl⟩, ⟨_, rfl, by first | rfl⟩, ⟨_, rfl, by first | rfl⟩, trivial⟩ rfl) rfl rfl rfl ?_
  refine KL.op (R.buildL rfl Tryd.underlying24 zr24 [(0, 1), (1, 1), (2, 1), (3, 1), (4, 1)] (fun w => by kernel_rfl) rfl ⟨⟨_, rfl, rfl⟩, ⟨_, rfl, rfl⟩, ⟨_, rfl, rfl⟩, ⟨_, rfl, rfl⟩, ⟨_, rfl, rfl⟩, trivial⟩ rfl rfl ⟨⟨_, rfl, by first | rfl⟩, ⟨_, rfl, by first | rfl⟩, ⟨_, rfl, by first | rfl⟩, ⟨_, rfl, by first | rfl⟩, ⟨_, rfl, by first | rfl⟩, trivial⟩ rfl) rfl rfl rfl ?_
  refine KL.op (R.buildL rfl Tryd.underlying24 zr24 [(0, 1), (1, 1), (2, 1), (3, 1), (4, 1)] (fun w => by kernel_rfl) rfl ⟨⟨_, rfl, rfl⟩, ⟨_, rfl, rfl⟩, ⟨_, rfl, rfl⟩, ⟨_, rfl, rfl⟩, ⟨_, rfl, rfl⟩, trivial⟩ rfl rfl ⟨⟨_, rfl, by first | rfl⟩, ⟨_, rfl, by first | rfl⟩, ⟨_, rfl, by first | rfl⟩, ⟨_, rfl, by first | rfl⟩, ⟨_, rfl, by first | rfl⟩, trivial⟩ rfl) rfl rfl rfl ?_
  refine KL.op (R.buildL rfl Tryd.underlying24 zr24 [(0, 1), (1, 1), (2, 1), (3, 1), (4, 1)] (fun w => by kernel_rfl) rfl ⟨⟨_, rfl, rfl⟩, ⟨_, rfl, rfl⟩, ⟨_, rfl, rfl⟩, ⟨_, rfl, rfl⟩, ⟨_, rfl, rfl⟩, trivial⟩ rfl rfl ⟨⟨_, rfl, by first | rfl⟩, ⟨_, rfl, by first | rfl⟩, ⟨_, rfl, by first | rfl⟩, ⟨_, rfl, by first | rfl⟩, ⟨_, rfl, by first | rfl⟩, trivial⟩ rfl) rfl rfl rfl ?_
  refine KL.op (R.buildL rfl Tryd.underlying24 zr24 [(0, 1), (1, 1), (2, 1), (3, 1), (4, 1)] (fun w => by kernel_rfl) rfl ⟨⟨_, rfl, rfl⟩, ⟨_, rfl, rfl⟩, ⟨_, rfl, rfl⟩, ⟨_, rfl, rfl⟩, ⟨_, rfl, rfl⟩, trivial⟩ rfl rfl ⟨⟨_, rfl, by first | rfl⟩, ⟨_, rfl, by first | rfl⟩, ⟨_, rfl, by first | rfl⟩, ⟨_, rfl, by first | rfl⟩, ⟨_, rfl, by first | rfl⟩, trivial⟩ rfl) rfl rfl rfl ?_
  refine KL.op (R.buildL rfl Tryd.underlying24 zr24 [(0, 1), (1, 1), (2, 1), (3, 1), (4, 1)] (fun w => by kernel_rfl) rfl ⟨⟨_, rfl, rfl⟩, ⟨_, rfl, rfl⟩, ⟨_, rfl, rfl⟩, ⟨_, rfl, rfl⟩, ⟨_, rfl, rfl⟩, trivial⟩ rfl rfl ⟨⟨_, rfl, by first | rfl⟩, ⟨_, rfl, by first | rfl⟩, ⟨_, rfl, by first | rfl⟩, ⟨_, rfl, by first | rfl⟩, ⟨_, rfl, by first | rfl⟩, trivial⟩ rfl) rfl rfl rfl ?_
  refine KL.op (R.buildL rfl Tryd.underlying24 zr24 [(0, 1), (1, 1), (2, 1), (3, 1), (4, 1)] (fun w => by kernel_rfl) rfl ⟨⟨_, rfl, rfl⟩, ⟨_, rfl, rfl⟩, ⟨_, rfl, rfl⟩, ⟨_, rfl, rfl⟩, ⟨_, rfl, rfl⟩, trivial⟩ rfl rfl ⟨⟨_, rfl, by first | rfl⟩, ⟨_, rfl, by first | rfl⟩, ⟨_, rfl, by first | rfl⟩, ⟨_, rfl, by first | rfl⟩, ⟨_, rfl, by first | rfl⟩, trivial⟩ rfl) rfl rfl rfl ?_
  refine KL.op (R.buildL rfl Tryd.underlying24 zr24 [(0, 1), (1, 1), (2, 1), (3, 1), (4, 1)] (fun w => by kernel_rfl) rfl ⟨⟨_, rfl, rfl⟩, ⟨_, rfl, rfl⟩, ⟨_, rfl, rfl⟩, ⟨_, rfl, rfl⟩, ⟨_, rfl, rfl⟩, trivial⟩ rfl rfl ⟨⟨_, rfl, by first | rfl⟩, ⟨_, rfl, by first | rfl⟩, ⟨_, rfl, by first | rfl⟩, ⟨_, rfl, by first | rfl⟩, ⟨_, rfl, by first | rfl⟩, trivial⟩ rfl) rfl rfl rfl ?_
  refine KL.op (R.buildL rfl Tryd.underlying24 zr24 [(0, 1), (1, 1), (2, 1), (3, 1), (4, 1)] (fun w => by kernel_rfl) rfl ⟨⟨_, rfl, rfl⟩, ⟨_, rfl, rfl⟩, ⟨_, rfl, rfl⟩, ⟨_, rfl, rfl⟩, ⟨_, rfl, rfl⟩, trivial⟩ rfl rfl ⟨⟨_, rfl, by first | rfl⟩, ⟨_, rfl, by first | rfl⟩, ⟨_, rfl, by first | rfl⟩, ⟨_, rfl, by first | rfl⟩, ⟨_, rfl, by first | rfl⟩, trivial⟩ rfl) rfl rfl rfl ?_
  refine KL.op (R.buildL rfl Tryd.underlying24 zr24 [(0, 1), (1, 1), (2, 1), (3, 1), (4, 1)] (fun w => by kernel_rfl) rfl ⟨⟨_, rfl, rfl⟩, ⟨_, rfl, rfl⟩, ⟨_, rfl, rfl⟩, ⟨_, rfl, rfl⟩, ⟨_, rfl, rfl⟩, trivial⟩ rfl rfl ⟨⟨_, rfl, by first | rfl⟩, ⟨_, rfl, by first | rfl⟩, ⟨_, rfl, by first | rfl⟩, ⟨_, rfl, by first | rfl⟩, ⟨_, rfl, by first | rfl⟩, trivial⟩ rfl) rfl rfl rfl ?_
  refine KL.op (R.buildL rfl Tryd.underlying24 zr24 [(0, 1), (1, 1), (2, 1), (3, 1), (4, 1)] (fun w => by kernel_rfl) rfl ⟨⟨_, rfl, rfl⟩, ⟨_, rfl, rfl⟩, ⟨_, rfl, rfl⟩, ⟨_, rfl, rfl⟩, ⟨_, rfl, rfl⟩, trivial⟩ rfl rfl ⟨⟨_, rfl, by first | rfl⟩, ⟨_, rfl, by first | rfl⟩, ⟨_, rfl, by first | rfl⟩, ⟨_, rfl, by first | rfl⟩, ⟨_, rfl, by first | rfl⟩, trivial⟩ rfl) rfl rfl rfl ?_
  refine KL.op (R.buildL rfl Tryd.underlying24 zr24 [(0, 1), (1, 1), (2, 1), (3, 1), (4, 1)] (fun w => by kernel_rfl) rfl ⟨⟨_, rfl, rfl⟩, ⟨_, rfl, rfl⟩, ⟨_, rfl, rfl⟩, ⟨_, rfl, rfl⟩, ⟨_, rfl, rfl⟩, trivial⟩ rfl rfl ⟨⟨_, rfl, by first | rfl⟩, ⟨_, rfl, by first | rfl⟩, ⟨_, rfl, by first | rfl⟩, ⟨_, rfl, by first | rfl⟩, ⟨_, rfl, by first | rfl⟩, trivial⟩ rfl) rfl rfl rfl ?_
  refine KL.op (R.buildL rfl Tryd.underlying24 zr24 [(0, 1), (1, 1), (2, 1), (3, 1), (4, 1)] (fun w => by kernel_rfl) rfl ⟨⟨_, rfl, rfl⟩, ⟨_, rfl, rfl⟩, ⟨_, rfl, rfl⟩, ⟨_, rfl, rfl⟩, ⟨_, rfl, rfl⟩, trivial⟩ rfl rfl ⟨⟨_, rfl, by first | rfl⟩, ⟨_, rfl, by first | rfl⟩, ⟨_, rfl, by first | rfl⟩, ⟨_, rfl, by first | rfl⟩, ⟨_, rfl, by first | rfl⟩, trivial⟩ rfl) rfl rfl rfl ?_
  refine KL.op (R.buildL rfl Tryd.underlying24 zr24 [(0, 1), (1, 1), (2, 1), (3, 1), (4, 1)] (fun w => by kernel_rfl) rfl ⟨⟨_, rfl, rfl⟩, ⟨_, rfl, rfl⟩, ⟨_, rfl, rfl⟩, ⟨_, rfl, rfl⟩, ⟨_, rfl, rfl⟩, trivial⟩ rfl rfl ⟨⟨_, rfl, by first | rfl⟩, ⟨_, rfl, by first | rfl⟩, ⟨_, rfl, by first | rfl⟩, ⟨_, rfl, by first | rfl⟩, ⟨_, rfl, by first | rfl⟩, trivial⟩ rfl) rfl rfl rfl ?_
  refine KL.op (R.buildL rfl Tryd.underlying24 zr24 [(0, 1), (1, 1), (2, 1), (3, 1), (4, 1)] (fun w => by kernel_rfl) rfl ⟨⟨_, rfl, rfl⟩, ⟨_, rfl, rfl⟩, ⟨_, rfl, rfl⟩, ⟨_, rfl, rfl⟩, ⟨_, rfl, rfl⟩, trivial⟩ rfl rfl ⟨⟨_, rfl, by first | rfl⟩, ⟨_, rfl, by first | rfl⟩, ⟨_, rfl, by first | rfl⟩, ⟨_, rfl, by first | rfl⟩, ⟨_, rfl, by first | rfl⟩, trivial⟩ rfl) rfl rfl rfl ?_
  refine KL.op (R.buildL rfl Tryd.underlying24 zr24 [(0, 1), (1, 1), (2, 1), (3, 1), (4, 1)] (fun w => by kernel_rfl) rfl ⟨⟨_, rfl, rfl⟩, ⟨_, rfl, rfl⟩, ⟨_, rfl, rfl⟩, ⟨_, rfl, rfl⟩, ⟨_, rfl, rfl⟩, trivial⟩ rfl rfl ⟨⟨_, rfl, by first | rfl⟩, ⟨_, rfl, by first | rfl⟩, ⟨_, rfl, by first | rfl⟩, ⟨_, rfl, by first | rfl⟩, ⟨_, rfl, by first | rfl⟩, trivial⟩ rfl) rfl rfl rfl ?_
  refine KL.op (R.buildL rfl Tryd.underlying24 zr24 [(0, 1), (1, 1), (2, 1), (3, 1), (4, 1)] (fun w => by kernel_rfl) rfl ⟨⟨_, rfl, rfl⟩, ⟨_, rfl, rfl⟩, ⟨_, rfl, rfl⟩, ⟨_, rfl, rfl⟩, ⟨_, rfl, rfl⟩, trivial⟩ rfl rfl ⟨⟨_, rfl, by first | rfl⟩, ⟨_, rfl, by first | rfl⟩, ⟨_, rfl, by first | rfl⟩, ⟨_, rfl, by first | rfl⟩, ⟨_, rfl, by first | rfl⟩, trivial⟩ rfl) rfl rfl rfl ?_
  refine KL.op (R.buildL rfl Tryd.underlying24 zr24 [(0, 1), (1, 1), (2, 1), (3, 1), (4, 1)] (fun w => by kernel_rfl) rfl ⟨⟨_, rfl, rfl⟩, ⟨_, rfl, rfl⟩, ⟨_, rfl, rfl⟩, ⟨_, rfl, rfl⟩, ⟨_, rfl, rfl⟩, trivial⟩ rfl rfl ⟨⟨_, rfl, by first | rfl⟩, ⟨_, rfl, by first | rfl⟩, ⟨_, rfl, by first | rfl⟩, ⟨_, rfl, by first | rfl⟩, ⟨_, rfl, by first | rfl⟩, trivial⟩ rfl) rfl rfl rfl ?_
  refine KL.op (R.buildL rfl Tryd.underlying24 zr24 [(0, 1), (1, 1), (2, 1), (3, 1), (4, 1)] (fun w => by kernel_rfl) rfl ⟨⟨_, rfl, rfl⟩, ⟨_, rfl, rfl⟩, ⟨_, rfl, rfl⟩, ⟨_, rfl, rfl⟩, ⟨_, rfl, rfl⟩, trivial⟩ rfl rfl ⟨⟨_, rfl, by first | rfl⟩, ⟨_, rfl, by first | rfl⟩, ⟨_, rfl, by first | rfl⟩, ⟨_, rfl, by first | rfl⟩, ⟨_, rfl, by first | rfl⟩, trivial⟩ rfl) rfl rfl rfl ?_
  refine KL.op (R.buildL rfl Tryd.underlying24 zr24 [(0, 1), (1, 1), (2, 1), (3, 1), (4, 1)] (fun w => by kernel_rfl) rfl ⟨⟨_, rfl, rfl⟩, ⟨_, rfl, rfl⟩, ⟨_, rfl, rfl⟩, ⟨_, rfl, rfl⟩, ⟨_, rfl, rfl⟩, trivial⟩ rfl rfl ⟨⟨_, rfl, by first | rfl⟩, ⟨_, rfl, by first | rfl⟩, ⟨_, rfl, by first | rfl⟩, ⟨_, rfl, by first | rfl⟩, ⟨_, rfl, by first | rfl⟩, trivial⟩ rfl) rfl rfl rfl ?_
  refine KL.op (R.buildL rfl Tryd.underlying24 zr24 [(0, 1), (1, 1), (2, 1), (3, 1), (4, 1)] (fun w => by kernel_rfl) rfl ⟨⟨_, rfl, rfl⟩, ⟨_, rfl, rfl⟩, ⟨_, rfl, rfl⟩, ⟨_, rfl, rfl⟩, ⟨_, rfl, rfl⟩, trivial⟩ rfl rfl ⟨⟨_, rfl, by first | rfl⟩, ⟨_, rfl, by first | rfl⟩, ⟨_, rfl, by first | rfl⟩, ⟨_, rfl, by first | rfl⟩, ⟨_, rfl, by first | rfl⟩, trivial⟩ rfl) rfl rfl rfl ?_
  refine KL.op (R.buildL rfl Tryd.underlying24 zr24 [(0, 1), (1, 1), (2, 1), (3, 1), (4, 1)] (fun w => by kernel_rfl) rfl ⟨⟨_, rfl, rfl⟩, ⟨_, rfl, rfl⟩, ⟨_, rfl, rfl⟩, ⟨_, rfl, rfl⟩, ⟨_, rfl, rfl⟩, trivial⟩ rfl rfl ⟨⟨_, rfl, by first | rfl⟩, ⟨_, rfl, by first | rfl⟩, ⟨_, rfl, by first | rfl⟩, ⟨_, rfl, by first | rfl⟩, ⟨_, rfl, by first | rfl⟩, trivial⟩ rfl) rfl rfl rfl ?_
  refine KL.op (R.buildL rfl Tryd.underlying24 zr24 [(0, 1), (1, 1), (2, 1), (3, 1), (4, 1)] (fun w => by kernel_rfl) rfl ⟨⟨_, rfl, rfl⟩, ⟨_, rfl, rfl⟩, ⟨_, rfl, rfl⟩, ⟨_, rfl, rfl⟩, ⟨_, rfl, rfl⟩, trivial⟩ rfl rfl ⟨⟨_, rfl, by first | rfl⟩, ⟨_, rfl, by first | rfl⟩, ⟨_, rfl, by first | rfl⟩, ⟨_, rfl, by first | rfl⟩, ⟨_, rfl, by first | rfl⟩, trivial⟩ rfl) rfl rfl rfl ?_
  refine KL.op (R.buildL rfl Tryd.underlying24 zr24 [(0, 1), (1, 1), (2, 1), (3, 1), (4, 1)] (fun w => by kernel_rfl) rfl ⟨⟨_, rfl, rfl⟩, ⟨_, rfl, rfl⟩, ⟨_, rfl, rfl⟩, ⟨_, rfl, rfl⟩, ⟨_, rfl, rfl⟩, trivial⟩ rfl rfl ⟨⟨_, rfl, by first | rfl⟩, ⟨_, rfl, by first | rfl⟩, ⟨_, rfl, by first | rfl⟩, ⟨_, rfl, by first | rfl⟩, ⟨_, rfl, by first | rfl⟩, trivial⟩ rfl) rfl rfl rfl ?_
  refine KL.op (R.buildL rfl Tryd.underlying24 zr24 [(0, 1), (1, 1), (2, 1), (3, 1), (4, 1)] (fun w => by kernel_rfl) rfl ⟨⟨_, rfl, rfl⟩, ⟨_, rfl, rfl⟩, ⟨_, rfl, rfl⟩, ⟨_, rfl, rfl⟩, ⟨_, rfl, rfl⟩, trivial⟩ rfl rfl ⟨⟨_, rfl, by first | rfl⟩, ⟨_, rfl, by first | rfl⟩, ⟨_, rfl, by first | rfl⟩, ⟨_, rfl, by first | rfl⟩, ⟨_, rfl, by first | rfl⟩, trivial⟩ rfl) rfl rfl rfl ?_
  refine KL.op (R.buildL rfl Tryd.underlying24 zr24 [(0, 1), (1, 1), (2, 1), (3, 1), (4, 1)] (fun w => by kernel_rfl) rfl ⟨⟨_, rfl, rfl⟩, ⟨_, rfl, rfl⟩, ⟨_, rfl, rfl⟩, ⟨_, rfl, rfl⟩, ⟨_, rfl, rfl⟩, trivial⟩ rfl rfl ⟨⟨_, rfl, by first | rfl⟩, ⟨_, rfl, by first | rfl⟩, ⟨_, rfl, by first | rfl⟩, ⟨_, rfl, by first | rfl⟩, ⟨_, rfl, by first | rfl⟩, trivial⟩ rfl) rfl rfl rfl ?_
  refine KL.op (R.buildL rfl Tryd.underlying24 zr24 [(0, 1), (1, 1), (2, 1), (3, 1), (4, 1)] (fun w => by kernel_rfl) rfl ⟨⟨_, rfl, rfl⟩, ⟨_, rfl, rfl⟩, ⟨_, rfl, rfl⟩, ⟨_, rfl, rfl⟩, ⟨_, rfl, rfl⟩, trivial⟩ rfl rfl ⟨⟨_, rfl, by first | rfl⟩, ⟨_, rfl, by first | rfl⟩, ⟨_, rfl, by first | rfl⟩, ⟨_, rfl, by first | rfl⟩, ⟨_, rfl, by first | rfl⟩, trivial⟩ rfl) rfl rfl rfl ?_
  refine KL.op (R.buildL rfl Tryd.underlying24 zr24 [(0, 1), (1, 1), (2, 1), (3, 1), (4, 1)] (fun w => by kernel_rfl) rfl ⟨⟨_, rfl, rfl⟩, ⟨_, rfl, rfl⟩, ⟨_, rfl, rfl⟩, ⟨_, rfl, rfl⟩, ⟨_, rfl, rfl⟩, trivial⟩ rfl rfl ⟨⟨_, rfl, by first | rfl⟩, ⟨_, rfl, by first | rfl⟩, ⟨_, rfl, by first | rfl⟩, ⟨_, rfl, by first | rfl⟩, ⟨_, rfl, by first | rfl⟩, trivial⟩ rfl) rfl rfl rfl ?_
  refine KL.op (R.buildL rfl Tryd.underlying24 zr24 [(0, 1), (1, 1), (2, 1), (3, 1), (4, 1)] (fun w => by kernel_rfl) rfl ⟨⟨_, rfl, rfl⟩, ⟨_, rfl, rfl⟩, ⟨_, rfl, rfl⟩, ⟨_, rfl, rfl⟩, ⟨_, rfl, rfl⟩, trivial⟩ rfl rfl ⟨⟨_, rfl, by first | rfl⟩, ⟨_, rfl, by first | rfl⟩, ⟨_, rfl, by first | rfl⟩, ⟨_, rfl, by first | rfl⟩, ⟨_, rfl, by first | rfl⟩, trivial⟩ rfl) rfl rfl rfl ?_
  refine KL.op (R.buildL rfl Tryd.underlying24 zr24 [(0, 1), (1, 1), (2, 1), (3, 1), (4, 1)] (fun w => by kernel_rfl) rfl ⟨⟨_, rfl, rfl⟩, ⟨_, rfl, rfl⟩, ⟨_, rfl, rfl⟩, ⟨_, rfl, rfl⟩, ⟨_, rfl, rfl⟩, trivial⟩ rfl rfl ⟨⟨_, rfl, by first | rfl⟩, ⟨_, rfl, by first | rfl⟩, ⟨_, rfl, by first | rfl⟩, ⟨_, rfl, by first | rfl⟩, ⟨_, rfl, by first | rfl⟩, trivial⟩ rfl) rfl rfl rfl ?_
  refine KL.opM (M.lit rfl Tryd.underlying39 zs24 (by decide) rfl rfl rfl) rfl rfl rfl ?_
  rintro _ H1 ⟨rfl, n1⟩
  have z1 := n1.2.1
  have o0 := o0.trans n1.1
  have b1 := n1.2.2
  have wl : Own 5 ERow 24 H H.size H1 (.slice (some ⟨H.size, 0, none⟩) 40 40) Opc.middle := rows_lit Opc.middle n1 (by kernel_rfl) (by decide) (by decide)
  refine KL.op (R.assign rfl rfl) rfl rfl rfl ?_
  refine KL.nil ?_
  refine KQ.seq ?_
  refine KC.ret ?_
  refine KQ.ofRet ?_
  refine KQ.fin1 Tryd.results20 rfl ?_
  exact ⟨wl, o0⟩

set_option maxRecDepth 100000 in
set_option maxHeartbeats 4000000 in
theorem high_any {H : Heap} : Ct Tryd.prog 18 [] H (fun u H' => Own 5 ERow 24 H H.size H' u Opc.high ∧ Old H H') := by
  refine Ct.mk Tryd.func18 rfl Tryd.ntmps18 rfl ?_
  intro W0 hW0
  have o0 : Old H H := Old.refl H
  refine KC.seq ?_
  refine KC.region ?_
  refine KL.op (R.assign rfl rfl) rfl rfl rfl ?_
  refine KL.nil ?_
  refine KQ.seq ?_
  refine KC.seq ?_
  refine KC.region ?_
  refine KL.op (R.buildL rfl Tryd.underlying24 zr24 [(0, 1), (1, 1), (2, 1), (3, 1), (4, 1)] (fun w => by kernel_rfl) rfl ⟨⟨_, rfl, rfl⟩, ⟨_, rfl, rfl⟩, ⟨_, rfl, rfl⟩, ⟨_, rfl, rfl⟩, ⟨_, rfl, rfl⟩, trivial⟩ rfl rfl ⟨⟨_, rfl, by first | rfl⟩, ⟨_, rfl, by first | rfl⟩, ⟨_, rfl, by first | rfl⟩, ⟨_, rfl, by first | rfl⟩, ⟨_, rfl, by first | rfl⟩, trivial⟩ rfl) rfl rfl rfl ?_
  refine KL.op (R.buildL rfl Tryd.underlying24 zr24 [(0, 1), (1, 1), (2, 1), (3, 1), (4, 1)] (fun w => by kernel_rfl) rfl ⟨⟨_, rfl, rfl⟩, ⟨_, rfl, rfl⟩, ⟨_, rfl, rfl⟩, ⟨_, rfl, rfl⟩, ⟨_, rfl, rfl⟩, trivial⟩ rfl rfl ⟨⟨_, rfl, by first | rfl⟩, ⟨_, rfl, by first | rfl⟩, ⟨_, rfl, by first | rfl⟩, ⟨_, rfl, by first | rfl⟩, ⟨_, rfl, by first | rfl⟩, trivial⟩ rfl) rfl rfl rfl ?_
  refine KL.op (R.buildL rfl Tryd.underlying24 zr24 [(0, 1), (1, 1), (2, 1), (3, 1), (4, 1)] (fun w => by kernel_rfl) rfl ⟨⟨_, rfl, rfl⟩, ⟨_, rfl, rfl⟩, ⟨_, rfl, rfl⟩, ⟨_, rfl, rfl⟩, ⟨_, rfl, rfl⟩, trivial⟩ rfl rfl ⟨⟨_, rfl, by first | rfl⟩, ⟨_, rfl, by first | rfl⟩, ⟨_, rfl, by first | rfl⟩, ⟨_, rfl, by first | rfl⟩, ⟨_, rfl, by first | rfl⟩, trivial⟩ rfl) rfl rfl rfl ?_
  refine KL.op (R.buildL rfl Tryd.underlying24 zr24 [(0, 1), (1, 1), (2, 1), (3, 1), (4, 1)] (fun w => by kernel_rfl) rfl ⟨⟨_, rfl, rfl⟩, ⟨_, rfl, rfl⟩, ⟨_, rfl, rfl⟩, ⟨_, rfl, rfl⟩, ⟨_, rfl, rfl⟩, trivial⟩ rfl rfl ⟨⟨_, rfl, by first | rfl⟩, ⟨_, rfl, by first | rfl⟩, ⟨_, rfl, by first | rfl⟩, ⟨_, rfl, by first | rfl⟩, ⟨_, rfl, by first | rfl⟩, trivial⟩ rfl) rfl rfl rfl ?_
  refine KL.op (R.buildL rfl Tryd.underlying24 zr24 [(0, 1), (1, 1), (2, 1), (3, 1), (4, 1)] (fun w => by kernel_rfl) rfl ⟨⟨_, rfl, rfl⟩, ⟨_, rfl, rfl⟩, ⟨_, rfl, rfl⟩, ⟨_, rfl, rfl⟩, ⟨_, rfl, rfl⟩, trivial⟩ rfl rfl ⟨⟨_, rfl, by first | rfl⟩, ⟨_, rfl, by first | rfl⟩, ⟨_, rfl, by first | rfl⟩, ⟨_, rfl, by first | rfl⟩, ⟨_, rfl, by first | rfl⟩, trivial⟩ rfl) rfl rfl rfl ?_
  refine KL.op (R.buildL rfl Tryd.underlying24 zr24 [(0, 1), (1, 1), (2, 1), (3, 1), (4, 1)] (fun w => by kernel_rfl) rfl ⟨⟨_, rfl, rfl⟩, ⟨_, rfl, rfl⟩, ⟨_, rfl, rfl⟩, ⟨_, rfl, rfl⟩, ⟨_, rfl, rfl⟩, trivial⟩ rfl rfl ⟨⟨_, rfl, by first | rfl⟩, ⟨_, rfl, by first | rfl⟩, ⟨_, rfl, by first | rfl⟩, ⟨_, rfl, by first | rfl⟩, ⟨_, rfl, by first | rfl⟩, trivial⟩ rfl) rfl rfl rfl ?_
  refine KL.op (R.buildL rfl Tryd.underlying24 zr24 [(0, 1), (1, 1), (2, 1), (3, 1), (4, 1)] (fun w => by kernel_rfl) rfl ⟨⟨_, rfl, rfl⟩, ⟨_, rfl, rfl⟩, ⟨_, rfl, rfl⟩, ⟨_, rfl, rfl⟩, ⟨_, rfl, rfl⟩, trivial⟩ rfl rfl ⟨⟨_, rfl, by first | rfl⟩, ⟨_, rfl, by first | rfl⟩, ⟨_, rfl, by first | rfl⟩, ⟨_, rfl, by first | rfl⟩, ⟨_, rfl, by first | rfl⟩, trivial⟩ rfl) rfl rfl rfl ?_
  refine KL.op (R.buildL rfl Tryd.underlying24 zr24 [(0, 1), (1, 1), (2, 1), (3, 1), (4, 1)] (fun w => by kernel_rfl) rfl ⟨⟨_, rfl, rfl⟩, ⟨_, rfl, rfl⟩, ⟨_, rfl, rfl⟩, ⟨_, rfl, rfl⟩, ⟨_, rfl, rfl⟩, trivial⟩ rfl rfl ⟨⟨_, rfl, by first | rfl⟩, ⟨_, rfl, by first | rfl⟩, ⟨_, rfl, by first | rfl⟩, ⟨_, rfl, by first | rfl⟩, ⟨_, rfl, by first | rfl⟩, trivial⟩ rfl) rfl rfl rfl ?_
  refine KL.op (R.buildL rfl Tryd.underlying24 zr24 [(0, 1), (1, 1), (2, 1), (3, 1), (4, 1)] (fun w => by kernel_rfl) rfl ⟨⟨_, rfl, rfl⟩, ⟨_, rfl, rfl⟩, ⟨_, rfl, rfl⟩, ⟨_, rfl, rfl⟩, ⟨_, rfl, rfl⟩, trivial⟩ rfl rfl ⟨⟨_, rfl, by first | rfl⟩, ⟨_, rfl, by first | rfl⟩, ⟨_, rfl, by first | rfl⟩, ⟨_, rfl, by first | rfl⟩, ⟨_, rfl, by first | rfl⟩, trivial⟩ rfl) rfl rfl rfl ?_
  refine KL.op (R.buildL rfl Tryd.underlying24 zr24 [(0, 1), (1, 1), (2, 1), (3, 1), (4, 1)] (fun w => by kernel_rfl) rfl ⟨⟨_, rfl, rfl⟩, ⟨_, rfl, rfl⟩, ⟨_, rfl, rfl⟩, ⟨_, rfl, rfl⟩, ⟨_, rfl, rfl⟩, trivial⟩ rfl rfl ⟨⟨_, rfl, by first | rfl⟩, ⟨_, rfl, by first | rfl⟩, ⟨_, rfl, by first | rfl⟩, ⟨_, rfl, by first | rfl⟩, ⟨_, rfl, by first | rfl⟩, trivial⟩ rfl) rfl rfl rfl ?_
  refine KL.op (R.buildL rfl Tryd.underlying24 zr24 [(0, 1), (1, 1), (2, 1), (3, 1), (4, 1)] (fun w => by kernel_rfl) rfl ⟨⟨_, rfl, rfl⟩, ⟨_, rfl, rfl⟩, ⟨_, rfl, rfl⟩, ⟨_, rfl, rfl⟩, ⟨_, rfl, rfl⟩, trivial⟩ rfl rfl ⟨⟨_, rfl, by first | rfl⟩, ⟨_, rfl, by first | rfl⟩, ⟨_, rfl, by first | rfl⟩, ⟨_, rfl, by first | rfl⟩, ⟨_, rfl, by first | rfl⟩, trivial⟩ rfl) rfl rfl rfl ?_
  refine KL.op (R.buildL rfl Tryd.underlying24 zr24 [(0, 1), (1, 1), (2, 1), (3, 1), (4, 1)] (fun w => by kernel_rfl) rfl ⟨⟨_, rfl, rfl⟩, ⟨_, rfl, rfl⟩, ⟨_, rfl, rfl⟩, ⟨_, rfl, rfl⟩, ⟨_, rfl, rfl⟩, trivial⟩ rfl rfl ⟨⟨_, rfl, by first | rfl⟩, ⟨_, rfl, by first | rfl⟩, ⟨_, rfl, by first | rfl⟩, ⟨_, rfl, by first | rfl⟩, ⟨_, rfl, by first | rfl⟩, trivial⟩ rfl) rfl rfl rfl ?_
  refine KL.op (R.buildL rfl Tryd.underlying24 zr24 [(0, 1), (1, 1), (2, 1), (3, 1), (4, 1)] (fun w => by kernel_rfl) rfl ⟨⟨_, rfl, rfl⟩, ⟨_, rfl, rfl⟩, ⟨_, rfl, rfl⟩, ⟨_, rfl, rfl⟩, ⟨_, rfl, rfl⟩, trivial⟩ rfl rfl ⟨⟨_, rfl, by first | rfl⟩, ⟨_, rfl, by first | rfl⟩, ⟨_, rfl, by first | rfl⟩, ⟨_, rfl, by first | rfl⟩, ⟨_, rfl, by first | rfl⟩, trivial⟩ rfl) rfl rfl rfl ?_
  refine KL.op (R.buildL rfl Tryd.underlying24 zr24 [(0, 1), (1, 1), (2, 1), (3, 1), (4, 1)] (fun w => by kernel_rfl) rfl ⟨⟨_, rfl, rfl⟩, ⟨_, rfl, rfl⟩, ⟨_, rfl, rfl⟩, ⟨_, rfl, rfl⟩, ⟨_, rfl, rfl⟩, trivial⟩ rfl rfl ⟨⟨_, rfl, by first | rfl⟩, ⟨_, rfl, by first | rfl⟩, ⟨_, rfl, by first | rfl⟩, ⟨_, rfl, by first | rfl⟩, ⟨_, rfl, by first | rfl⟩, trivial⟩ rfl) rfl rfl rfl ?_
  refine KL.op (R.buildL rfl Tryd.underlying24 zr24 [(0, 1), (1, 1), (2, 1), (3, 1), (4, 1)] (fun w => by kernel_rfl) rfl ⟨⟨_, rfl, rfl⟩, ⟨_, rfl, rfl⟩, ⟨_, rfl, rfl⟩, ⟨_, rfl, rfl⟩, ⟨_, rfl, rfl⟩, trivial⟩ rfl rfl ⟨⟨_, rfl, by first | rfl⟩, ⟨_, rfl, by first | rfl⟩, ⟨_, rfl, by first | rfl⟩, ⟨_, rfl, by first | rfl⟩, ⟨_, rfl, by first | rfl⟩, trivial⟩ rfl) rfl rfl rfl ?_
  refine KL.op (R.buildL rfl Tryd.underlying24 zr24 [(0, 1), (1, 1), (2, 1), (3, 1), (4, 1)] (fun w => by kernel_rfl) rfl ⟨⟨_, rfl, rfl⟩, ⟨_, rfl, rfl⟩, ⟨_, rfl, rfl⟩, ⟨_, rfl, rfl⟩, ⟨_, rfl, rfl⟩, trivial⟩ rfl rfl ⟨⟨_, rfl, by first | rfl⟩, ⟨_, rfl, by first | rfl⟩, ⟨_, rfl, by first | rfl⟩, ⟨_, rfl, by first | rfl⟩, ⟨_, rfl, by first | rfl⟩, trivial⟩ rfl) rfl rfl rfl ?_
  refine KL.op (R.buildL rfl Tryd.underlying24 zr24 [(0, 1), (1, 1), (2, 1), (3, 1), (4, 1)] (fun w => by kernel_rfl) rfl ⟨⟨_, rfl, rfl⟩, ⟨_, rfl, rfl⟩, ⟨_, rfl, rfl⟩, ⟨_, rfl, rfl⟩, ⟨_, rfl, rfl⟩, trivial⟩ rfl rfl ⟨⟨_, rfl, by first | rfl⟩, ⟨_, rfl, by first | rfl⟩, ⟨_, rfl, by first | rfl⟩, ⟨_, rfl, by first | rfl⟩, ⟨_, rfl, by first | rfl⟩, trivial⟩ rfl) rfl rfl rfl ?_
  refine KL.op (R.buildL rfl Tryd.underlying24 zr24 [(0, 1), (1, 1), (2, 1), (3, 1), (4, 1)] (fun w => by kernel_rfl) rfl ⟨⟨_, rfl, rfl⟩, ⟨_, rfl, rfl⟩, ⟨_, rfl, rfl⟩, ⟨_, rfl, rfl⟩, ⟨_, rfl, rfl⟩, trivial⟩ rfl rfl ⟨⟨_, rfl, by first | rfl⟩, ⟨_, rfl, by first | rfl⟩, ⟨_, rfl, by first | rfl⟩, ⟨_, rfl, by first | rfl⟩, ⟨_, rfl, by first | rfl⟩, trivial⟩ rfl) rfl rfl rfl ?_
  refine KL.op (R.buildL rfl Tryd.underlying24 zr24 [(0, 1), (1, 1), (2, 1), (3, 1), (4, 1)] (fun w => by kernel_rfl) rfl ⟨⟨_, rfl, rfl⟩, ⟨_, rfl, rfl⟩, ⟨_, rfl, rfl⟩, ⟨_, rfl, rfl⟩, ⟨_, rfl, rfl⟩, trivial⟩ rfl rfl ⟨⟨_, rfl, by first | rfl⟩, ⟨_, rfl, by first | rfl⟩, ⟨_, rfl, by first | rfl⟩, ⟨_, rfl, by first | rfl⟩, ⟨_, rfl, by first | rfl⟩, trivial⟩ rfl) rfl rfl rfl ?_
  refine KL.op (R.buildL rfl Tryd.underlying24 zr24 [(0, 1), (1, 1), (2, 1), (3, 1), (4, 1)] (fun w => by kernel_rfl) rfl ⟨⟨_, rfl, rfl⟩, ⟨_, rfl, rfl⟩, ⟨_, rfl, rfl⟩, ⟨_, rfl, rfl⟩, ⟨_, rfl, rfl⟩, trivial⟩ rfl rfl ⟨⟨_, rfl, by first | rfl⟩, ⟨_, rfl, by first | rfl⟩, ⟨_, rfl, by first | rfl⟩, ⟨_, rfl, by first | rfl⟩, ⟨_, rfl, by first | rfl⟩, trivial⟩ rfl) rfl rfl rfl ?_
  refine KL.op (R.buildL rfl Tryd.underlying24 zr24 [(0, 1), (1, 1), (2, 1), (3, 1), (4, 1)] (fun w => by kernel_rfl) rfl ⟨⟨_, rfl, rfl⟩, ⟨_, rfl, rfl⟩, ⟨_, rfl, rfl⟩, ⟨_, rfl, rfl⟩, ⟨_, rfl, rfl⟩, trivial⟩ rfl rfl ⟨⟨_, rfl, by first | rfl⟩, ⟨_, rfl, by first | rfl⟩, ⟨_, rfl, by first | rfl⟩, ⟨_, rfl, by first | rfl⟩, ⟨_, rfl, by first | rfl⟩, trivial⟩ rfl) rfl rfl rfl ?_
  refine KL.opM (M.lit rfl Tryd.underlying39 zs24 (by decide) rfl rfl rfl) rfl rfl rfl ?_
  rintro _ H1 ⟨rfl, n1⟩
  have z1 := n1.2.1
  have o0 := o0.trans n1.1
  have b1 := n1.2.2
  have wl : Own 5 ERow 24 H H.size H1 (.slice (some ⟨H.size, 0, none⟩) 21 21) Opc.high := rows_lit Opc.high n1 (by kernel_rfl) (by decide) (by decide)
  refine KL.op (R.assign rfl rfl) rfl rfl rfl ?_
  refine KL.nil ?_
  refine KQ.seq ?_
  refine KC.ret ?_
  refine KQ.ofRet ?_
  refine KQ.fin1 Tryd.results18 rfl ?_
  exact ⟨wl, o0⟩

set_option maxRecDepth 100000 in
set_option maxHeartbeats 4000000 in
theorem Rows_any {H : Heap} : Ct Tryd.prog 26 [] H (fun u H' => Own 5 ERow 24 H H.size H' u Opc.rows ∧ Old H H') := by
  refine Ct.mk Tryd.func26 rfl Tryd.ntmps26 rfl ?_
  intro W0 hW0
  have o0 : Old H H := Old.refl H
  refine KC.seq ?_
  refine KC.region ?_
  refine KL.op (R.assign rfl rfl) rfl rfl rfl ?_
  refine KL.nil ?_
  refine KQ.seq ?_
  refine KC.seq ?_
  refine KC.region ?_
  refine KL.call rfl rfl rfl rfl Tryd.call19 rfl rfl rfl (low_any) ?_
  rintro vl H1 ⟨wl, ox⟩
  have zc_H1 := (ox).1
  have o0 := o0.trans ox
  refine KL.call rfl rfl rfl rfl Tryd.call20 rfl rfl rfl (middle_any) ?_
  rintro vm H2 ⟨wm, ox⟩
  have zc_H2 := (ox).1
  have o0 := o0.trans ox
  have wl := wl.old ox
  have hm2 := wm.sl (by assumption) (by decide)
  have lt3 := wl.lt
  refine KL.opM (M.append rfl Tryd.underlying39 inf24 rfl (by decide) rfl rfl wl (by exact hm2) (fun _ _ h _ => h) (by omega) (by decide) (by unfold maxLen; decide)) rfl rfl rfl ?_
  rintro vb H3 ⟨w3, g3⟩
  try dsimp only at g3
  have ob3 := g3.oldB wl (by omega)
  have o0 := o0.then ob3 (by omega)
  have z3 := ob3.1
  have wl := w3
  refine KL.call rfl rfl rfl rfl Tryd.call18 rfl rfl rfl (high_any) ?_
  rintro vh H4 ⟨wh, ox⟩
  have zc_H4 := (ox).1
  have o0 := o0.trans ox
  have wl := wl.old ox
  have hh2 := wh.sl (by assumption) (by decide)
  have lt5 := wl.lt
  refine KL.opM (M.append rfl Tryd.underlying39 inf24 rfl (by decide) rfl rfl wl (by exact hh2) (fun _ _ h _ => h) (by omega) (by decide) (by unfold maxLen; decide)) rfl rfl rfl ?_
  rintro vc H5 ⟨w5, g5⟩
  try dsimp only at g5
  have ob5 := g5.oldB wl (by omega)
  have o0 := o0.then ob5 (by omega)
  have z5 := ob5.1
  have wl := w5
  refine KL.op (R.assign rfl rfl) rfl rfl rfl ?_
  refine KL.nil ?_
  refine KQ.seq ?_
  refine KC.ret ?_
  refine KQ.ofRet ?_
  refine KQ.fin1 Tryd.results26 rfl ?_
  exact ⟨wl, o0⟩

theorem cells_nth {H : Heap} {p : Addr} {cs : List Value} {i : Nat} {v : Value} (h : CellsH H p cs) (hv : nth cs i = some v) : cellH H (p.add i) = some v := h i v hv

set_option maxRecDepth 100000 in
set_option maxHeartbeats 4000000 in
theorem RFind_any {H : Heap} (op : Int) : Ct Tryd.prog 7 [.int .u8 op] H (fun u H' => u = .tuple #[((Opc.rfind op).getD Opc.Row.zero).val, .bool (Opc.rfind op).isSome] ∧ Old H H') := by
  refine Ct.mk Tryd.func7 rfl Tryd.ntmps7 rfl ?_
  intro W0 hW0
  have o0 : Old H H := Old.refl H
  refine KC.seq ?_
  refine KC.region ?_
  refine KL.opM (M.alloc rfl zr24 rfl) rfl rfl rfl ?_
  rintro _ H1 ⟨rfl, n1⟩
  have z1 := n1.2.1
  have o0 := o0.trans n1.1
  have b1 := n1.2.2
  have b2 := b1
  refine KL.op (R.assign rfl rfl) rfl rfl rfl ?_
  refine KL.nil ?_
  refine KQ.seq ?_
  refine KC.seq ?_
  refine KC.region ?_
  refine KL.call rfl rfl rfl rfl Tryd.call18 rfl rfl rfl (high_any) ?_
  rintro vl H2 ⟨wl, ox⟩
  have zc_H2 := (ox).1
  have o0 := o0.trans ox
  have b2 := (ox).blk b2
  have hl := wl.sl (by first | exact ox | exact o0) (by decide)
  have hsub : ∀ r ∈ Opc.high, r ∈ Opc.rows := by intro r hr; unfold Opc.rows; simp [hr]
  refine KL.op (R.assign rfl rfl) rfl rfl rfl ?_
  refine KL.nil ?_
  refine KQ.seq ?_
  refine KC.seq ?_
  refine KC.seq ?_
  refine KC.region ?_
  refine KL.op (R.move rfl rfl) rfl rfl rfl ?_
  refine KL.op (R.lss rfl rfl rfl) rfl rfl rfl ?_
  refine KL.nil ?_
  refine KQ.seq ?_
  refine KC.iteL rfl ?_ ?_
  · intro hc8
    try simp only [decide_eq_true_eq, decide_eq_false_iff_not, Bool.not_eq_true', Bool.not_eq_false', Bool.and_eq_true, Bool.or_eq_false_iff] at hc8
    refine KC.region ?_
    refine KL.call rfl rfl rfl rfl Tryd.call19 rfl rfl rfl (low_any) ?_
    rintro vl H3 ⟨wl, ox⟩
    have zc_H3 := (ox).1
    have o0 := o0.trans ox
    have b2 := (ox).blk b2
    have hl := hl.old ox
    have hl := wl.sl (by first | exact ox | exact o0) (by decide)
    have hsub : ∀ r ∈ Opc.low, r ∈ Opc.rows := by intro r hr; unfold Opc.rows; simp [hr]
    refine KL.op (R.assign rfl rfl) rfl rfl rfl ?_
    refine KL.nil ?_
    refine KQ.seq ?_
    refine KC.seq ?_
    refine KC.seq ?_
    refine KC.region ?_
    refine KL.op (R.assign rfl rfl) rfl rfl rfl ?_
    refine KL.nil ?_
    refine KQ.seq ?_
    refine KC.block ?_
    refine KC.loopD (κ := Nat) [13, 14, 15, 16, 19, 20, 21, 22, 23, 24, 25, 26, 27, 28, 29, 3, 17, 18, 5] (fun k => [(5, .int .i64 (k : Nat))]) (fun k Hl => k ≤ Opc.low.length ∧ H3 = Hl ∧ ∀ j, j < k → decide ((Opc.low.getD j default).op = op) = false) (fun k => Opc.low.length - k) 0 ?_ ?_ ?_
    · exact (Sub.cons rfl (Ext.sub (Ext.refl _ _)))
    · exact ⟨Nat.zero_le _, rfl, fun j hj => by omega⟩
    · rintro k H4 ⟨hk, rfl, hno⟩
      have hlen : Opc.low.length ≤ 120 := by decide
      refine KC.seq ?_
      refine KC.seq ?_
      refine KC.region ?_
      refine KL.op (R.move rfl rfl) rfl rfl rfl ?_
      refine KL.op (R.move rfl rfl) rfl rfl rfl ?_
      refine KL.op (R.lenS rfl Tryd.underlying39 rfl hl) rfl rfl rfl ?_
      refine KL.op (R.lss rfl rfl rfl) rfl rfl rfl ?_
      refine KL.nil ?_
      refine KQ.seq ?_
      refine KC.iteL rfl ?_ ?_
      · intro hc16
        try simp only [decide_eq_true_eq, decide_eq_false_iff_not, Bool.not_eq_true', Bool.not_eq_false', Bool.and_eq_true, Bool.or_eq_false_iff] at hc16
        have hcx := hl.rowAt k (by omega)
        refine KC.skip ?_
        refine KQ.seq ?_
        refine KC.seq ?_
        refine KC.block ?_
        refine KC.seq ?_
        refine KC.region ?_
        refine KL.op (R.move rfl rfl) rfl rfl rfl ?_
        refine KL.op (R.move rfl rfl) rfl rfl rfl ?_
        refine KL.op (R.index (j := k) rfl Tryd.underlying39 sz24 rfl rfl hl rfl (by omega)) rfl rfl rfl ?_
        refine KL.op ((by first | exact R.fieldAddr rfl Tryd.underlying24 rfl rfl sz5 rfl | exact R.fieldAddrP rfl Tryd.underlying24 rfl rfl sz5 rfl)) rfl rfl rfl ?_
        refine KL.op (R.load rfl Tryd.underlying5 rfl rfl (cells_nth hcx rfl)) rfl rfl rfl ?_
        refine KL.op (R.move rfl rfl) rfl rfl rfl ?_
        refine KL.op (R.eql rfl rfl rfl) rfl rfl rfl ?_
        refine KL.nil ?_
        refine KQ.seq ?_
        refine KC.iteL rfl ?_ ?_
        · intro hc25
          try simp only [decide_eq_true_eq, decide_eq_false_iff_not, Bool.not_eq_true', Bool.not_eq_false', Bool.and_eq_true, Bool.or_eq_false_iff] at hc25
          refine KC.seq ?_
          refine KC.region ?_
          refine KL.op (R.move rfl rfl) rfl rfl rfl ?_
          refine KL.op (R.move rfl rfl) rfl rfl rfl ?_
          refine KL.op (R.index (j := k) rfl Tryd.underlying39 sz24 rfl rfl hl rfl (by omega)) rfl rfl rfl ?_
          refine KL.op (R.loadAgg rfl Tryd.underlying24 rfl sz24 rfl hcx rfl) rfl rfl rfl ?_
          refine KL.opS (S.storeAgg rfl sz24 rfl rfl (rfl) (by intro u hu; simp only [Opc.Row.cells, List.mem_cons, List.not_mem_nil, or_false] at hu; rcases hu with rfl | rfl | rfl | rfl | rfl <;> rfl) b2 (by simp [Opc.Row.cells])) rfl rfl ?_
          rintro H5 ⟨u5, b5⟩
          have o0 := o0.upd u5 (by omega)
          have zu5 := u5.1
          have b2 := b5
          refine KL.op (R.assign rfl rfl) rfl rfl rfl ?_
          refine KL.nil ?_
          refine KQ.seq ?_
          refine KC.ret ?_
          refine KQ.retBlock ?_
          refine KQ.retThen ?_
          refine KQ.retThen ?_
          refine KQ.retBlock ?_
          refine KQ.retThen ?_
          refine KQ.ofRet ?_
          refine KQ.finCell2 Tryd.results7 rfl Tryd.underlying24 rfl sz24 (cells_of b2) (rfl) rfl ?_
          first
            | (have hf : Opc.rfind op = some (Opc.low.getD k default) := by
                 unfold Opc.rfind Opc.part
                 simp only [*, if_true, if_false]
                 exact Opc.find_at (by omega) (by simpa using ‹_›) hno
               exact ⟨by rw [hf]; rfl, o0⟩)
            | (have hf : Opc.rfind op = none := by
                 unfold Opc.rfind Opc.part
                 simp only [*, if_true, if_false]
                 exact Opc.find_no (fun j hj => hno j (by omega))
               exact ⟨by rw [hf]; rfl, o0⟩)
        · intro hc25
          try simp only [decide_eq_true_eq, decide_eq_false_iff_not, Bool.not_eq_true', Bool.not_eq_false', Bool.and_eq_true, Bool.or_eq_false_iff] at hc25
          refine KC.skip ?_
          refine KQ.normBlock ?_
          refine KQ.seq ?_
          refine KC.region ?_
          refine KL.op (R.move rfl rfl) rfl rfl rfl ?_
          refine KL.op ((R.add rfl rfl rfl (by dsimp only [InR]; omega)).val (congrArg (Value.int .i64) (show (k : Int) + 1 = ((k + 1 : Nat) : Int) by omega))) rfl rfl rfl ?_
          refine KL.op (R.assign rfl rfl) rfl rfl rfl ?_
          refine KL.nil ?_
          refine KQ.again (k + 1) ?_ ?_ ?_
          · exact (Sub.cons rfl (Ext.sub (by repeat (first | exact Ext.refl _ _ | refine Ext.put rfl ?_ | refine Ext.drop rfl ?_))))
          · omega
          · exact ⟨by omega, rfl, fun j hj => by
              by_cases e : j = k
              · subst e; simp_all
              · exact hno j (by omega)⟩
      · intro hc16
        try simp only [decide_eq_true_eq, decide_eq_false_iff_not, Bool.not_eq_true', Bool.not_eq_false', Bool.and_eq_true, Bool.or_eq_false_iff] at hc16
        refine KC.exit ?_
        refine KQ.exitThen ?_
        refine KQ.exitThen ?_
        refine KQ.hit ?_
        refine KQ.seq ?_
        refine KC.seq ?_
        refine KC.region ?_
        refine KL.op (R.buildL rfl Tryd.underlying24 zr24 [(0, 1), (1, 1), (2, 1), (3, 1), (4, 1)] (fun w => by kernel_rfl) rfl trivial rfl rfl trivial rfl) rfl rfl rfl ?_
        refine KL.opS (S.storeAgg rfl sz24 rfl rfl (rfl) (by simp [Value.oneCell']) b2 (by simp)) rfl rfl ?_
        rintro H6 ⟨u6, b6⟩
        have o0 := o0.upd u6 (by omega)
        have zu6 := u6.1
        have b2 := b6
        refine KL.op (R.assign rfl rfl) rfl rfl rfl ?_
        refine KL.nil ?_
        refine KQ.seq ?_
        refine KC.ret ?_
        refine KQ.ofRet ?_
        refine KQ.finCell2 Tryd.results7 rfl Tryd.underlying24 rfl sz24 (cells_of b2) (rfl) rfl ?_
        first
          | (have hf : Opc.rfind op = some (Opc.low.getD k default) := by
               unfold Opc.rfind Opc.part
               simp only [*, if_true, if_false]
               exact Opc.find_at (by omega) (by simpa using ‹_›) hno
             exact ⟨by rw [hf]; rfl, o0⟩)
          | (have hf : Opc.rfind op = none := by
               unfold Opc.rfind Opc.part
               simp only [*, if_true, if_false]
               exact Opc.find_no (fun j hj => hno j (by omega))
             exact ⟨by rw [hf]; rfl, o0⟩)
  · intro hc8
    try simp only [decide_eq_true_eq, decide_eq_false_iff_not, Bool.not_eq_true', Bool.not_eq_false', Bool.and_eq_true, Bool.or_eq_false_iff] at hc8
    refine KC.seq ?_
    refine KC.region ?_
    refine KL.op (R.move rfl rfl) rfl rfl rfl ?_
    refine KL.op (R.lss rfl rfl rfl) rfl rfl rfl ?_
    refine KL.nil ?_
    refine KQ.seq ?_
    refine KC.iteL rfl ?_ ?_
    · intro hc11
      try simp only [decide_eq_true_eq, decide_eq_false_iff_not, Bool.not_eq_true', Bool.not_eq_false', Bool.and_eq_true, Bool.or_eq_false_iff] at hc11
      refine KC.region ?_
      refine KL.call rfl rfl rfl rfl Tryd.call20 rfl rfl rfl (middle_any) ?_
      rintro vl H7 ⟨wl, ox⟩
      have zc_H7 := (ox).1
      have o0 := o0.trans ox
      have b2 := (ox).blk b2
      have hl := hl.old ox
      have hl := wl.sl (by first | exact ox | exact o0) (by decide)
      have hsub : ∀ r ∈ Opc.middle, r ∈ Opc.rows := by intro r hr; unfold Opc.rows; simp [hr]
      refine KL.op (R.assign rfl rfl) rfl rfl rfl ?_
      refine KL.nil ?_
      refine KQ.seq ?_
      refine KC.seq ?_
      refine KC.seq ?_
      refine KC.region ?_
      refine KL.op (R.assign rfl rfl) rfl rfl rfl ?_
      refine KL.nil ?_
      refine KQ.seq ?_
      refine KC.block ?_
      refine KC.loopD (κ := Nat) [13, 14, 15, 16, 19, 20, 21, 22, 23, 24, 25, 26, 27, 28, 29, 3, 17, 18, 5] (fun k => [(5, .int .i64 (k : Nat))]) (fun k Hl => k ≤ Opc.middle.length ∧ H7 = Hl ∧ ∀ j, j < k → decide ((Opc.middle.getD j default).op = op) = false) (fun k => Opc.middle.length - k) 0 ?_ ?_ ?_
      · exact (Sub.cons rfl (Ext.sub (Ext.refl _ _)))
      · exact ⟨Nat.zero_le _, rfl, fun j hj => by omega⟩
      · rintro k H8 ⟨hk, rfl, hno⟩
        have hlen : Opc.middle.length ≤ 120 := by decide
        refine KC.seq ?_
        refine KC.seq ?_
        refine KC.region ?_
        refine KL.op (R.move rfl rfl) rfl rfl rfl ?_
        refine KL.op (R.move rfl rfl) rfl rfl rfl ?_
        refine KL.op (R.lenS rfl Tryd.underlying39 rfl hl) rfl rfl rfl ?_
        refine KL.op (R.lss rfl rfl rfl) rfl rfl rfl ?_
        refine KL.nil ?_
        refine KQ.seq ?_
        refine KC.iteL rfl ?_ ?_
        · intro hc16
          try simp only [decide_eq_true_eq, decide_eq_false_iff_not, Bool.not_eq_true', Bool.not_eq_false', Bool.and_eq_true, Bool.or_eq_false_iff] at hc16
          have hcx := hl.rowAt k (by omega)
          refine KC.skip ?_
          refine KQ.seq ?_
          refine KC.seq ?_
          refine KC.block ?_
          refine KC.seq ?_
          refine KC.region ?_
          refine KL.op (R.move rfl rfl) rfl rfl rfl ?_
          refine KL.op (R.move rfl rfl) rfl rfl rfl ?_
          refine KL.op (R.index (j := k) rfl Tryd.underlying39 sz24 rfl rfl hl rfl (by omega)) rfl rfl rfl ?_
          refine KL.op ((by first | exact R.fieldAddr rfl Tryd.underlying24 rfl rfl sz5 rfl | exact R.fieldAddrP rfl Tryd.underlying24 rfl rfl sz5 rfl)) rfl rfl rfl ?_
          refine KL.op (R.load rfl Tryd.underlying5 rfl rfl (cells_nth hcx rfl)) rfl rfl rfl ?_
          refine KL.op (R.move rfl rfl) rfl rfl rfl ?_
          refine KL.op (R.eql rfl rfl rfl) rfl rfl rfl ?_
          refine KL.nil ?_
          refine KQ.seq ?_
          refine KC.iteL rfl ?_ ?_
          · intro hc25
            try simp only [decide_eq_true_eq, decide_eq_false_iff_not, Bool.not_eq_true', Bool.not_eq_false', Bool.and_eq_true, Bool.or_eq_false_iff] at hc25
            refine KC.seq ?_
            refine KC.region ?_
            refine KL.op (R.move rfl rfl) rfl rfl rfl ?_
            refine KL.op (R.move rfl rfl) rfl rfl rfl ?_
            refine KL.op (R.index (j := k) rfl Tryd.underlying39 sz24 rfl rfl hl rfl (by omega)) rfl rfl rfl ?_
            refine KL.op (R.loadAgg rfl Tryd.underlying24 rfl sz24 rfl hcx rfl) rfl rfl rfl ?_
            refine KL.opS (S.storeAgg rfl sz24 rfl rfl (rfl) (by intro u hu; simp only [Opc.Row.cells, List.mem_cons, List.not_mem_nil, or_false] at hu; rcases hu with rfl | rfl | rfl | rfl | rfl <;> rfl) b2 (by simp [Opc.Row.cells])) rfl rfl ?_
            rintro H9 ⟨u9, b9⟩
            have o0 := o0.upd u9 (by omega)
            have zu9 := u9.1
            have b2 := b9
            refine KL.op (R.assign rfl rfl) rfl rfl rfl ?_
            refine KL.nil ?_
            refine KQ.seq ?_
            refine KC.ret ?_
            refine KQ.retBlock ?_
            refine KQ.retThen ?_
            refine KQ.retThen ?_
            refine KQ.retBlock ?_
            refine KQ.retThen ?_
            refine KQ.ofRet ?_
            refine KQ.finCell2 Tryd.results7 rfl Tryd.underlying24 rfl sz24 (cells_of b2) (rfl) rfl ?_
            first
              | (have hf : Opc.rfind op = some (Opc.middle.getD k default) := by
                   unfold Opc.rfind Opc.part
                   simp only [*, if_true, if_false]
                   exact Opc.find_at (by omega) (by simpa using ‹_›) hno
                 exact ⟨by rw [hf]; rfl, o0⟩)
              | (have hf : Opc.rfind op = none := by
                   unfold Opc.rfind Opc.part
                   simp only [*, if_true, if_false]
                   exact Opc.find_no (fun j hj => hno j (by omega))
                 exact ⟨by rw [hf]; rfl, o0⟩)
          · intro hc25
            try simp only [decide_eq_true_eq, decide_eq_false_iff_not, Bool.not_eq_true', Bool.not_eq_false', Bool.and_eq_true, Bool.or_eq_false_iff] at hc25
            refine KC.skip ?_
            refine KQ.normBlock ?_
            refine KQ.seq ?_
            refine KC.region ?_
            refine KL.op (R.move rfl rfl) rfl rfl rfl ?_
            refine KL.op ((R.add rfl rfl rfl (by dsimp only [InR]; omega)).val (congrArg (Value.int .i64) (show (k : Int) + 1 = ((k + 1 : Nat) : Int) by omega))) rfl rfl rfl ?_
            refine KL.op (R.assign rfl rfl) rfl rfl rfl ?_
            refine KL.nil ?_
            refine KQ.again (k + 1) ?_ ?_ ?_
            · exact (Sub.cons rfl (Ext.sub (by repeat (first | exact Ext.refl _ _ | refine Ext.put rfl ?_ | refine Ext.drop rfl ?_))))
            · omega
            · exact ⟨by omega, rfl, fun j hj => by
                by_cases e : j = k
                · subst e; simp_all
                · exact hno j (by omega)⟩
        · intro hc16
          try simp only [decide_eq_true_eq, decide_eq_false_iff_not, Bool.not_eq_true', Bool.not_eq_false', Bool.and_eq_true, Bool.or_eq_false_iff] at hc16
          refine KC.exit ?_
          refine KQ.exitThen ?_
          refine KQ.exitThen ?_
          refine KQ.hit ?_
          refine KQ.seq ?_
          refine KC.seq ?_
          refine KC.region ?_
          refine KL.op (R.buildL rfl Tryd.underlying24 zr24 [(0, 1), (1, 1), (2, 1), (3, 1), (4, 1)] (fun w => by kernel_rfl) rfl trivial rfl rfl trivial rfl) rfl rfl rfl ?_
          refine KL.opS (S.storeAgg rfl sz24 rfl rfl (rfl) (by simp [Value.oneCell']) b2 (by simp)) rfl rfl ?_
          rintro H10 ⟨u10, b10⟩
          have o0 := o0.upd u10 (by omega)
          have zu10 := u10.1
          have b2 := b10
          refine KL.op (R.assign rfl rfl) rfl rfl rfl ?_
          refine KL.nil ?_
          refine KQ.seq ?_
          refine KC.ret ?_
          refine KQ.ofRet ?_
          refine KQ.finCell2 Tryd.results7 rfl Tryd.underlying24 rfl sz24 (cells_of b2) (rfl) rfl ?_
          first
            | (have hf : Opc.rfind op = some (Opc.middle.getD k default) := by
                 unfold Opc.rfind Opc.part
                 simp only [*, if_true, if_false]
                 exact Opc.find_at (by omega) (by simpa using ‹_›) hno
               exact ⟨by rw [hf]; rfl, o0⟩)
            | (have hf : Opc.rfind op = none := by
                 unfold Opc.rfind Opc.part
                 simp only [*, if_true, if_false]
                 exact Opc.find_no (fun j hj => hno j (by omega))
               exact ⟨by rw [hf]; rfl, o0⟩)
    · intro hc11
      try simp only [decide_eq_true_eq, decide_eq_false_iff_not, Bool.not_eq_true', Bool.not_eq_false', Bool.and_eq_true, Bool.or_eq_false_iff] at hc11
      refine KC.skip ?_
      refine KQ.seq ?_
      refine KC.seq ?_
      refine KC.seq ?_
      refine KC.region ?_
      refine KL.op (R.assign rfl rfl) rfl rfl rfl ?_
      refine KL.nil ?_
      refine KQ.seq ?_
      refine KC.block ?_
      refine KC.loopD (κ := Nat) [13, 14, 15, 16, 19, 20, 21, 22, 23, 24, 25, 26, 27, 28, 29, 3, 17, 18, 5] (fun k => [(5, .int .i64 (k : Nat))]) (fun k Hl => k ≤ Opc.high.length ∧ H2 = Hl ∧ ∀ j, j < k → decide ((Opc.high.getD j default).op = op) = false) (fun k => Opc.high.length - k) 0 ?_ ?_ ?_
      · exact (Sub.cons rfl (Ext.sub (Ext.refl _ _)))
      · exact ⟨Nat.zero_le _, rfl, fun j hj => by omega⟩
      · rintro k H11 ⟨hk, rfl, hno⟩
        have hlen : Opc.high.length ≤ 120 := by decide
        refine KC.seq ?_
        refine KC.seq ?_
        refine KC.region ?_
        refine KL.op (R.move rfl rfl) rfl rfl rfl ?_
        refine KL.op (R.move rfl rfl) rfl rfl rfl ?_
        refine KL.op (R.lenS rfl Tryd.underlying39 rfl hl) rfl rfl rfl ?_
        refine KL.op (R.lss rfl rfl rfl) rfl rfl rfl ?_
        refine KL.nil ?_
        refine KQ.seq ?_
        refine KC.iteL rfl ?_ ?_
        · intro hc16
          try simp only [decide_eq_true_eq, decide_eq_false_iff_not, Bool.not_eq_true', Bool.not_eq_false', Bool.and_eq_true, Bool.or_eq_false_iff] at hc16
          have hcx := hl.rowAt k (by omega)
          refine KC.skip ?_
          refine KQ.seq ?_
          refine KC.seq ?_
          refine KC.block ?_
          refine KC.seq ?_
          refine KC.region ?_
          refine KL.op (R.move rfl rfl) rfl rfl rfl ?_
          refine KL.op (R.move rfl rfl) rfl rfl rfl ?_
          refine KL.op (R.index (j := k) rfl Tryd.underlying39 sz24 rfl rfl hl rfl (by omega)) rfl rfl rfl ?_
          refine KL.op ((by first | exact R.fieldAddr rfl Tryd.underlying24 rfl rfl sz5 rfl | exact R.fieldAddrP rfl Tryd.underlying24 rfl rfl sz5 rfl)) rfl rfl rfl ?_
          refine KL.op (R.load rfl Tryd.underlying5 rfl rfl (cells_nth hcx rfl)) rfl rfl rfl ?_
          refine KL.op (R.move rfl rfl) rfl rfl rfl ?_
          refine KL.op (R.eql rfl rfl rfl) rfl rfl rfl ?_
          refine KL.nil ?_
          refine KQ.seq ?_
          refine KC.iteL rfl ?_ ?_
          · intro hc25
            try simp only [decide_eq_true_eq, decide_eq_false_iff_not, Bool.not_eq_true', Bool.not_eq_false', Bool.and_eq_true, Bool.or_eq_false_iff] at hc25
            refine KC.seq ?_
            refine KC.region ?_
            refine KL.op (R.move rfl rfl) rfl rfl rfl ?_
            refine KL.op (R.move rfl rfl) rfl rfl rfl ?_
            refine KL.op (R.index (j := k) rfl Tryd.underlying39 sz24 rfl rfl hl rfl (by omega)) rfl rfl rfl ?_
            refine KL.op (R.loadAgg rfl Tryd.underlying24 rfl sz24 rfl hcx rfl) rfl rfl rfl ?_
            refine KL.opS (S.storeAgg rfl sz24 rfl rfl (rfl) (by intro u hu; simp only [Opc.Row.cells, List.mem_cons, List.not_mem_nil, or_false] at hu; rcases hu with rfl | rfl | rfl | rfl | rfl <;> rfl) b2 (by simp [Opc.Row.cells])) rfl rfl ?_
            rintro H12 ⟨u12, b12⟩
            have o0 := o0.upd u12 (by omega)
            have zu12 := u12.1
            have b2 := b12
            refine KL.op (R.assign rfl rfl) rfl rfl rfl ?_
            refine KL.nil ?_
            refine KQ.seq ?_
            refine KC.ret ?_
            refine KQ.retBlock ?_
            refine KQ.retThen ?_
            refine KQ.retThen ?_
            refine KQ.retBlock ?_
            refine KQ.retThen ?_
            refine KQ.ofRet ?_
            refine KQ.finCell2 Tryd.results7 rfl Tryd.underlying24 rfl sz24 (cells_of b2) (rfl) rfl ?_
            first
              | (have hf : Opc.rfind op = some (Opc.high.getD k default) := by
                   unfold Opc.rfind Opc.part
                   simp only [*, if_true, if_false]
                   exact Opc.find_at (by omega) (by simpa using ‹_›) hno
                 exact ⟨by rw [hf]; rfl, o0⟩)
              | (have hf : Opc.rfind op = none := by
                   unfold Opc.rfind Opc.part
                   simp only [*, if_true, if_false]
                   exact Opc.find_no (fun j hj => hno j (by omega))
                 exact ⟨by rw [hf]; rfl, o0⟩)
          · intro hc25
            try simp only [decide_eq_true_eq, decide_eq_false_iff_not, Bool.not_eq_true', Bool.not_eq_false', Bool.and_eq_true, Bool.or_eq_false_iff] at hc25
            refine KC.skip ?_
            refine KQ.normBlock ?_
            refine KQ.seq ?_
            refine KC.region ?_
            refine KL.op (R.move rfl rfl) rfl rfl rfl ?_
            refine KL.op ((R.add rfl rfl rfl (by dsimp only [InR]; omega)).val (congrArg (Value.int .i64) (show (k : Int) + 1 = ((k + 1 : Nat) : Int) by omega))) rfl rfl rfl ?_
            refine KL.op (R.assign rfl rfl) rfl rfl rfl ?_
            refine KL.nil ?_
            refine KQ.again (k + 1) ?_ ?_ ?_
            · exact (Sub.cons rfl (Ext.sub (by repeat (first | exact Ext.refl _ _ | refine Ext.put rfl ?_ | refine Ext.drop rfl ?_))))
            · omega
            · exact ⟨by omega, rfl, fun j hj => by
                by_cases e : j = k
                · subst e; simp_all
                · exact hno j (by omega)⟩
        · intro hc16
          try simp only [decide_eq_true_eq, decide_eq_false_iff_not, Bool.not_eq_true', Bool.not_eq_false', Bool.and_eq_true, Bool.or_eq_false_iff] at hc16
          refine KC.exit ?_
          refine KQ.exitThen ?_
          refine KQ.exitThen ?_
          refine KQ.hit ?_
          refine KQ.seq ?_
          refine KC.seq ?_
          refine KC.region ?_
          refine KL.op (R.buildL rfl Tryd.underlying24 zr24 [(0, 1), (1, 1), (2, 1), (3, 1), (4, 1)] (fun w => by kernel_rfl) rfl trivial rfl rfl trivial rfl) rfl rfl rfl ?_
          refine KL.opS (S.storeAgg rfl sz24 rfl rfl (rfl) (by simp [Value.oneCell']) b2 (by simp)) rfl rfl ?_
          rintro H13 ⟨u13, b13⟩
          have o0 := o0.upd u13 (by omega)
          have zu13 := u13.1
          have b2 := b13
          refine KL.op (R.assign rfl rfl) rfl rfl rfl ?_
          refine KL.nil ?_
          refine KQ.seq ?_
          refine KC.ret ?_
          refine KQ.ofRet ?_
          refine KQ.finCell2 Tryd.results7 rfl Tryd.underlying24 rfl sz24 (cells_of b2) (rfl) rfl ?_
          first
            | (have hf : Opc.rfind op = some (Opc.high.getD k default) := by
                 unfold Opc.rfind Opc.part
                 simp only [*, if_true, if_false]
                 exact Opc.find_at (by omega) (by simpa using ‹_›) hno
               exact ⟨by rw [hf]; rfl, o0⟩)
            | (have hf : Opc.rfind op = none := by
                 unfold Opc.rfind Opc.part
                 simp only [*, if_true, if_false]
                 exact Opc.find_no (fun j hj => hno j (by omega))
               exact ⟨by rw [hf]; rfl, o0⟩)

set_option maxRecDepth 100000 in
set_option maxHeartbeats 4000000 in
theorem Named_any {H : Heap} (s : ByteArray) : Ct Tryd.prog 16 [.string s] H (fun u H' => u = .tuple #[((Opc.named (ints s)).getD Opc.Row.zero).val, .bool (Opc.named (ints s)).isSome] ∧ Old H H') := by
  refine Ct.mk Tryd.func16 rfl Tryd.ntmps16 rfl ?_
  intro W0 hW0
  have o0 : Old H H := Old.refl H
  refine KC.seq ?_
  refine KC.region ?_
  refine KL.opM (M.alloc rfl zr24 rfl) rfl rfl rfl ?_
  rintro _ H1 ⟨rfl, n1⟩
  have z1 := n1.2.1
  have o0 := o0.trans n1.1
  have b1 := n1.2.2
  have b2 := b1
  refine KL.op (R.assign rfl rfl) rfl rfl rfl ?_
  refine KL.nil ?_
  refine KQ.seq ?_
  refine KC.seq ?_
  refine KC.region ?_
  refine KL.call rfl rfl rfl rfl Tryd.call26 rfl rfl rfl (Rows_any) ?_
  rintro vl H2 ⟨wl, ox⟩
  have zc_H2 := (ox).1
  have o0 := o0.trans ox
  have b2 := (ox).blk b2
  have hl := wl.sl ox (by decide)
  refine KL.op (R.assign rfl rfl) rfl rfl rfl ?_
  refine KL.nil ?_
  refine KQ.seq ?_
  refine KC.seq ?_
  refine KC.seq ?_
  refine KC.region ?_
  refine KL.op (R.assign rfl rfl) rfl rfl rfl ?_
  refine KL.nil ?_
  refine KQ.seq ?_
  refine KC.block ?_
  refine KC.loopD (κ := Nat) [7, 8, 9, 10, 13, 14, 15, 16, 17, 18, 19, 20, 21, 22, 23, 3, 11, 12, 5] (fun k => [(5, .int .i64 (k : Nat))]) (fun k Hl => k ≤ Opc.rows.length ∧ H2 = Hl ∧ ∀ j, j < k → decide ((Opc.rows.getD j default).name = ints s) = false) (fun k => Opc.rows.length - k) 0 ?_ ?_ ?_
  · exact (Sub.cons rfl (Ext.sub (Ext.refl _ _)))
  · exact ⟨Nat.zero_le _, rfl, fun j hj => by omega⟩
  · rintro k H3 ⟨hk, rfl, hno⟩
    have hlen : Opc.rows.length ≤ 120 := by decide
    refine KC.seq ?_
    refine KC.seq ?_
    refine KC.region ?_
    refine KL.op (R.move rfl rfl) rfl rfl rfl ?_
    refine KL.op (R.move rfl rfl) rfl rfl rfl ?_
    refine KL.op (R.lenS rfl Tryd.underlying39 rfl hl) rfl rfl rfl ?_
    refine KL.op (R.lss rfl rfl rfl) rfl rfl rfl ?_
    refine KL.nil ?_
    refine KQ.seq ?_
    refine KC.iteL rfl ?_ ?_
    · intro hc10
      try simp only [decide_eq_true_eq, decide_eq_false_iff_not, Bool.not_eq_true', Bool.not_eq_false', Bool.and_eq_true, Bool.or_eq_false_iff] at hc10
      have hcx := hl.rowAt k (by omega)
      have hrg := Opc.rows_range _ (Opc.rows_get (fun _ h => h) (k := k) (by omega))
      refine KC.skip ?_
      refine KQ.seq ?_
      refine KC.seq ?_
      refine KC.block ?_
      refine KC.seq ?_
      refine KC.region ?_
      refine KL.op (R.move rfl rfl) rfl rfl rfl ?_
      refine KL.op (R.move rfl rfl) rfl rfl rfl ?_
      refine KL.op (R.index (j := k) rfl Tryd.underlying39 sz24 rfl rfl hl rfl (by omega)) rfl rfl rfl ?_
      refine KL.op ((by first | exact R.fieldAddr rfl Tryd.underlying24 rfl rfl sz9 rfl | exact R.fieldAddrP rfl Tryd.underlying24 rfl rfl sz9 rfl)) rfl rfl rfl ?_
      refine KL.op (R.load rfl Tryd.underlying9 rfl rfl (cells_nth hcx rfl)) rfl rfl rfl ?_
      refine KL.op (R.move rfl rfl) rfl rfl rfl ?_
      refine KL.op ((R.eqlStr rfl rfl rfl).val (congrArg Value.bool (sv_cmp hrg.1))) rfl rfl rfl ?_
      refine KL.nil ?_
      refine KQ.seq ?_
      refine KC.iteL rfl ?_ ?_
      · intro hc19
        try simp only [decide_eq_true_eq, decide_eq_false_iff_not, Bool.not_eq_true', Bool.not_eq_false', Bool.and_eq_true, Bool.or_eq_false_iff] at hc19
        refine KC.seq ?_
        refine KC.region ?_
        refine KL.op (R.move rfl rfl) rfl rfl rfl ?_
        refine KL.op (R.move rfl rfl) rfl rfl rfl ?_
        refine KL.op (R.index (j := k) rfl Tryd.underlying39 sz24 rfl rfl hl rfl (by omega)) rfl rfl rfl ?_
        refine KL.op (R.loadAgg rfl Tryd.underlying24 rfl sz24 rfl hcx rfl) rfl rfl rfl ?_
        refine KL.opS (S.storeAgg rfl sz24 rfl rfl (rfl) (by intro u hu; simp only [Opc.Row.cells, List.mem_cons, List.not_mem_nil, or_false] at hu; rcases hu with rfl | rfl | rfl | rfl | rfl <;> rfl) b2 (by simp [Opc.Row.cells])) rfl rfl ?_
        rintro H4 ⟨u4, b4⟩
        have o0 := o0.upd u4 (by omega)
        have zu4 := u4.1
        have b2 := b4
        refine KL.op (R.assign rfl rfl) rfl rfl rfl ?_
        refine KL.nil ?_
        refine KQ.seq ?_
        refine KC.ret ?_
        refine KQ.retBlock ?_
        refine KQ.retThen ?_
        refine KQ.retThen ?_
        refine KQ.retBlock ?_
        refine KQ.retThen ?_
        refine KQ.ofRet ?_
        refine KQ.finCell2 Tryd.results16 rfl Tryd.underlying24 rfl sz24 (cells_of b2) (rfl) rfl ?_
        first
          | (have hf : Opc.named (ints s) = some (Opc.rows.getD k default) := by
               unfold Opc.named
               exact Opc.find_at (by omega) (by simpa using ‹_›) hno
             exact ⟨by rw [hf]; rfl, o0⟩)
          | (have hf : Opc.named (ints s) = none := by
               unfold Opc.named
               exact Opc.find_no (fun j hj => hno j (by omega))
             exact ⟨by rw [hf]; rfl, o0⟩)
      · intro hc19
        try simp only [decide_eq_true_eq, decide_eq_false_iff_not, Bool.not_eq_true', Bool.not_eq_false', Bool.and_eq_true, Bool.or_eq_false_iff] at hc19
        refine KC.skip ?_
        refine KQ.normBlock ?_
        refine KQ.seq ?_
        refine KC.region ?_
        refine KL.op (R.move rfl rfl) rfl rfl rfl ?_
        refine KL.op ((R.add rfl rfl rfl (by dsimp only [InR]; omega)).val (congrArg (Value.int .i64) (show (k : Int) + 1 = ((k + 1 : Nat) : Int) by omega))) rfl rfl rfl ?_
        refine KL.op (R.assign rfl rfl) rfl rfl rfl ?_
        refine KL.nil ?_
        refine KQ.again (k + 1) ?_ ?_ ?_
        · exact (Sub.cons rfl (Ext.sub (by repeat (first | exact Ext.refl _ _ | refine Ext.put rfl ?_ | refine Ext.drop rfl ?_))))
        · omega
        · exact ⟨by omega, rfl, fun j hj => by
            by_cases e : j = k
            · subst e; simp_all
            · exact hno j (by omega)⟩
    · intro hc10
      try simp only [decide_eq_true_eq, decide_eq_false_iff_not, Bool.not_eq_true', Bool.not_eq_false', Bool.and_eq_true, Bool.or_eq_false_iff] at hc10
      refine KC.exit ?_
      refine KQ.exitThen ?_
      refine KQ.exitThen ?_
      refine KQ.hit ?_
      refine KQ.seq ?_
      refine KC.seq ?_
      refine KC.region ?_
      refine KL.op (R.buildL rfl Tryd.underlying24 zr24 [(0, 1), (1, 1), (2, 1), (3, 1), (4, 1)] (fun w => by kernel_rfl) rfl trivial rfl rfl trivial rfl) rfl rfl rfl ?_
      refine KL.opS (S.storeAgg rfl sz24 rfl rfl (rfl) (by simp [Value.oneCell']) b2 (by simp)) rfl rfl ?_
      rintro H5 ⟨u5, b5⟩
      have o0 := o0.upd u5 (by omega)
      have zu5 := u5.1
      have b2 := b5
      refine KL.op (R.assign rfl rfl) rfl rfl rfl ?_
      refine KL.nil ?_
      refine KQ.seq ?_
      refine KC.ret ?_
      refine KQ.ofRet ?_
      refine KQ.finCell2 Tryd.results16 rfl Tryd.underlying24 rfl sz24 (cells_of b2) (rfl) rfl ?_
      first
        | (have hf : Opc.named (ints s) = some (Opc.rows.getD k default) := by
             unfold Opc.named
             exact Opc.find_at (by omega) (by simpa using ‹_›) hno
           exact ⟨by rw [hf]; rfl, o0⟩)
        | (have hf : Opc.named (ints s) = none := by
             unfold Opc.named
             exact Opc.find_no (fun j hj => hno j (by omega))
           exact ⟨by rw [hf]; rfl, o0⟩)

set_option maxRecDepth 100000 in
set_option maxHeartbeats 4000000 in
theorem RFloat_any {H : Heap} (op : Int) : Ct Tryd.prog 12 [.int .u8 op] H (fun u H' => u = .bool (Opc.rfloat op) ∧ Old H H') := by
  refine Ct.mk Tryd.func12 rfl Tryd.ntmps12 rfl ?_
  intro W0 hW0
  have o0 : Old H H := Old.refl H
  refine KC.seq ?_
  refine KC.region ?_
  refine KL.op (R.assign rfl rfl) rfl rfl rfl ?_
  refine KL.nil ?_
  refine KQ.seq ?_
  refine KC.seq ?_
  refine KC.region ?_
  refine KL.opM (M.lit rfl Tryd.underlying27 zs5 (by decide) rfl rfl rfl) rfl rfl rfl ?_
  rintro _ H1 ⟨rfl, n1⟩
  have z1 := n1.2.1
  have o0 := o0.trans n1.1
  have b1 := n1.2.2
  have hl : Sl 1 (EInt .u8) H1 _ Opc.floats := Sl.lits (l := Opc.floats) n1 rfl (by decide) (by decide)
  refine KL.op (R.assign rfl rfl) rfl rfl rfl ?_
  refine KL.nil ?_
  refine KQ.seq ?_
  refine KC.seq ?_
  refine KC.seq ?_
  refine KC.region ?_
  refine KL.op (R.assign rfl rfl) rfl rfl rfl ?_
  refine KL.nil ?_
  refine KQ.seq ?_
  refine KC.block ?_
  refine KC.loopD (κ := Nat) [6, 7, 8, 9, 12, 13, 14, 15, 16, 17, 18, 19, 20, 21, 22, 23, 24, 25, 26, 2, 10, 11, 4] (fun k => [(4, .int .i64 (2 * k : Nat))]) (fun k Hl => k ≤ 7 ∧ H1 = Hl ∧ ∀ j, j < k → ¬ (Opc.floats.getD (2 * j) default ≤ op ∧ op ≤ Opc.floats.getD (2 * j + 1) default)) (fun k => 7 - k) 0 ?_ ?_ ?_
  · exact (Sub.cons rfl (Ext.sub (Ext.refl _ _)))
  · exact ⟨Nat.zero_le _, rfl, fun j hj => by omega⟩
  · rintro k H2 ⟨hk, rfl, hno⟩
    refine KC.seq ?_
    refine KC.seq ?_
    refine KC.region ?_
    refine KL.op (R.move rfl rfl) rfl rfl rfl ?_
    refine KL.op (R.move rfl rfl) rfl rfl rfl ?_
    refine KL.op ((R.lenS rfl Tryd.underlying27 rfl hl).val (congrArg (Value.int .i64) (show ((Opc.floats.length : Nat) : Int) = 14 from rfl))) rfl rfl rfl ?_
    refine KL.op (R.lss rfl rfl rfl) rfl rfl rfl ?_
    refine KL.nil ?_
    refine KQ.seq ?_
    refine KC.iteL rfl ?_ ?_
    · intro hc9
      try simp only [decide_eq_true_eq, decide_eq_false_iff_not, Bool.not_eq_true', Bool.not_eq_false', Bool.and_eq_true, Bool.or_eq_false_iff] at hc9
      have h1 := (hl.int (2 * k) (by show 2 * k < 14; omega)).1
      have h2 := (hl.int (2 * k + 1) (by show 2 * k + 1 < 14; omega)).1
      refine KC.skip ?_
      refine KQ.seq ?_
      refine KC.seq ?_
      refine KC.block ?_
      refine KC.seq ?_
      refine KC.region ?_
      refine KL.op (R.move rfl rfl) rfl rfl rfl ?_
      refine KL.op (R.move rfl rfl) rfl rfl rfl ?_
      refine KL.op (R.move rfl rfl) rfl rfl rfl ?_
      refine KL.op (R.index1 (j := 2 * k) rfl Tryd.underlying27 sz5 rfl rfl hl rfl (by show 2 * k < 14; omega)) rfl rfl rfl ?_
      refine KL.op (R.load rfl Tryd.underlying5 rfl rfl h1) rfl rfl rfl ?_
      refine KL.op (R.geq rfl rfl rfl) rfl rfl rfl ?_
      refine KL.op (R.move rfl rfl) rfl rfl rfl ?_
      refine KL.case (d := 18) rfl ?_ ?_
      · intro hg18
        try simp only [decide_eq_true_eq, decide_eq_false_iff_not, Bool.not_eq_true', Bool.not_eq_false', Bool.and_eq_true, Bool.or_eq_false_iff] at hg18
        refine KL.op (R.move rfl rfl) rfl rfl rfl ?_
        refine KL.op (R.move rfl rfl) rfl rfl rfl ?_
        refine KL.op (R.move rfl rfl) rfl rfl rfl ?_
        refine KL.op ((R.add rfl rfl rfl (by dsimp only [InR]; omega)).val (congrArg (Value.int .i64) (show ((2 * k : Nat) : Int) + 1 = ((2 * k + 1 : Nat) : Int) by omega))) rfl rfl rfl ?_
        refine KL.op (R.index1 (j := 2 * k + 1) rfl Tryd.underlying27 sz5 rfl rfl hl rfl (by show 2 * k + 1 < 14; omega)) rfl rfl rfl ?_
        refine KL.op (R.load rfl Tryd.underlying5 rfl rfl h2) rfl rfl rfl ?_
        refine KL.op (R.leq rfl rfl rfl) rfl rfl rfl ?_
        refine KL.op (R.pick rfl rfl rfl) rfl rfl rfl ?_
        refine KL.nil ?_
        refine KQ.seq ?_
        refine KC.iteL rfl ?_ ?_
        · intro hc26
          try simp only [decide_eq_true_eq, decide_eq_false_iff_not, Bool.not_eq_true', Bool.not_eq_false', Bool.and_eq_true, Bool.or_eq_false_iff] at hc26
          refine KC.seq ?_
          refine KC.region ?_
          refine KL.op (R.assign rfl rfl) rfl rfl rfl ?_
          refine KL.nil ?_
          refine KQ.seq ?_
          refine KC.ret ?_
          refine KQ.retBlock ?_
          refine KQ.retThen ?_
          refine KQ.retThen ?_
          refine KQ.retBlock ?_
          refine KQ.retThen ?_
          refine KQ.ofRet ?_
          refine KQ.fin1 Tryd.results12 rfl ?_
          first
            | exact ⟨by rw [Opc.rfloat_yes (k := k) (by omega) (by simp_all) (by simp_all)], o0⟩
            | exact ⟨by rw [Opc.rfloat_no (fun j hj => hno j (by omega))], o0⟩
        · intro hc26
          try simp only [decide_eq_true_eq, decide_eq_false_iff_not, Bool.not_eq_true', Bool.not_eq_false', Bool.and_eq_true, Bool.or_eq_false_iff] at hc26
          refine KC.skip ?_
          refine KQ.normBlock ?_
          refine KQ.seq ?_
          refine KC.region ?_
          refine KL.op (R.move rfl rfl) rfl rfl rfl ?_
          refine KL.op ((R.add rfl rfl rfl (by dsimp only [InR]; omega)).val (congrArg (Value.int .i64) (show ((2 * k : Nat) : Int) + 2 = ((2 * (k + 1) : Nat) : Int) by omega))) rfl rfl rfl ?_
          refine KL.op (R.assign rfl rfl) rfl rfl rfl ?_
          refine KL.nil ?_
          refine KQ.again (k + 1) ?_ ?_ ?_
          · exact (Sub.cons rfl (Ext.sub (by repeat (first | exact Ext.refl _ _ | refine Ext.put rfl ?_ | refine Ext.drop rfl ?_))))
          · omega
          · exact ⟨by omega, rfl, fun j hj => by
              by_cases e : j = k
              · subst e; rintro ⟨e1, e2⟩; simp_all; try omega
              · exact hno j (by omega)⟩
      · intro hg18
        try simp only [decide_eq_true_eq, decide_eq_false_iff_not, Bool.not_eq_true', Bool.not_eq_false', Bool.and_eq_true, Bool.or_eq_false_iff] at hg18
        refine KL.skip rfl rfl rfl ?_
        refine KL.skip rfl rfl rfl ?_
        refine KL.skip rfl rfl rfl ?_
        refine KL.skip rfl rfl rfl ?_
        refine KL.skip rfl rfl rfl ?_
        refine KL.skip rfl rfl rfl ?_
        refine KL.skip rfl rfl rfl ?_
        refine KL.op (R.pick rfl rfl rfl) rfl rfl rfl ?_
        refine KL.nil ?_
        refine KQ.seq ?_
        refine KC.condF rfl ?_
        refine KC.skip ?_
        refine KQ.normBlock ?_
        refine KQ.seq ?_
        refine KC.region ?_
        refine KL.op (R.move rfl rfl) rfl rfl rfl ?_
        refine KL.op ((R.add rfl rfl rfl (by dsimp only [InR]; omega)).val (congrArg (Value.int .i64) (show ((2 * k : Nat) : Int) + 2 = ((2 * (k + 1) : Nat) : Int) by omega))) rfl rfl rfl ?_
        refine KL.op (R.assign rfl rfl) rfl rfl rfl ?_
        refine KL.nil ?_
        refine KQ.again (k + 1) ?_ ?_ ?_
        · exact (Sub.cons rfl (Ext.sub (by repeat (first | exact Ext.refl _ _ | refine Ext.put rfl ?_ | refine Ext.drop rfl ?_))))
        · omega
        · exact ⟨by omega, rfl, fun j hj => by
            by_cases e : j = k
            · subst e; rintro ⟨e1, e2⟩; simp_all; try omega
            · exact hno j (by omega)⟩
    · intro hc9
      try simp only [decide_eq_true_eq, decide_eq_false_iff_not, Bool.not_eq_true', Bool.not_eq_false', Bool.and_eq_true, Bool.or_eq_false_iff] at hc9
      refine KC.exit ?_
      refine KQ.exitThen ?_
      refine KQ.exitThen ?_
      refine KQ.hit ?_
      refine KQ.seq ?_
      refine KC.seq ?_
      refine KC.region ?_
      refine KL.op (R.assign rfl rfl) rfl rfl rfl ?_
      refine KL.nil ?_
      refine KQ.seq ?_
      refine KC.ret ?_
      refine KQ.ofRet ?_
      refine KQ.fin1 Tryd.results12 rfl ?_
      first
        | exact ⟨by rw [Opc.rfloat_yes (k := k) (by omega) (by simp_all) (by simp_all)], o0⟩
        | exact ⟨by rw [Opc.rfloat_no (fun j hj => hno j (by omega))], o0⟩

set_option maxRecDepth 100000 in
set_option maxHeartbeats 4000000 in
theorem types_any {H : Heap} (s : ByteArray) (hs : s.size ≤ 1000) : Ct Tryd.prog 24 [.string s] H (fun u H' => Own 1 (EInt .u8) 5 #[] H.size H' u (Opc.tys (ints s)) ∧ Old H H') := by
  refine Ct.mk Tryd.func24 rfl Tryd.ntmps24 rfl ?_
  intro W0 hW0
  have o0 : Old H H := Old.refl H
  refine KC.seq ?_
  refine KC.region ?_
  refine KL.op (R.assign rfl rfl) rfl rfl rfl ?_
  refine KL.nil ?_
  refine KQ.seq ?_
  refine KC.seq ?_
  refine KC.region ?_
  refine KL.op (R.assign rfl rfl) rfl rfl rfl ?_
  refine KL.nil ?_
  refine KQ.seq ?_
  refine KC.seq ?_
  refine KC.seq ?_
  refine KC.region ?_
  refine KL.op (R.assign rfl rfl) rfl rfl rfl ?_
  refine KL.nil ?_
  refine KQ.seq ?_
  refine KC.block ?_
  refine KC.loopD (κ := Nat × Value) [5, 6, 7, 8, 11, 12, 13, 14, 15, 16, 17, 3, 18, 19, 20, 9, 10, 4] (fun k => [(4, .int .i64 (k.1 : Nat)), (3, k.2)]) (fun k Hl => k.1 ≤ s.size ∧ Own 1 (EInt .u8) 5 #[] H.size Hl k.2 (Opc.tys ((ints s).take k.1)) ∧ Old H Hl) (fun k => s.size - k.1) (0, .slice none 0 0) ?_ ?_ ?_
  · exact (Sub.cons rfl (Sub.cons rfl (Ext.sub (Ext.refl _ _))))
  · exact ⟨Nat.zero_le _, Own.nil _ _ _ _ _ _, o0⟩
  · rintro ⟨k, vo⟩ H1 ⟨hk, wo, o0⟩
    have zl_H1 := o0.1
    dsimp only at hk wo
    have zl := o0.1
    refine KC.seq ?_
    refine KC.seq ?_
    refine KC.region ?_
    refine KL.op (R.move rfl rfl) rfl rfl rfl ?_
    refine KL.op (R.move rfl rfl) rfl rfl rfl ?_
    refine KL.op (R.lenStr (ty := 0) rfl Tryd.underlying9 rfl) rfl rfl rfl ?_
    refine KL.op (R.lss rfl rfl rfl) rfl rfl rfl ?_
    refine KL.nil ?_
    refine KQ.seq ?_
    refine KC.iteL rfl ?_ ?_
    · intro hc8
      try simp only [decide_eq_true_eq, decide_eq_false_iff_not, Bool.not_eq_true', Bool.not_eq_false', Bool.and_eq_true, Bool.or_eq_false_iff] at hc8
      refine KC.skip ?_
      refine KQ.seq ?_
      refine KC.seq ?_
      refine KC.block ?_
      refine KC.seq ?_
      refine KC.region ?_
      refine KL.op (R.move rfl rfl) rfl rfl rfl ?_
      refine KL.op (R.move rfl rfl) rfl rfl rfl ?_
      refine KL.op (R.indexStr (j := k) rfl Tryd.underlying9 rfl rfl rfl (by omega)) rfl rfl rfl ?_
      refine KL.op (R.eql rfl rfl rfl) rfl rfl rfl ?_
      refine KL.nil ?_
      refine KQ.seq ?_
      refine KC.iteL rfl ?_ ?_
      · intro hc14
        try simp only [decide_eq_true_eq, decide_eq_false_iff_not, Bool.not_eq_true', Bool.not_eq_false', Bool.and_eq_true, Bool.or_eq_false_iff] at hc14
        refine KC.region ?_
        refine KL.op (R.move rfl rfl) rfl rfl rfl ?_
        refine KL.opM (M.lit rfl Tryd.underlying27 zs5 (by decide) rfl rfl rfl) rfl rfl rfl ?_
        rintro _ H2 ⟨rfl, n2⟩
        have z2 := n2.2.1
        have o0 := o0.trans n2.1
        have wo := wo.old n2.1
        have b2 := n2.2.2
        have h1 : Sl 1 (EInt .u8) H2 _ [127] := Sl.lits (l := [127]) n2 rfl (by simp) (by decide)
        have lt3 := wo.lt
        refine KL.opM (M.append rfl Tryd.underlying27 inf5 rfl (by decide) rfl rfl wo (by exact h1) (fun _ _ h _ => h) (by omega) (by simp [Opc.tys]; omega) (by unfold maxLen; simp [Opc.tys]; omega)) rfl rfl rfl ?_
        rintro v3 H3 ⟨w3, g3⟩
        try dsimp only at g3
        have ob3 := g3.oldB wo (by omega)
        have o0 := o0.then ob3 (by omega)
        have z3 := ob3.1
        have wo := w3
        have wo : Own 1 (EInt .u8) 5 #[] H.size H3 v3 (Opc.tys ((ints s).take (k + 1))) := by
          rw [Opc.tys_step (by rw [ints_length]; omega)]
          simp only [*, if_true, if_false]
        refine KL.op (R.assign rfl rfl) rfl rfl rfl ?_
        refine KL.nil ?_
        refine KQ.normBlock ?_
        refine KQ.seq ?_
        refine KC.region ?_
        refine KL.op (R.move rfl rfl) rfl rfl rfl ?_
        refine KL.op ((R.add rfl rfl rfl (by dsimp only [InR]; omega)).val (congrArg (Value.int .i64) (show (k : Int) + 1 = ((k + 1 : Nat) : Int) by omega))) rfl rfl rfl ?_
        refine KL.op (R.assign rfl rfl) rfl rfl rfl ?_
        refine KL.nil ?_
        refine KQ.again ((k + 1, v3)) ?_ ?_ ?_
        · exact (Sub.cons rfl (Sub.cons rfl (Ext.sub (by repeat (first | exact Ext.refl _ _ | refine Ext.put rfl ?_ | refine Ext.drop rfl ?_)))))
        · show s.size - (k + 1) < s.size - k; omega
        · exact ⟨by show k + 1 ≤ _; omega, wo, o0⟩
      · intro hc14
        try simp only [decide_eq_true_eq, decide_eq_false_iff_not, Bool.not_eq_true', Bool.not_eq_false', Bool.and_eq_true, Bool.or_eq_false_iff] at hc14
        refine KC.region ?_
        refine KL.op (R.move rfl rfl) rfl rfl rfl ?_
        refine KL.opM (M.lit rfl Tryd.underlying27 zs5 (by decide) rfl rfl rfl) rfl rfl rfl ?_
        rintro _ H4 ⟨rfl, n4⟩
        have z4 := n4.2.1
        have o0 := o0.trans n4.1
        have wo := wo.old n4.1
        have b4 := n4.2.2
        have h1 : Sl 1 (EInt .u8) H4 _ [126] := Sl.lits (l := [126]) n4 rfl (by simp) (by decide)
        have lt5 := wo.lt
        refine KL.opM (M.append rfl Tryd.underlying27 inf5 rfl (by decide) rfl rfl wo (by exact h1) (fun _ _ h _ => h) (by omega) (by simp [Opc.tys]; omega) (by unfold maxLen; simp [Opc.tys]; omega)) rfl rfl rfl ?_
        rintro v5 H5 ⟨w5, g5⟩
        try dsimp only at g5
        have ob5 := g5.oldB wo (by omega)
        have o0 := o0.then ob5 (by omega)
        have z5 := ob5.1
        have wo := w5
        have wo : Own 1 (EInt .u8) 5 #[] H.size H5 v5 (Opc.tys ((ints s).take (k + 1))) := by
          rw [Opc.tys_step (by rw [ints_length]; omega)]
          simp only [*, if_true, if_false]
        refine KL.op (R.assign rfl rfl) rfl rfl rfl ?_
        refine KL.nil ?_
        refine KQ.normBlock ?_
        refine KQ.seq ?_
        refine KC.region ?_
        refine KL.op (R.move rfl rfl) rfl rfl rfl ?_
        refine KL.op ((R.add rfl rfl rfl (by dsimp only [InR]; omega)).val (congrArg (Value.int .i64) (show (k : Int) + 1 = ((k + 1 : Nat) : Int) by omega))) rfl rfl rfl ?_
        refine KL.op (R.assign rfl rfl) rfl rfl rfl ?_
        refine KL.nil ?_
        refine KQ.again ((k + 1, v5)) ?_ ?_ ?_
        · exact (Sub.cons rfl (Sub.cons rfl (Ext.sub (by repeat (first | exact Ext.refl _ _ | refine Ext.put rfl ?_ | refine Ext.drop rfl ?_)))))
        · show s.size - (k + 1) < s.size - k; omega
        · exact ⟨by show k + 1 ≤ _; omega, wo, o0⟩
    · intro hc8
      try simp only [decide_eq_true_eq, decide_eq_false_iff_not, Bool.not_eq_true', Bool.not_eq_false', Bool.and_eq_true, Bool.or_eq_false_iff] at hc8
      refine KC.exit ?_
      refine KQ.exitThen ?_
      refine KQ.exitThen ?_
      refine KQ.hit ?_
      refine KQ.seq ?_
      refine KC.seq ?_
      refine KC.region ?_
      refine KL.op (R.move rfl rfl) rfl rfl rfl ?_
      refine KL.op (R.assign rfl rfl) rfl rfl rfl ?_
      refine KL.nil ?_
      refine KQ.seq ?_
      refine KC.ret ?_
      refine KQ.ofRet ?_
      refine KQ.fin1 Tryd.results24 rfl ?_
      have hkl : k = (ints s).length := by rw [ints_length]; omega
      rw [hkl, List.take_length] at wo
      exact ⟨wo, o0⟩

end Go.Proofs.YthgdaacbhcondaaDoor
