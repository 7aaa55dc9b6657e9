/- Opcodes, in plain Lean: their names, types, widths; and the laws of strings in memory that the walks need. No condition but those that each law states. -/
import Derived.Test.YthgdaacbhcondaaDoorOpcK
import Derived.Test.YthgdaacbhcondaaDoorKText
import Derived.Test.YthgdaacbhcondaaDoorKArr
import Derived.Test.YthgdaacbhcondaaDoorShelf
import Derived.Lib.Fields
import Derived.Lib.Space
namespace Go.Proofs.YthgdaacbhcondaaDoor
open Go Go.RowKit
set_option linter.unusedVariables false
set_option linter.unusedSimpArgs false
theorem Ct.same {P : Program} {f : FuncId} {args : List Value} {H : Heap} {v : Value} (h : ∀ w : World, w.heap = H → Calls P f args.toArray w fun e w' => e = .returned v ∧ w = w') : Ct P f args H (fun u H' => u = v ∧ H = H') :=
  fun w hw => (h w hw).mono fun e w' ⟨he, hf⟩ => by subst hf; exact ⟨v, he, St.refl w, rfl, hw.symm⟩
theorem in_k {H : Heap} (op a b : Int) : Ct Tryd.prog 23 [.int .u8 op, .int .u8 a, .int .u8 b] H (fun u H' => u = .bool (Opc.inR op a b) ∧ H = H') := Ct.same fun w _ => in_any op a b w
theorem Float_k {H : Heap} (op : Int) : Ct Tryd.prog 11 [.int .u8 op] H (fun u H' => u = .bool (Opc.float op) ∧ H = H') := Ct.same fun w _ => Float_any op w
theorem Known_k {H : Heap} (op : Int) : Ct Tryd.prog 10 [.int .u8 op] H (fun u H' => u = .bool (Opc.known op) ∧ H = H') := Ct.same fun w _ => Known_any op w
theorem Form_k {H : Heap} (op : Int) : Ct Tryd.prog 13 [.int .u8 op] H (fun u H' => u = .int .u8 (Opc.form op) ∧ H = H') := Ct.same fun w _ => Form_any op w
namespace Opc
def wide (op : Int) : Bool := decide (op = 41) || inR op 48 53 || decide (op = 55) || inR op 60 62
def ty (b : Bool) : Int := if b then 126 else 127
theorem ty_range (b : Bool) : InR .u8 (ty b) := by cases b <;> decide
def sig (op : Int) : List Int × List Int × Bool :=
  if known op = false ∨ op < 40 then ([], [], false) else if op ≤ 53 then ([127], [ty (wide op)], true) else if op ≤ 62 then ([127, ty (wide op)], [], true)
  else if op = 63 then ([], [127], true) else if op = 64 ∨ op = 69 ∨ inR op 103 105 = true then ([127], [127], true) else if op ≤ 66 then ([], [ty (decide (op = 66))], true)
  else if op = 80 ∨ op = 167 then ([126], [127], true) else if inR op 121 123 = true then ([126], [126], true) else if 172 ≤ op then ([127], [126], true)
  else ([ty (inR op 81 90 || decide (124 ≤ op)), ty (inR op 81 90 || decide (124 ≤ op))], [ty (decide (124 ≤ op))], true)
def width (op : Int) : Int :=
  if op = 44 ∨ op = 45 ∨ op = 48 ∨ op = 49 ∨ op = 58 ∨ op = 60 then 1 else if op = 46 ∨ op = 47 ∨ op = 50 ∨ op = 51 ∨ op = 59 ∨ op = 61 then 2
  else if op = 40 ∨ op = 52 ∨ op = 53 ∨ op = 54 ∨ op = 62 then 4 else if op = 41 ∨ op = 55 then 8 else 0
/-- names laid into a table, one behind the other -/
def put (L : List (List Int)) (o : Nat) (a : List Int) : List (List Int) → List (List Int)
  | [] => L
  | f :: fs => put (L.set o (a ++ f)) (o + 1) a fs
theorem put_length (L : List (List Int)) (o : Nat) (a : List Int) (fs : List (List Int)) : (put L o a fs).length = L.length := by
  induction fs generalizing L o with
  | nil => rfl
  | cons f fs ih => simp only [put, ih, List.length_set]
theorem put_app (L : List (List Int)) (o : Nat) (a : List Int) (fs gs : List (List Int)) : put L o a (fs ++ gs) = put (put L o a fs) (o + fs.length) a gs := by
  induction fs generalizing L o with
  | nil => rfl
  | cons f fs ih => simp only [List.cons_append, put, ih, List.length_cons]; congr 1; omega
theorem put_step {L : List (List Int)} {o k : Nat} {a : List Int} {fs : List (List Int)} (h : k < fs.length) : put L o a (fs.take (k + 1)) = (put L o a (fs.take k)).set (o + k) (a ++ fs.getD k default) := by
  have e : fs.take (k + 1) = fs.take k ++ [fs.getD k default] := by
    rw [List.take_add_one, List.getD_eq_getElem?_getD, List.getElem?_eq_getElem h]; rfl
  rw [e, put_app]
  simp only [put, List.length_take, Nat.min_eq_left (Nat.le_of_lt h)]
end Opc
/-- a text in memory -/
def sv (l : List Int) : Value := .string (bstr l)
theorem sv_one (l : List Int) : (sv l).oneCell' = true := rfl
theorem nth_sv {L : List (List Int)} {j : Nat} (h : j < L.length) : nth (L.map sv) j = some (sv (L.getD j default)) := by
  rw [nth_eq, List.getElem?_map, List.getD_eq_getElem?_getD, List.getElem?_eq_getElem h]; rfl
theorem bstr_app {a : ByteArray} {f : List Int} (hf : ∀ x ∈ f, InR .u8 x) : a ++ bstr f = bstr (ints a ++ f) := by
  rw [← bstr_ints (a ++ bstr f), ints_append, ints_bstr hf]
theorem sv_eq {l m : List Int} (hl : ∀ x ∈ l, InR .u8 x) (hm : ∀ x ∈ m, InR .u8 x) : ((bstr l).toList == (bstr m).toList) = decide (l = m) := by
  rw [str_eq_ints, ints_bstr hl, ints_bstr hm]
/-- the library's table of blanks is laid -/
def TabA (H : Heap) : Prop := ∀ w : World, w.heap = H → Lib.TabIs Tryd.prog w "strings.asciiSpace" .u8 Lib.asciiSpaceTab
theorem tabA_laid {w : World} (h : Lib.TabIs Tryd.prog w "strings.asciiSpace" .u8 Lib.asciiSpaceTab) : TabA w.heap := fun w' hw => by
  unfold Lib.TabIs World.var? at *
  rw [hw]; exact h
theorem TabA.old {H H' : Heap} (h : TabA H) (o : Old H H') : TabA H' := fun w hw => by
  have h1 := h ⟨H, fun _ _ => 0, 0, default, #[]⟩ rfl
  unfold Lib.TabIs World.var? at *
  cases hg : Tryd.prog.globalNamed "strings.asciiSpace" with
  | none => rw [hg] at h1; cases h1
  | some g =>
    rw [hg] at h1
    simp only [Option.bind_some] at h1 ⊢
    rw [hw]
    cases hb : H[g]? with
    | none => rw [hb] at h1; cases h1
    | some b => rw [hb] at h1; rw [o.blk hb]; exact h1
theorem Fields_k {H : Heap} (s : ByteArray) (fs : List (List Int)) (hs : s.size < 1000000) (ha : ∀ (j : Nat) b, s.data.toList[j]? = some b → b.toNat < 128) (hf : (Go.Lib.fields s.data.toList).map (fun l => l.map fun b => (b.toNat : Int)) = fs) (hT : TabA H) :
    Ct Tryd.prog 28 [.string s] H (fun u H' => u = .slice (some ⟨H.size, 0, none⟩) fs.length fs.length ∧ New H (fs.map sv) 9 H') := fun w hw =>
  (Tryd.strings_Fields s w (by omega) ha (hT w hw)).mono fun e w' ⟨h1, h2⟩ => by
    subst h2
    subst hw
    have e1 : ((Go.Lib.fields s.data.toList).map fun l => Value.string ⟨l.toArray⟩) = fs.map sv := by
      rw [← hf, List.map_map]
      exact List.map_congr_left fun l _ => by simp only [Function.comp, sv, bstr_map]
    have e2 : (Go.Lib.fields s.data.toList).length = fs.length := by rw [← hf, List.length_map]
    rw [e1]
    exact ⟨_, h1, ⟨rfl, rfl, rfl, rfl⟩, by rw [e2], New.push _ _ _⟩
theorem Sl.texts {H : Heap} {g : Nat} {e : TypeId} {L : List (List Int)} {z : Nat × Nat} (hb : H[g]? = some (.cells (L.map sv).toArray e z)) (hl : L.length ≤ 1000000) (hr : ∀ l ∈ L, (bstr l).size ≤ 1000000) : Sl 1 EStr H (.slice (some ⟨g, 0, none⟩) L.length L.length) (L.map bstr) := by
  refine ⟨some ⟨g, 0, none⟩, L.length, by simp, by simp, by unfold maxLen; omega, by simp, fun _ p hp => by cases hp; rfl, fun j x hj => ?_⟩
  have hlt := nth_lt hj
  rw [List.length_map] at hlt
  rw [nth_eq, List.getElem?_map, List.getElem?_eq_getElem hlt] at hj
  injection hj with hj
  subst hj
  refine ⟨[sv L[j]], rfl, fun i u hu => ?_, rfl, by have := hr _ (List.getElem_mem hlt); unfold maxLen; omega⟩
  have hi : i = 0 ∧ u = sv L[j] := by
    cases i with
    | zero => injection hu with hu; exact ⟨rfl, hu.symm⟩
    | succ i => cases hu
  obtain ⟨rfl, rfl⟩ := hi
  simp only [vbase]
  rw [add_add _ rfl]
  have e : (Addr.mk g 0 none).add (j * 1 + 0) = ⟨g, j, none⟩ := by unfold Addr.add; split <;> simp_all
  rw [e]
  exact cell_of hb (by rw [nth_eq]; simp [hlt])
theorem Sl.text {H : Heap} {v : Value} {l : List ByteArray} (h : Sl 1 EStr H v l) (j : Nat) (hj : j < l.length) : cellH H ((vbase v).add j) = some (.string (l.getD j ByteArray.empty)) := by
  obtain ⟨a, cap, rfl, _, _, _, _, h5⟩ := h
  obtain ⟨cs, _, hc, e1, _⟩ := h5 j (l.getD j ByteArray.empty) (by rw [nth_eq, List.getD_eq_getElem?_getD, List.getElem?_eq_getElem hj]; rfl)
  have := hc 0 _ (by rw [e1]; rfl)
  simpa [Addr.add] using this
end Go.Proofs.YthgdaacbhcondaaDoor
