/- Instructions in memory: how an api.Instr's five cells read, and lists of them. No condition. -/
import Derived.Test.YticnkojpfmkjeaaKSl
import Derived.Test.YticnkojpfmkjeaaKAny
namespace Go.Proofs.Yticnkojpfmkjeaa
open Go Go.RowKit
set_option linter.unusedVariables false

/-- an instruction -/
structure Ins where
  op : Int
  a : Int
  b : Int
  c : Int
  l : List Int
  deriving Inhabited

def EIns : El Ins := fun H cs x => ∃ v, cs = [.int .u8 x.op, .int .u32 x.a, .int .u32 x.b, .int .i64 x.c, v] ∧ Sl 1 (EInt .u32) H v x.l ∧ InR .u8 x.op ∧ InR .u32 x.a ∧ InR .u32 x.b ∧ InR .i64 x.c
instance keepsIns : Keeps EIns := ⟨fun ho h => by
  obtain ⟨v, hv, hs, r⟩ := h
  exact ⟨v, hv, hs.old ho, r⟩⟩
instance oneIns : One EIns := ⟨fun h u hu => by
  obtain ⟨v, rfl, hs, _⟩ := h
  simp only [List.mem_cons, List.not_mem_nil, or_false] at hu
  rcases hu with rfl | rfl | rfl | rfl | rfl <;> first | rfl | exact hs.one⟩

theorem Sl.insOp {H : Heap} {v : Value} {l : List Ins} (h : Sl 5 EIns H v l) (j : Nat) (hj : j < l.length) : cellH H (((vbase v).add (j * 5)).add 0) = some (.int .u8 (l.getD j default).op) ∧ InR .u8 (l.getD j default).op := by
  obtain ⟨cs, hl, hc, u, rfl, hu, h1, _⟩ := h.at j hj
  exact ⟨hc 0 _ rfl, h1⟩
theorem Sl.insAt {H : Heap} {v : Value} {l : List Ins} (h : Sl 5 EIns H v l) (j : Nat) (hj : j < l.length) : ∃ u, CellsH H ((vbase v).add (j * 5)) [.int .u8 (l.getD j default).op, .int .u32 (l.getD j default).a, .int .u32 (l.getD j default).b, .int .i64 (l.getD j default).c, u] ∧
    Sl 1 (EInt .u32) H u (l.getD j default).l ∧ InR .u8 (l.getD j default).op ∧ InR .u32 (l.getD j default).a ∧ InR .u32 (l.getD j default).b ∧ InR .i64 (l.getD j default).c := by
  obtain ⟨cs, hl, hc, u, rfl, hu, h1⟩ := h.at j hj
  exact ⟨u, hc, hu, h1⟩
theorem Sl.insOps {H : Heap} {v : Value} {l : List Ins} (h : Sl 5 EIns H v l) : ∀ x ∈ l, 0 ≤ x.op ∧ x.op ≤ 255 := by
  intro x hx
  obtain ⟨j, hj, rfl⟩ := List.getElem_of_mem hx
  have := (h.insOp j hj).2
  rwa [List.getD_eq_getElem?_getD, List.getElem?_eq_getElem hj] at this
end Go.Proofs.Yticnkojpfmkjeaa
