/- Arrays of one-cell elements in blocks of the call's own: made, stored into, loaded whole, stored whole. No condition. -/
import Derived.Test.YtokidabnjodglaaRows
import Derived.WalkKit
import Derived.WalkLawsBesides
import Derived.Deep.MidRow
import Derived.Lib.Hide
namespace Go.Proofs.Ytokidabnjodglaa
open Go.RowKit
set_option linter.unusedVariables false

/-- block g is n cells, cell j holding f j -/
def Arr (w : World) (g : Nat) (t : TypeId) (n : Nat) (f : Nat → Value) : Prop :=
  ∃ cs : Array Value, w.heap[g]? = some (.cells cs t (0, 0)) ∧ cs.size = n ∧ ∀ j, j < n → cs[j]? = some (f j)

section
variable {w w' : World} {g n : Nat} {t : TypeId} {f : Nat → Value}
theorem Arr.lt (h : Arr w g t n f) : g < w.heap.size := by
  obtain ⟨cs, hg, _, _⟩ := h
  exact (Array.getElem?_eq_some_iff.1 hg).1
theorem Arr.cell (h : Arr w g t n f) (j : Nat) (hj : j < n) : w.cell? ⟨g, j, none⟩ = some (f j) := by
  obtain ⟨cs, hg, _, hc⟩ := h
  rw [cell_of_row w g j _ _ (0, 0) hg]; exact hc j hj
theorem Arr.free (h : Arr w g t n f) (j : Nat) : w.frozen? ⟨g, j, none⟩ = false := by
  obtain ⟨cs, hg, _, _⟩ := h
  exact frozen_of_row w g j cs t hg
theorem Arr.set (h : Arr w g t n f) (j : Nat) (hj : j < n) (v : Value) : Arr (w.setCell ⟨g, j, none⟩ v) g t n (fun i => if i = j then v else f i) := by
  obtain ⟨cs, hg, hs, hc⟩ := h
  refine ⟨cs.setIfInBounds j v, heap_setCell_same w g j cs t v hg, by simpa using hs, fun i hi => ?_⟩
  rw [Array.getElem?_setIfInBounds]
  by_cases e : i = j
  · subst e; simp [hs, hj]
  · rw [if_neg (fun h => e h.symm)]
    show _ = some (if i = j then v else f i)
    rw [if_neg e]; exact hc i hi
theorem Arr.other (h : Arr w g t n f) (a : Addr) (ha : a.block ≠ g) (v : Value) : Arr (w.setCell a v) g t n f := by
  obtain ⟨cs, hg, hs, hc⟩ := h
  exact ⟨cs, by rw [heap_setCell_other w a g v (fun e => ha e.symm)]; exact hg, hs, hc⟩
theorem Arr.below {B : Nat} (h : Arr w g t n f) (hb : Below B w w') (hB : g < B) : Arr w' g t n f := by
  obtain ⟨cs, hg, hs, hc⟩ := h
  exact ⟨cs, by rw [hb.block g hB]; exact hg, hs, hc⟩
theorem Arr.congr {f' : Nat → Value} (h : Arr w g t n f) (he : ∀ j, j < n → f j = f' j) : Arr w g t n f' := by
  obtain ⟨cs, hg, hs, hc⟩ := h
  exact ⟨cs, hg, hs, fun j hj => by rw [← he j hj]; exact hc j hj⟩
end

/-- a new variable of an array type -/
theorem allocArr {P : Program} {w : World} {ops : Array Oper} {rest : List Oper} {o : Oper} {a : Act} {Q : Exit → Act → World → Prop} (hgd : o.guard = none) (t : TypeId) (ho : o.op = Op.alloc t)
    (z : Value) (n : Nat) (hz : (P.info? t).map (fun i => i.zero) = some (some (.agg (Array.replicate n z))))
    (h : ∀ w', Arr w' w.heap.size t n (fun _ => z) → Below w.heap.size w w' → w'.heap.size = w.heap.size + 1 → wpList P ops Q rest (a.put o.dst (.pointer (some ⟨w.heap.size, 0, none⟩))) w') :
    wpList P ops Q (o :: rest) a w := by
  have hr : (Instr.alloc t true (.tuple #[])).run P w = .ok (.pointer (some ⟨w.heap.size, 0, none⟩)) (w.alloc (.cells (Array.replicate n z) t)) := by
    cases hq : P.info? t with
    | none => simp [hq] at hz
    | some i =>
      simp [hq] at hz
      simp [Instr.alloc, zeroValue, typeInfo, hq, hz, newVar, Value.cells]
      rfl
  refine wpList_plain hgd fun K hK' => ?_
  unfold Oper.wp
  simp only [execOp, ho, Sem.run_bind, hr, Result.andThen, Sem.run_pure]
  refine hK' _ _ (h _ ⟨Array.replicate n z, heap_alloc_new w _, by simp, fun j hj => by simp [hj]⟩ ((Below.refl _ _).alloc (Nat.le_refl _) _) (by simp))

/-- a whole array loaded -/
theorem loadArr {P : Program} {w : World} {ops : Array Oper} {rest : List Oper} {o : Oper} {a : Act} {Q : Exit → Act → World → Prop} (hgd : o.guard = none) (ty : TypeId) (x : Operand) (ho : o.op = .load ty x)
    (g n : Nat) (t e : TypeId) (f : Nat → Value) (hx : a.eval x = .pointer (some ⟨g, 0, none⟩)) (hg : Arr w g t n f) (hu : P.underlying ty = some (.array n e)) (hi : (P.info? ty).map (·.size) = some n)
    (h : ∀ cs : Array Value, cs.size = n → (∀ j, j < n → cs[j]? = some (f j)) → wpList P ops Q rest (a.put o.dst (.agg cs)) w) : wpList P ops Q (o :: rest) a w := by
  obtain ⟨cs, hg, hs, hc⟩ := hg
  exact wpList_load_row hgd ty x ho g hx t cs (0, 0) _ hg hu rfl (by rw [hs]; exact hi) (h cs hs hc)

/-- a whole array stored -/
theorem storeArr {P : Program} {w : World} {ops : Array Oper} {rest : List Oper} {o : Oper} {a : Act} {Q : Exit → Act → World → Prop} (hgd : o.guard = none) (ty : TypeId) (x y : Operand) (ho : o.op = .store ty x y)
    (g n : Nat) (t : TypeId) (f f' : Nat → Value) (hx : a.eval x = .pointer (some ⟨g, 0, none⟩)) (hg : Arr w g t n f) (cs : Array Value) (hy : a.eval y = .agg cs) (hs : cs.size = n) (hc : ∀ j, j < n → cs[j]? = some (f' j))
    (h1 : ∀ j, (f' j).oneCell' = true) (hi : (P.info? ty).map (·.size) = some n)
    (h : ∀ w', Arr w' g t n f' → Below g w w' → w'.heap.size = w.heap.size → (∀ k, k ≠ g → w'.heap[k]? = w.heap[k]?) → wpList P ops Q rest (a.put o.dst undef) w') : wpList P ops Q (o :: rest) a w := by
  obtain ⟨cur, hg, hcs, hcc⟩ := hg
  have hone : ∀ v ∈ cs.toList, v.oneCell' = true := by
    intro v hv
    obtain ⟨j, hj, e⟩ := List.getElem_of_mem hv
    have hj' : j < n := by simpa [hs] using hj
    have := hc j hj'
    rw [← Array.getElem?_toList, List.getElem?_eq_getElem hj, e] at this
    rw [Option.some.inj this]; exact h1 j
  have hst := run_storeCells_at P g 0 t cs.toList 0 cur w hg (by simp; omega) hone
  have hrun : (Instr.storeAt ty (.pointer (some ⟨g, 0, none⟩)) (.agg cs)).run P w = .ok () (w.setRow g cs) := by
    cases hq : P.info? ty with
    | none => simp [hq] at hi
    | some i =>
      simp [hq] at hi
      have e : (cur.toList.take 0 ++ cs.toList ++ cur.toList.drop (0 + cs.toList.length)).toArray = cs := by
        apply Array.ext'
        simp
        omega
      simp only [Nat.add_zero] at hst
      rw [e] at hst
      simp [Instr.storeAt, Instr.sureAddr, storeVar, sizeOf, typeInfo, hq, Value.cells, hs, hi, hst]
  refine wpList_plain hgd fun K hK' => ?_
  unfold Oper.wp
  simp only [execOp, ho, hx, hy, Sem.run_bind, hrun, Result.andThen, Sem.run_pure]
  refine hK' _ _ (h _ ⟨cs, setRow_heap w g cur cs t _ hg, hs, hc⟩ ⟨rfl, rfl, rfl, by simp, fun k hk => setRow_other w g k cs (by omega)⟩ (by simp) (fun k hk => setRow_other w g k cs hk))

end Go.Proofs.Ytokidabnjodglaa
