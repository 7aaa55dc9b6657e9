/- The library tables that are laid. No condition but those that each states. -/
import Derived.Test.YtnbdadjomnpcgaaDoorNameA
import Derived.Lib.LaidTab
import Derived.Lib.LaidU8
import Derived.LaidMore
namespace Go.Proofs.YtnbdadjomnpcgaaDoor
open Go Go.RowKit
set_option linter.unusedVariables false
set_option linter.unusedSimpArgs false
set_option linter.unnecessarySimpa false

theorem tabU_laid {w : World} {row : List (String × DataW Unit)} (e : row = [("unicode/utf8.acceptRanges", Lib.acceptData), ("unicode/utf8.first", Lib.firstData)]) (h : laidMetH Tryd.prog row w) : TabU w.heap := by
  subst e
  rw [MakeChecks.laidMetH_plain _ _ _ (by kernel_rfl)] at h
  have h3 : Lib.VarReads Tryd.prog w "unicode/utf8.first" Lib.firstData := Lib.laidMet.reads h (by simp)
  have h4 : Lib.VarReads Tryd.prog w "unicode/utf8.acceptRanges" Lib.acceptData := Lib.laidMet.reads h (by simp)
  obtain ⟨g, t, cs, fuel, p, hg, hty, hvar, hd⟩ := h3
  obtain rfl := Option.some.inj ((show Tryd.prog.globalNamed "unicode/utf8.first" = some 0 by kernel_rfl).symm.trans hg)
  obtain rfl := Option.some.inj ((show (Tryd.prog.globals[0]?).map (·.type) = some 72 by kernel_rfl).symm.trans hty)
  have hcs := Lib.cells_of_tab Tryd.underlying72 Tryd.underlying5 (by kernel_rfl) (by kernel_rfl) hd
  obtain ⟨g', t', cs', fuel', p', hg', hty', hvar', hd'⟩ := h4
  obtain rfl := Option.some.inj ((show Tryd.prog.globalNamed "unicode/utf8.acceptRanges" = some 1 by kernel_rfl).symm.trans hg')
  obtain rfl := Option.some.inj ((show (Tryd.prog.globals[1]?).map (·.type) = some 75 by kernel_rfl).symm.trans hty')
  have key : ∀ i : Nat, i < 16 → (w.cell? ⟨1, i * 2, none⟩ = some (.int .u8 (Lib.accLo i : Nat)) ∧ w.cell? ⟨1, i * 2 + 1, none⟩ = some (.int .u8 (Lib.accHi i : Nat))) := by
    intro i hi
    obtain ⟨fuel2, d, q, hdi, he⟩ := Lib.array_elem Tryd.underlying75 hd' i hi
    simp only [List.getElem?_map, List.getElem?_range hi, Option.map_some, Option.some.injEq] at hdi
    subst hdi
    have hc2 : Tryd.prog.cellsOf 74 = 2 := by kernel_rfl
    have hc1 : Tryd.prog.cellsOf 5 = 1 := by kernel_rfl
    rw [hc2] at he
    have hw := Lib.ints_of_struct Tryd.underlying74 (fun j f hj => by
      match j, hj with
      | 0, hj => simp at hj; subst hj; exact ⟨Tryd.underlying5, rfl, hc1⟩
      | 1, hj => simp at hj; subst hj; exact ⟨Tryd.underlying5, rfl, hc1⟩
      | j + 2, hj => simp at hj) (by rw [hc2]; rfl) he
    have e0 := congrArg (·[0]?) hw
    have e1 := congrArg (·[1]?) hw
    simp only [List.getElem?_take, List.getElem?_drop] at e0 e1
    refine ⟨?_, ?_⟩
    · rw [World.var?_cell hg' hvar' (i * 2), ← Array.getElem?_toList]
      simpa using e0
    · rw [World.var?_cell hg' hvar' (i * 2 + 1), ← Array.getElem?_toList]
      simpa using e1
  refine ⟨fun c hc => ?_, fun i hi => ?_, fun i hi => ?_⟩
  · rw [← cell_w rfl, World.var?_cell hg hvar c, ← Array.getElem?_toList, hcs]
    simp [Lib.firstTab, hc]
  · rw [← cell_w rfl]; exact (key i hi).1
  · rw [← cell_w rfl]; exact (key i hi).2

end Go.Proofs.YtnbdadjomnpcgaaDoor
