/- The library table that is laid. No condition but those that each states. -/
import Derived.Test.YtkkhjaiaicmpaaaDoorWordI
import Derived.Test.YtkkhjaiaicmpaaaDoorWordL
import Derived.Lib.LaidTab
import Derived.LaidMore
namespace Go.Proofs.YtkkhjaiaicmpaaaDoor
open Go Go.RowKit
set_option linter.unusedVariables false
set_option linter.unusedSimpArgs false
set_option linter.unnecessarySimpa false

theorem tabH_of {w : World} {P : Program} (h : Lib.TabIs P w "math/bits.deBruijn64tab" .u8 (Lib.deBruijn64tab.map Int.ofNat)) (hg : P.globalNamed "math/bits.deBruijn64tab" = some 0) : TabH w.heap := by
  intro j hj
  have := h.cell hg j (by rw [List.length_map]; exact hj)
  rw [← cell_w rfl, this]
  exact congrArg (fun z => some (Value.int .u8 z)) ((by decide +kernel : ∀ j : Fin 64, (Lib.deBruijn64tab.map Int.ofNat).getD j.1 0 = ((Lib.deBruijn64tab.getD j.1 0 : Nat) : Int)) ⟨j, hj⟩)
theorem tabH_laid {w : World} {row : List (String × DataW Unit)} (e : row = [("math/bits.deBruijn64tab", Lib.tabData .u8 (Lib.deBruijn64tab.map Int.ofNat))]) (h : laidMetH Tryd.prog row w) : TabH w.heap := by
  subst e
  rw [MakeChecks.laidMetH_plain _ _ _ (by kernel_rfl)] at h
  exact tabH_of (Lib.tabIs_of_head (g := 0) (by kernel_rfl) (by kernel_rfl) Tryd.underlying63 Tryd.underlying5 (by kernel_rfl) (by kernel_rfl) h) (by kernel_rfl)

end Go.Proofs.YtkkhjaiaicmpaaaDoor
