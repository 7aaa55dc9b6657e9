/- The table of blanks is laid. No condition but that the row says so. -/
import Derived.Test.YthgdaacbhcondaaDoorOpcE
import Derived.Test.YthgdaacbhcondaaDoorRows
import Derived.Lib.LaidU8
import Derived.Lib.LaidTab
import Derived.LaidMore
import Derived.SevenTiedAt
namespace Go.Proofs.YthgdaacbhcondaaDoor
open Go Go.RowKit
set_option linter.unusedVariables false
set_option linter.unusedSimpArgs false
set_option linter.unnecessarySimpa false
theorem tabA_of {w : World} {row : List (String × DataW Unit)} (e : row = [("unicode.White_Space", Rows.laid_unicode_White_Space), ("strings.asciiSpace", Rows.laid_strings_asciiSpace)]) (h : laidMetH Tryd.prog row w) : TabA w.heap := by
  subst e
  rw [MakeChecks.laidMetH_plain _ _ _ (by kernel_rfl)] at h
  have h3 : Lib.VarReads Tryd.prog w "strings.asciiSpace" (Lib.tabData .u8 Lib.asciiSpaceTab) := by
    rw [show (Lib.tabData .u8 Lib.asciiSpaceTab : DataW Unit) = Rows.laid_strings_asciiSpace by kernel_rfl]
    exact Lib.laidMet.reads h (by simp)
  obtain ⟨g, t, cs, fuel, p, hg, hty, hvar, hd⟩ := h3
  obtain rfl := Option.some.inj ((show Tryd.prog.globalNamed "strings.asciiSpace" = some 0 by kernel_rfl).symm.trans hg)
  obtain rfl := Option.some.inj ((show (Tryd.prog.globals[0]?).map (·.type) = some 49 by kernel_rfl).symm.trans hty)
  have hcs := Lib.cells_of_tab Tryd.underlying49 Tryd.underlying5 (by kernel_rfl) (by kernel_rfl) hd
  refine tabA_laid ?_
  unfold Lib.TabIs
  rw [hvar, ← hcs]
end Go.Proofs.YthgdaacbhcondaaDoor
