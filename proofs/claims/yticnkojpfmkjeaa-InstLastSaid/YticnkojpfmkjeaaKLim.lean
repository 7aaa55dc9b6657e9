/- A memory's limits, as they read. No condition. -/
import Derived.Test.YticnkojpfmkjeaaKOpen
namespace Go.Proofs.Yticnkojpfmkjeaa
open Go Go.RowKit Go.ChangeShapes Go.WideShapes Go.Deep
set_option linter.unusedVariables false
def ELim : El (Int × Int) := fun _ cs x => cs = [.int .u32 x.1, .int .i64 x.2] ∧ InR .u32 x.1 ∧ InR .i64 x.2
theorem opens_lim : Opens Try.prog 41 ELim := by
  intro H enc w base spare held fuel cs x h
  obtain ⟨hl, n, hg⟩ := trod_ones (m := 2) Try.underlying41 (by kernel_rfl) (by kernel_rfl) h
  obtain ⟨c0, y0, e0, h0⟩ := hg 0 _ rfl (by omega)
  obtain ⟨c1, y1, e1, h1⟩ := hg 1 _ rfl (by omega)
  obtain ⟨a, u0, w0⟩ := opens_int Try.underlying28 _ _ _ _ _ _ _ _ _ h0
  obtain ⟨b, u1, w1⟩ := opens_int Try.underlying2 _ _ _ _ _ _ _ _ _ h1
  simp only [List.cons.injEq, and_true] at u0 u1
  subst u0 u1
  exact ⟨(a, b), two_cells hl e0 e1, w0, w1⟩
end Go.Proofs.Yticnkojpfmkjeaa
