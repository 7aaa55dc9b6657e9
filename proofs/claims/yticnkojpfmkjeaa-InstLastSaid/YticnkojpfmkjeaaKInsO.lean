/- An instruction as a parameter. No condition. -/
import Derived.Test.YticnkojpfmkjeaaKOpen
import Derived.Test.YticnkojpfmkjeaaKIns
namespace Go.Proofs.Yticnkojpfmkjeaa
open Go Go.RowKit Go.ChangeShapes Go.WideShapes Go.Deep
set_option linter.unusedVariables false
theorem opens_ins : Opens Try.prog 70 EIns := by
  intro H enc w base spare held fuel cs x h
  obtain ⟨hl, n, hg⟩ := trod_ones (m := 5) Try.underlying70 (by kernel_rfl) (by kernel_rfl) h
  obtain ⟨c0, y0, e0, h0⟩ := hg 0 _ rfl (by omega)
  obtain ⟨c1, y1, e1, h1⟩ := hg 1 _ rfl (by omega)
  obtain ⟨c2, y2, e2, h2⟩ := hg 2 _ rfl (by omega)
  obtain ⟨c3, y3, e3, h3⟩ := hg 3 _ rfl (by omega)
  obtain ⟨c4, y4, e4, h4⟩ := hg 4 _ rfl (by omega)
  obtain ⟨a0, u0, w0⟩ := opens_int Try.underlying5 _ _ _ _ _ _ _ _ _ h0
  obtain ⟨a1, u1, w1⟩ := opens_int Try.underlying28 _ _ _ _ _ _ _ _ _ h1
  obtain ⟨a2, u2, w2⟩ := opens_int Try.underlying28 _ _ _ _ _ _ _ _ _ h2
  obtain ⟨a3, u3, w3⟩ := opens_int Try.underlying2 _ _ _ _ _ _ _ _ _ h3
  obtain ⟨l, v, u4, w4⟩ := opens_slice (n := 1) Try.underlying24 (by kernel_rfl) (by decide) (opens_int Try.underlying28) _ _ _ _ _ _ _ _ _ h4
  simp only [List.cons.injEq, and_true] at u0 u1 u2 u3 u4
  subst u0 u1 u2 u3 u4
  refine ⟨⟨a0, a1, a2, a3, l⟩, _, ?_, w4, w0, w1, w2, w3⟩
  match cs, hl with
  | [x0, x1, x2, x3, x4], _ =>
    simp only [List.getElem?_cons_zero, List.getElem?_cons_succ, Option.some.injEq] at e0 e1 e2 e3 e4
    rw [e0, e1, e2, e3, e4]
theorem opens_inss : Opens Try.prog 43 (ESl 5 EIns) := opens_slice (n := 5) Try.underlying43 (by kernel_rfl) (by decide) opens_ins
end Go.Proofs.Yticnkojpfmkjeaa
