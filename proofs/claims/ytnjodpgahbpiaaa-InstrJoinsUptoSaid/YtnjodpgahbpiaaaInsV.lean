/- Instructions as parameters, with their bulk. No condition. -/
import Derived.Test.YtnjodpgahbpiaaaKOpenU
import Derived.Test.YtnjodpgahbpiaaaKInsO
import Derived.Test.YtnjodpgahbpiaaaInsX
namespace Go.Proofs.Ytnjodpgahbpiaaa
open Go Go.RowKit Go.ChangeShapes Go.WideShapes Go.Deep
set_option linter.unusedVariables false
set_option linter.unusedSimpArgs false
theorem opensU_ins : OpensU Try.prog 36 EIns (fun x => 1 + x.l.length) := by
  intro H enc w base spare held fuel cs x h
  obtain ⟨hl, n, parts, hp, hg⟩ := trod_onesU (m := 5) Try.underlying36 (by kernel_rfl) (by kernel_rfl) h
  obtain ⟨c0, y0, e0, h0, _⟩ := hg 0 _ rfl (by omega)
  obtain ⟨c1, y1, e1, h1, _⟩ := hg 1 _ rfl (by omega)
  obtain ⟨c2, y2, e2, h2, _⟩ := hg 2 _ rfl (by omega)
  obtain ⟨c3, y3, e3, h3, _⟩ := hg 3 _ rfl (by omega)
  obtain ⟨c4, y4, e4, h4, k4⟩ := hg 4 _ rfl (by omega)
  obtain ⟨a0, u0, w0⟩ := opens_int Try.underlying5 _ _ _ _ _ _ _ _ _ h0
  obtain ⟨a1, u1, w1⟩ := opens_int Try.underlying33 _ _ _ _ _ _ _ _ _ h1
  obtain ⟨a2, u2, w2⟩ := opens_int Try.underlying33 _ _ _ _ _ _ _ _ _ h2
  obtain ⟨a3, u3, w3⟩ := opens_int Try.underlying2 _ _ _ _ _ _ _ _ _ h3
  obtain ⟨l, ⟨v, u4, w4⟩, w5⟩ := opensU_slice (n := 1) Try.underlying34 (by kernel_rfl) (by decide) (opens_int Try.underlying33).u _ _ _ _ _ _ _ _ _ h4
  simp only [List.cons.injEq, and_true] at u0 u1 u2 u3 u4
  subst u0 u1 u2 u3 u4
  refine ⟨⟨a0, a1, a2, a3, l⟩, ⟨_, ?_, w4, w0, w1, w2, w3⟩, ?_⟩
  · match cs, hl with
    | [x0, x1, x2, x3, x4], _ =>
      simp only [List.getElem?_cons_zero, List.getElem?_cons_succ, Option.some.injEq] at e0 e1 e2 e3 e4
      rw [e0, e1, e2, e3, e4]
  · have h5 := bulk_part k4
    have h7 : ∀ m : List Int, (m.map fun _ => 1).sum = m.length := by
      intro m
      induction m with
      | nil => rfl
      | cons y m ih => simp only [List.map_cons, List.sum_cons, List.length_cons, ih]; omega
    have h6 : l.length + 1 ≤ Rows.uptoBulk y4.1 := by rw [← h7 l]; exact w5
    rw [hp]
    simp only [Rows.uptoBulk]
    omega
theorem opensU_inss : OpensU Try.prog 22 (ESl 5 EIns) (fun l => Isp.bulk l + 1) := opensU_slice (n := 5) Try.underlying22 (by kernel_rfl) (by decide) opensU_ins
end Go.Proofs.Ytnjodpgahbpiaaa
