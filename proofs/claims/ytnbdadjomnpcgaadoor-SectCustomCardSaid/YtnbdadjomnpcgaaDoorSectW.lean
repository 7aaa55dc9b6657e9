/- Sections as parameters. No condition. -/
import Derived.Test.YtnbdadjomnpcgaaDoorKOpenW
import Derived.Test.YtnbdadjomnpcgaaDoorSectP
namespace Go.Proofs.YtnbdadjomnpcgaaDoor
open Go Go.RowKit Go.ChangeShapes Go.WideShapes Go.Deep
set_option linter.unusedVariables false
set_option linter.unusedSimpArgs false
def ESecB : El Sec := fun H cs x => ESec H cs x ∧ x.2.length ≤ 140737488351232
theorem opensW_sec : OpensW Tryd.prog 35 ESecB := by
  intro H enc w base spare held fuel cs x h hwt
  obtain ⟨y0, y1, n, rfl, hl, h0, h1⟩ := trod_struct2 Tryd.underlying35 h
  have hc : cs.length = 2 := hl.trans (by kernel_rfl)
  match cs, hc with
  | [a, b], _ =>
    have k0 : Tryd.prog.cellsOf 5 = 1 := by kernel_rfl
    have k1 : Tryd.prog.cellsOf 22 = 1 := by kernel_rfl
    have h0' : DataW.trod enc Tryd.prog w base spare held n 5 [a] = some y0 := by simpa [k0] using h0
    have h1' : DataW.trod enc Tryd.prog w base spare held n 22 [b] = some y1 := by simpa [k1] using h1
    obtain ⟨a0, u0, w0⟩ := opens_int Tryd.underlying5 _ _ _ _ _ _ _ _ _ h0'
    obtain ⟨l, v, u1, w1, w2⟩ := opensW_slice (n := 1) (b := 1) Tryd.underlying22 (by kernel_rfl) (by kernel_rfl) (by decide) (opens_int Tryd.underlying5).w _ _ _ _ _ _ _ _ _ h1' (fun n hn => hwt n (weightsEach2 Tryd.underlying35 (.inr hn)))
    simp only [List.cons.injEq, and_true] at u0 u1
    subst u0 u1
    exact ⟨(a0, l), ⟨_, rfl, w1, w0⟩, by show l.length ≤ _; omega⟩
theorem opensW_secs : OpensW Tryd.prog 24 (ESlB 32 2 ESecB) := opensW_slice (n := 2) Tryd.underlying24 (by kernel_rfl) (by kernel_rfl) (by decide) opensW_sec
theorem Sl.unB {H : Heap} {v : Value} {l : List Sec} (h : Sl 2 ESecB H v l) : Sl 2 ESec H v l ∧ ∀ s ∈ l, s.2.length ≤ 140737488351232 := by
  refine ⟨h.mapE fun cs x hx => hx.1, fun s hs => ?_⟩
  obtain ⟨j, hj, rfl⟩ := List.getElem_of_mem hs
  obtain ⟨cs, _, _, hx⟩ := h.at j hj
  have := hx.2
  rwa [List.getD_eq_getElem?_getD, List.getElem?_eq_getElem hj] at this
end Go.Proofs.YtnbdadjomnpcgaaDoor
