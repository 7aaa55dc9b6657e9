/- Instructions as parameters, with the bound on sizes that the form's reach gives. No condition. -/
import Derived.Test.YticnkojpfmkjeaaKOpenW
import Derived.Test.YticnkojpfmkjeaaKInsO
import Derived.SizedLaws
namespace Go.Proofs.Yticnkojpfmkjeaa
open Go Go.RowKit Go.ChangeShapes Go.WideShapes Go.Deep
set_option linter.unusedVariables false
set_option linter.unusedSimpArgs false
theorem weightsEach_mem {H : Type} {P : Program} {q : Nat} : ∀ (ts : List TypeId) (ds : List (DataW H)) (i : Nat) (t : TypeId) (d : DataW H), ts[i]? = some t → ds[i]? = some d → q ∈ d.weights P t → q ∈ DataW.weightsEach P ts ds
  | [], ds, i, t, d, h, _, _ => by simp at h
  | _ :: ts, [], i, t, d, _, h, _ => by simp at h
  | t' :: ts, d' :: ds, 0, t, d, h1, h2, hq => by
    simp at h1 h2; subst h1 h2
    simp only [DataW.weightsEach, List.mem_append]; exact .inl hq
  | t' :: ts, d' :: ds, i + 1, t, d, h1, h2, hq => by
    simp only [List.getElem?_cons_succ] at h1 h2
    simp only [DataW.weightsEach, List.mem_append]; exact .inr (weightsEach_mem ts ds i t d h1 h2 hq)
theorem trod_onesW {P : Program} {H : Type} {enc : TypeId × Value → H} {w : World} {base : Nat} {spare : Nat → Bool} {held : Bool} {fuel : Nat} {t : TypeId} {cs : List Value} {x : DataW H × List MemPlace} {fields : Array Field} {m : Nat}
    (ht : P.underlying t = some (.struct fields)) (hone : oneCellFields P fields = true) (hC : P.cellsOf t = m) (h : DataW.trod enc P w base spare held fuel t cs = some x) :
    cs.length = m ∧ ∃ n, ∀ i f, fields[i]? = some f → i < m → ∃ c y, cs[i]? = some c ∧ DataW.trod enc P w base spare held n f.type [c] = some y ∧ ∀ q ∈ y.1.weights P f.type, q ∈ x.1.weights P t := by
  obtain ⟨xs, n, _, hxe, hlen, hxl, hg⟩ := DataW.trod_struct ht h
  rw [hC] at hlen
  refine ⟨hlen, n, fun i f hf him => ?_⟩
  obtain ⟨o0, k0⟩ := hone_of hone i f hf
  obtain ⟨hlt, hfe⟩ := Array.getElem?_eq_some_iff.1 hf
  have hcs : cs[i]? = some (cs[i]'(by omega)) := List.getElem?_eq_getElem (by omega)
  have hx : xs[i]? = some (xs[i]'(by rw [hxl]; exact hlt)) := List.getElem?_eq_getElem _
  have := hg i f hf
  rw [o0, k0, hx] at this
  refine ⟨_, xs[i]'(by rw [hxl]; exact hlt), hcs, ?_, fun q hq => ?_⟩
  · have e1 : (cs.drop i).take 1 = [cs[i]'(by omega)] := by rw [List.drop_eq_getElem_cons (by omega)]; rfl
    rw [e1] at this
    exact this
  · rw [hxe]
    simp only [DataW.weights, ht]
    refine weightsEach_mem _ _ i f.type _ ?_ ?_ hq
    · rw [List.getElem?_map, Array.getElem?_toList, hf]; rfl
    · rw [List.getElem?_map, hx]; rfl
def EInsB : El Ins := fun H cs x => EIns H cs x ∧ x.l.length ≤ 70368744177664
theorem opensW_ins : OpensW Try.prog 70 EInsB := by
  intro H enc w base spare held fuel cs x h hwt
  obtain ⟨hl, n, hg⟩ := trod_onesW (m := 5) Try.underlying70 (by kernel_rfl) (by kernel_rfl) h
  obtain ⟨c0, y0, e0, h0, _⟩ := hg 0 _ rfl (by omega)
  obtain ⟨c1, y1, e1, h1, _⟩ := hg 1 _ rfl (by omega)
  obtain ⟨c2, y2, e2, h2, _⟩ := hg 2 _ rfl (by omega)
  obtain ⟨c3, y3, e3, h3, _⟩ := hg 3 _ rfl (by omega)
  obtain ⟨c4, y4, e4, h4, k4⟩ := hg 4 _ rfl (by omega)
  obtain ⟨a0, u0, w0⟩ := opens_int Try.underlying5 _ _ _ _ _ _ _ _ _ h0
  obtain ⟨a1, u1, w1⟩ := opens_int Try.underlying28 _ _ _ _ _ _ _ _ _ h1
  obtain ⟨a2, u2, w2⟩ := opens_int Try.underlying28 _ _ _ _ _ _ _ _ _ h2
  obtain ⟨a3, u3, w3⟩ := opens_int Try.underlying2 _ _ _ _ _ _ _ _ _ h3
  obtain ⟨l, v, u4, w4, w5⟩ := opensW_slice (n := 1) (b := 4) Try.underlying24 (by kernel_rfl) (by kernel_rfl) (by decide) (opens_int Try.underlying28).w _ _ _ _ _ _ _ _ _ h4 (fun q hq => hwt q (k4 q hq))
  simp only [List.cons.injEq, and_true] at u0 u1 u2 u3 u4
  subst u0 u1 u2 u3 u4
  refine ⟨⟨a0, a1, a2, a3, l⟩, ⟨_, ?_, w4, w0, w1, w2, w3⟩, by show l.length ≤ _; omega⟩
  match cs, hl with
  | [x0, x1, x2, x3, x4], _ =>
    simp only [List.getElem?_cons_zero, List.getElem?_cons_succ, Option.some.injEq] at e0 e1 e2 e3 e4
    rw [e0, e1, e2, e3, e4]
theorem opensW_inss : OpensW Try.prog 43 (ESlB 48 5 EInsB) := opensW_slice (n := 5) Try.underlying43 (by kernel_rfl) (by kernel_rfl) (by decide) opensW_ins
theorem Sl.unW {H : Heap} {v : Value} {l : List Ins} (h : Sl 5 EInsB H v l) : Sl 5 EIns H v l ∧ ∀ x ∈ l, x.l.length ≤ 70368744177664 := by
  have h1 : Sl 5 EIns H v l := by
    obtain ⟨a, cap, k1, k2, k3, k4, k5, k6⟩ := h
    exact ⟨a, cap, k1, k2, k3, k4, k5, fun j x hj => by obtain ⟨cs, q1, q2, q3⟩ := k6 j x hj; exact ⟨cs, q1, q2, q3.1⟩⟩
  refine ⟨h1, fun s hs => ?_⟩
  obtain ⟨j, hj, rfl⟩ := List.getElem_of_mem hs
  obtain ⟨cs, _, _, hx⟩ := h.at j hj
  have := hx.2
  rwa [List.getD_eq_getElem?_getD, List.getElem?_eq_getElem hj] at this
end Go.Proofs.Yticnkojpfmkjeaa
