/- Structs of structs as parameters, with the bound on sizes that the form's reach gives. No condition. -/
import Derived.Test.YticnkojpfmkjeaaKOpenW
import Derived.SizedLaws
namespace Go.Proofs.Yticnkojpfmkjeaa
open Go Go.RowKit Go.ChangeShapes Go.WideShapes Go.Deep
set_option linter.unusedVariables false
set_option linter.unusedSimpArgs false
theorem weightsEach_at {H : Type} {P : Program} {q : Nat} : ∀ (ts : List TypeId) (ds : List (DataW H)) (i : Nat) (t : TypeId) (d : DataW H), ts[i]? = some t → ds[i]? = some d → q ∈ d.weights P t → q ∈ DataW.weightsEach P ts ds
  | [], ds, i, t, d, h, _, _ => by simp at h
  | _ :: ts, [], i, t, d, _, h, _ => by simp at h
  | t' :: ts, d' :: ds, 0, t, d, h1, h2, hq => by
    simp at h1 h2; subst h1 h2
    simp only [DataW.weightsEach, List.mem_append]; exact .inl hq
  | t' :: ts, d' :: ds, i + 1, t, d, h1, h2, hq => by
    simp only [List.getElem?_cons_succ] at h1 h2
    simp only [DataW.weightsEach, List.mem_append]; exact .inr (weightsEach_at ts ds i t d h1 h2 hq)
/-- a struct, field by field -/
theorem trod_structW {P : Program} {H : Type} {enc : TypeId × Value → H} {w : World} {base : Nat} {spare : Nat → Bool} {held : Bool} {fuel : Nat} {t : TypeId} {cs : List Value} {x : DataW H × List MemPlace} {fields : Array Field} {m : Nat}
    (ht : P.underlying t = some (.struct fields)) (hC : P.cellsOf t = m) (h : DataW.trod enc P w base spare held fuel t cs = some x) :
    cs.length = m ∧ ∃ n, ∀ (i : Nat) (f : Field) (o z : Nat), fields[i]? = some f → f.offset = o → P.cellsOf f.type = z → ∃ y, DataW.trod enc P w base spare held n f.type ((cs.drop o).take z) = some y ∧ ∀ q ∈ y.1.weights P f.type, q ∈ x.1.weights P t := by
  obtain ⟨xs, n, _, hxe, hlen, hxl, hg⟩ := DataW.trod_struct ht h
  rw [hC] at hlen
  refine ⟨hlen, n, fun i f o z hf ho hz => ?_⟩
  subst ho hz
  obtain ⟨hlt, hfe⟩ := Array.getElem?_eq_some_iff.1 hf
  have hx : xs[i]? = some (xs[i]'(by rw [hxl]; exact hlt)) := List.getElem?_eq_getElem _
  have := hg i f hf
  rw [hx] at this
  refine ⟨_, this, fun q hq => ?_⟩
  rw [hxe]
  simp only [DataW.weights, ht]
  refine weightsEach_at _ _ i f.type _ ?_ ?_ hq
  · rw [List.getElem?_map, Array.getElem?_toList, hf]; rfl
  · rw [List.getElem?_map, hx]; rfl
/-- of a slice that is not looked at: it is one cell -/
def EOne : El Unit := fun _ cs _ => ∃ v, cs = [v] ∧ v.oneCell' = true
theorem opensW_one {P : Program} {t e : TypeId} (ht : P.underlying t = some (.slice e)) : OpensW P t EOne := by
  intro H enc w base spare held fuel cs x h _
  rcases DataW.trod_slice ht h with ⟨rfl, _⟩ | ⟨a, len, cap, elems, rest, n, _, rfl, _⟩
  · exact ⟨(), _, rfl, rfl⟩
  · exact ⟨(), _, rfl, rfl⟩
end Go.Proofs.Yticnkojpfmkjeaa
