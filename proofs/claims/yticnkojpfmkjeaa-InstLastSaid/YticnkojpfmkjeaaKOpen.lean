/- From what a row tells of its arguments to readings of memory. No condition. -/
import Derived.Test.YticnkojpfmkjeaaKSl
import Derived.ProofKit
import Derived.OpenShut
import Derived.Deep.Slices
import Derived.Deep.Fields
namespace Go.Proofs.Yticnkojpfmkjeaa
open Go Go.RowKit Go.ChangeShapes Go.WideShapes Go.Deep
set_option linter.unusedVariables false
set_option linter.unusedSimpArgs false

/-- what a row tells of such a type is such a reading -/
def Opens (P : Program) (t : TypeId) {α : Type} (E : El α) : Prop :=
  ∀ (H : Type) (enc : TypeId × Value → H) (w : World) (base : Nat) (spare : Nat → Bool) (held : Bool) (fuel : Nat) (cs : List Value) (x : DataW H × List MemPlace), DataW.trod enc P w base spare held fuel t cs = some x → ∃ y, E w.heap cs y

theorem opens_int {P : Program} {t : TypeId} {k : IntKind} (ht : P.underlying t = some (.int k)) : Opens P t (EInt k) := by
  intro H enc w base spare held fuel cs x h
  obtain ⟨n, hn, _, hw⟩ := DataW.trod_int ht h
  exact ⟨n, hn, inR_wf.1 hw⟩
theorem opens_bool {P : Program} {t : TypeId} (ht : P.underlying t = some .bool) : Opens P t EBool := by
  intro H enc w base spare held fuel cs x h
  obtain ⟨n, hn, _⟩ := DataW.trod_bool ht h
  exact ⟨n, hn⟩
theorem opens_str {P : Program} {t : TypeId} (ht : P.underlying t = some .string) : Opens P t EStr := by
  intro H enc w base spare held fuel cs x h
  obtain ⟨n, hn, _, hw⟩ := DataW.trod_string ht h
  exact ⟨n, hn, hw⟩

theorem opens_slice {P : Program} {t e : TypeId} {α : Type} [Inhabited α] {n : Nat} {E : El α} (ht : P.underlying t = some (.slice e)) (hn : P.cellsOf e = n) (hpos : 0 < n) (hE : Opens P e E) : Opens P t (ESl n E) := by
  intro H enc w base spare held fuel cs x h
  subst hn
  rcases open_slice ht h with ⟨rfl, _⟩ | ⟨a, len, cap, m, f, D, Pl, rfl, _, hl, hm, hmm, _, hi⟩
  · exact ⟨[], _, rfl, Sl.nil _ _ _⟩
  · have hlm : len ≤ m := by rw [hmm]; split <;> omega
    have hex : ∀ i, i < len → ∃ y : α, ∃ cs', w.cells? base (a.add (i * P.cellsOf e)) (P.cellsOf e) = some cs' ∧ E w.heap cs' y := by
      intro i hil
      obtain ⟨cs', hc, ht'⟩ := hi i (by omega)
      obtain ⟨y, hy⟩ := hE _ _ _ _ _ _ _ _ _ ht'
      exact ⟨y, cs', hc, hy⟩
    obtain ⟨F, hF⟩ := choose_lt hex
    by_cases h0 : len = 0
    · subst h0
      exact ⟨[], _, rfl, some a, cap, rfl, by simp, hm, by simp, fun h => absurd h (by simp), by simp [nth]⟩
    · have hsp : a.spot = none := by
        obtain ⟨cs0, hc0, _⟩ := hF 0 (by omega)
        obtain ⟨_, hcl0, hat0⟩ := World.cells?_some hc0
        have h1 := hat0 0 hpos
        have h2 : cs0[0]? = some (cs0[0]'(by omega)) := List.getElem?_eq_getElem (by omega)
        rw [h2] at h1
        have := World.cell?_spot h1
        simpa [Addr.add] using this
      refine ⟨(List.range len).map F, _, rfl, some a, cap, by simp, by simpa using hl, hm, by simp, fun _ p hp => by cases hp; exact hsp, ?_⟩
      intro j y hj
      rw [nth_eq] at hj
      simp only [List.getElem?_map, Option.map_eq_some_iff] at hj
      obtain ⟨i, hi', rfl⟩ := hj
      have hil : i < len ∧ i = j := by
        obtain ⟨h1, h2⟩ := List.getElem?_eq_some_iff.1 hi'
        simp at h1 h2
        omega
      obtain ⟨hil, rfl⟩ := hil
      obtain ⟨cs', hc, hy⟩ := hF i hil
      obtain ⟨_, hcl, hat⟩ := World.cells?_some hc
      refine ⟨cs', hcl, ?_, hy⟩
      intro q u hu
      rw [nth_eq] at hu
      have hq : q < P.cellsOf e := by
        have := (List.getElem?_eq_some_iff.1 hu).1
        omega
      have h1 := hat q hq
      rw [hu] at h1
      exact h1
/-- a struct whose fields are of one cell each -/
theorem trod_ones {P : Program} {H : Type} {enc : TypeId × Value → H} {w : World} {base : Nat} {spare : Nat → Bool} {held : Bool} {fuel : Nat} {t : TypeId} {cs : List Value} {x : DataW H × List MemPlace} {fields : Array Field} {m : Nat}
    (ht : P.underlying t = some (.struct fields)) (hone : oneCellFields P fields = true) (hC : P.cellsOf t = m) (h : DataW.trod enc P w base spare held fuel t cs = some x) :
    cs.length = m ∧ ∃ n, ∀ i f, fields[i]? = some f → i < m → ∃ c y, cs[i]? = some c ∧ DataW.trod enc P w base spare held n f.type [c] = some y := by
  obtain ⟨xs, n, _, _, hlen, hxl, hg⟩ := DataW.trod_struct ht h
  rw [hC] at hlen
  refine ⟨hlen, n, fun i f hf him => ?_⟩
  obtain ⟨o0, k0⟩ := hone_of hone i f hf
  obtain ⟨hlt, hfe⟩ := Array.getElem?_eq_some_iff.1 hf
  have hcs : cs[i]? = some (cs[i]'(by omega)) := List.getElem?_eq_getElem (by omega)
  have hx : xs[i]? = some (xs[i]'(by rw [hxl]; exact hlt)) := List.getElem?_eq_getElem _
  have := hg i f hf
  rw [o0, k0, hx] at this
  refine ⟨_, xs[i]'(by rw [hxl]; exact hlt), hcs, ?_⟩
  have e1 : (cs.drop i).take 1 = [cs[i]'(by omega)] := by rw [List.drop_eq_getElem_cons (by omega)]; rfl
  rw [e1] at this
  exact this
theorem two_cells {cs : List Value} (h : cs.length = 2) {a b : Value} (h0 : cs[0]? = some a) (h1 : cs[1]? = some b) : cs = [a, b] := by
  match cs, h with
  | [x, y], _ => simp at h0 h1; rw [h0, h1]
end Go.Proofs.Yticnkojpfmkjeaa
