/- Slices of any elements in memory: what a slice value reads as, by how an element's cells read; kept behind new blocks; opened from what a row tells. No condition. -/
import Derived.Test.YtlnofmgelkohoaaRows
import Derived.WalkKit
import Derived.ProofKit
import Derived.OpenShut
import Derived.Deep.Slices
import Derived.Deep.Fields
import Derived.WalkLawsBesides
import Derived.Lib.Hide
namespace Go.Proofs.Ytlnofmgelkohoaa
open Go.RowKit Go.ChangeShapes Go.WideShapes Go.Deep
set_option linter.unusedVariables false

/-- how an element's cells read -/
abbrev El (α : Type) := World → List Value → α → Prop

/-- The slice value v reads as l, its elements of n cells each by E. -/
def Sl {α : Type} (n : Nat) (E : El α) (w : World) (v : Value) (l : List α) : Prop :=
  ∃ a cap, v = .slice a l.length cap ∧ l.length ≤ cap ∧ cap ≤ maxLen ∧ (a = none → cap = 0) ∧
    ∀ j x, l[j]? = some x → ∃ b off cs, a = some ⟨b, off, none⟩ ∧ cs.length = n ∧ (∀ i u, cs[i]? = some u → w.cell? ⟨b, off + j * n + i, none⟩ = some u) ∧ E w cs x

/-- what was there is there -/
def Old (w w' : World) : Prop := w.heap.size ≤ w'.heap.size ∧ ∀ k, k < w.heap.size → w'.heap[k]? = w.heap[k]?

theorem Old.of_below {w w' : World} {B : Nat} (h : Below B w w') (hB : w.heap.size ≤ B) : Old w w' := ⟨h.size, fun k hk => h.block k (by omega)⟩
theorem Old.cell {w w' : World} (h : Old w w') {p : Addr} {u : Value} (hc : w.cell? p = some u) : w'.cell? p = some u := by
  rw [World.cell?_of_block (w := w) (h.2 p.block (World.block_lt_of_cell? w _ hc))]; exact hc

/-- a reading that new blocks do not change -/
def Keeps {α : Type} (E : El α) : Prop := ∀ w w' cs x, Old w w' → E w cs x → E w' cs x

theorem Sl.old {α : Type} {n : Nat} {E : El α} (hE : Keeps E) {w w' : World} {v : Value} {l : List α} (h : Sl n E w v l) (ho : Old w w') : Sl n E w' v l := by
  obtain ⟨a, cap, hv, h1, h2, h3, h4⟩ := h
  refine ⟨a, cap, hv, h1, h2, h3, fun j x hj => ?_⟩
  obtain ⟨b, off, cs, ha, hl, hc, hx⟩ := h4 j x hj
  exact ⟨b, off, cs, ha, hl, fun i u hu => ho.cell (hc i u hu), hE _ _ _ _ ho hx⟩

theorem Sl.below {α : Type} {n : Nat} {E : El α} (hE : Keeps E) {w w' : World} {v : Value} {l : List α} {B : Nat} (h : Sl n E w v l) (hb : Below B w w') (hB : w.heap.size ≤ B) : Sl n E w' v l :=
  h.old hE (Old.of_below hb hB)

theorem Sl.nil {α : Type} (n : Nat) (E : El α) (w : World) : Sl n E w (.slice none 0 0) [] := ⟨none, 0, rfl, by simp, by unfold maxLen; omega, fun _ => rfl, by simp⟩

/-- one cell that is an integer -/
def EInt (k : IntKind) : El Int := fun _ cs x => cs = [.int k x] ∧ (Lit.int k x).wf = true
def EBool : El Bool := fun _ cs x => cs = [.bool x]
def EStr : El ByteArray := fun _ cs x => cs = [.string x] ∧ x.size ≤ maxLen
/-- one cell that is a slice -/
def ESl {α : Type} (n : Nat) (E : El α) : El (List α) := fun w cs l => ∃ v, cs = [v] ∧ Sl n E w v l

theorem keeps_int (k : IntKind) : Keeps (EInt k) := fun _ _ _ _ _ h => h
theorem keeps_bool : Keeps EBool := fun _ _ _ _ _ h => h
theorem keeps_str : Keeps EStr := fun _ _ _ _ _ h => h
theorem keeps_sl {α : Type} {n : Nat} {E : El α} (hE : Keeps E) : Keeps (ESl n E) := fun _ _ _ _ ho h => let ⟨v, hv, hs⟩ := h; ⟨v, hv, hs.old hE ho⟩

/-- what a row tells of such a type is such a reading -/
def Opens (P : Program) (t : TypeId) {α : Type} (E : El α) : Prop :=
  ∀ (H : Type) (enc : TypeId × Value → H) (w : World) (base : Nat) (spare : Nat → Bool) (held : Bool) (fuel : Nat) (cs : List Value) (x : DataW H × List MemPlace), DataW.trod enc P w base spare held fuel t cs = some x → ∃ y, E w cs y

theorem opens_int {P : Program} {t : TypeId} {k : IntKind} (ht : P.underlying t = some (.int k)) : Opens P t (EInt k) := by
  intro H enc w base spare held fuel cs x h
  obtain ⟨n, hn, _, hw⟩ := DataW.trod_int ht h
  exact ⟨n, hn, hw⟩
theorem opens_bool {P : Program} {t : TypeId} (ht : P.underlying t = some .bool) : Opens P t EBool := by
  intro H enc w base spare held fuel cs x h
  obtain ⟨n, hn, _⟩ := DataW.trod_bool ht h
  exact ⟨n, hn⟩
theorem opens_str {P : Program} {t : TypeId} (ht : P.underlying t = some .string) : Opens P t EStr := by
  intro H enc w base spare held fuel cs x h
  obtain ⟨n, hn, _, hw⟩ := DataW.trod_string ht h
  exact ⟨n, hn, hw⟩

theorem opens_slice {P : Program} {t e : TypeId} {α : Type} [Inhabited α] {n : Nat} {E : El α} (ht : P.underlying t = some (.slice e)) (hn : P.cellsOf e = n) (hpos : 0 < n) (hE : Opens P e E) : Opens P t (ESl n E) := by
  intro H enc w base spare held fuel cs x h
  subst hn
  rcases open_slice ht h with ⟨rfl, _⟩ | ⟨a, len, cap, m, f, D, Pl, rfl, _, hl, hm, hmm, _, hi⟩
  · exact ⟨[], _, rfl, Sl.nil _ _ _⟩
  · have hlm : len ≤ m := by rw [hmm]; split <;> omega
    have hex : ∀ i, i < len → ∃ y : α, ∃ cs', w.cells? base (a.add (i * P.cellsOf e)) (P.cellsOf e) = some cs' ∧ E w cs' y := by
      intro i hil
      obtain ⟨cs', hc, ht'⟩ := hi i (by omega)
      obtain ⟨y, hy⟩ := hE _ _ _ _ _ _ _ _ _ ht'
      exact ⟨y, cs', hc, hy⟩
    obtain ⟨F, hF⟩ := choose_lt hex
    refine ⟨(List.range len).map F, _, rfl, some a, cap, by simp, by simpa using hl, hm, by simp, ?_⟩
    intro j y hj
    simp only [List.getElem?_map, Option.map_eq_some_iff] at hj
    obtain ⟨i, hi', rfl⟩ := hj
    have hil : i < len ∧ i = j := by
      obtain ⟨h1, h2⟩ := List.getElem?_eq_some_iff.1 hi'
      simp at h1 h2
      omega
    obtain ⟨hil, rfl⟩ := hil
    obtain ⟨cs', hc, hy⟩ := hF i hil
    obtain ⟨_, hcl, hat⟩ := World.cells?_some hc
    obtain ⟨b, off, spot⟩ := a
    have hspot : spot = none := by
      obtain ⟨cs0, hc0, _⟩ := hF 0 (by omega)
      obtain ⟨_, hcl0, hat0⟩ := World.cells?_some hc0
      have h1 := hat0 0 hpos
      have h2 : cs0[0]? = some (cs0[0]'(by omega)) := List.getElem?_eq_getElem (by omega)
      rw [h2] at h1
      simpa [Addr.add] using World.cell?_spot h1
    subst hspot
    refine ⟨b, off, cs', rfl, hcl, ?_, hy⟩
    intro q u hu
    have hq : q < P.cellsOf e := by
      have := (List.getElem?_eq_some_iff.1 hu).1
      omega
    have h1 := hat q hq
    rw [hu, Addr.add_lit, Addr.add_lit] at h1
    exact h1

/-- a struct of five cells, each field of one -/
theorem trod5 {P : Program} {H : Type} {enc : TypeId × Value → H} {w : World} {base : Nat} {spare : Nat → Bool} {held : Bool} {fuel : Nat} {t : TypeId} {cs : List Value} {x : DataW H × List MemPlace} {f0 f1 f2 f3 f4 : Field}
    (ht : P.underlying t = some (.struct #[f0, f1, f2, f3, f4])) (hone : oneCellFields P #[f0, f1, f2, f3, f4] = true) (hC : P.cellsOf t = 5) (h : DataW.trod enc P w base spare held fuel t cs = some x) :
    ∃ (c0 c1 c2 c3 c4 : Value) (n : Nat) (y0 y1 y2 y3 y4 : DataW H × List MemPlace), cs = [c0, c1, c2, c3, c4] ∧ DataW.trod enc P w base spare held n f0.type [c0] = some y0 ∧ DataW.trod enc P w base spare held n f1.type [c1] = some y1 ∧
      DataW.trod enc P w base spare held n f2.type [c2] = some y2 ∧ DataW.trod enc P w base spare held n f3.type [c3] = some y3 ∧ DataW.trod enc P w base spare held n f4.type [c4] = some y4 := by
  obtain ⟨xs, n, _, _, hlen, hxl, hg⟩ := DataW.trod_struct ht h
  rw [hC] at hlen
  match cs, hlen with
  | [c0, c1, c2, c3, c4], _ =>
    obtain ⟨o0, k0⟩ := hone_of hone 0 f0 rfl
    obtain ⟨o1, k1⟩ := hone_of hone 1 f1 rfl
    obtain ⟨o2, k2⟩ := hone_of hone 2 f2 rfl
    obtain ⟨o3, k3⟩ := hone_of hone 3 f3 rfl
    obtain ⟨o4, k4⟩ := hone_of hone 4 f4 rfl
    match xs, hxl with
    | [y0, y1, y2, y3, y4], _ =>
      exact ⟨c0, c1, c2, c3, c4, n, y0, y1, y2, y3, y4, rfl, by simpa [o0, k0] using hg 0 f0 rfl, by simpa [o1, k1] using hg 1 f1 rfl, by simpa [o2, k2] using hg 2 f2 rfl, by simpa [o3, k3] using hg 3 f3 rfl, by simpa [o4, k4] using hg 4 f4 rfl⟩

end Go.Proofs.Ytlnofmgelkohoaa
