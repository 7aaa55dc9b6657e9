/- From what a row tells of its arguments to readings of memory, with the bulk of what is read. No condition. -/
import Derived.Test.YtnjodpgahbpiaaaKOpen
import Derived.JoinedCond
namespace Go.Proofs.Ytnjodpgahbpiaaa
open Go Go.RowKit Go.ChangeShapes Go.WideShapes Go.Deep
set_option linter.unusedVariables false
set_option linter.unusedSimpArgs false
theorem bulk_one {H : Type} (d : DataW H) : 1 ≤ Rows.uptoBulk d := by
  cases d with
  | lit l => cases l <;> simp [Rows.uptoBulk]
  | _ => simp [Rows.uptoBulk]
theorem bulk_part {H : Type} {d : DataW H} : ∀ {l : List (DataW H)}, d ∈ l → Rows.uptoBulk d ≤ Rows.uptoBulkAll l
  | x :: r, h => by
    simp only [Rows.uptoBulkAll]
    rcases List.mem_cons.1 h with rfl | h
    · omega
    · have := bulk_part h; omega
def OpensU (P : Program) (t : TypeId) {α : Type} (E : El α) (β : α → Nat) : Prop :=
  ∀ (H : Type) (enc : TypeId × Value → H) (w : World) (base : Nat) (spare : Nat → Bool) (held : Bool) (fuel : Nat) (cs : List Value) (x : DataW H × List MemPlace), DataW.trod enc P w base spare held fuel t cs = some x → ∃ y, E w.heap cs y ∧ β y ≤ Rows.uptoBulk x.1
theorem Opens.u {P : Program} {t : TypeId} {α : Type} {E : El α} (h : Opens P t E) : OpensU P t E (fun _ => 1) := fun H enc w base spare held fuel cs x hx => by
  obtain ⟨y, hy⟩ := h H enc w base spare held fuel cs x hx
  exact ⟨y, hy, bulk_one _⟩
theorem bulk_sum {H : Type} {α : Type} {β : α → Nat} {F : Nat → α} {D : Nat → DataW H} : ∀ (L : List Nat), (∀ i ∈ L, β (F i) ≤ Rows.uptoBulk (D i)) → ((L.map F).map β).sum ≤ Rows.uptoBulkAll (L.map D)
  | [], _ => by simp
  | i :: L, h => by
    have h1 := h i (by simp)
    have h2 := bulk_sum L (fun j hj => h j (by simp [hj]))
    simp only [List.map_cons, List.sum_cons, Rows.uptoBulkAll]
    omega
theorem opensU_slice {P : Program} {t e : TypeId} {α : Type} [Inhabited α] {n : Nat} {E : El α} {β : α → Nat} (ht : P.underlying t = some (.slice e)) (hn : P.cellsOf e = n) (hpos : 0 < n) (hE : OpensU P e E β) : OpensU P t (ESl n E) (fun l => (l.map β).sum + 1) := by
  intro H enc w base spare held fuel cs x h
  subst hn
  rcases open_slice ht h with ⟨rfl, _⟩ | ⟨a, len, cap, m, f, D, Pl, rfl, _, hl, hm, hmm, rfl, hi⟩
  · exact ⟨[], ⟨_, rfl, Sl.nil _ _ _⟩, by simpa using bulk_one x.1⟩
  · have hlm : len ≤ m := by rw [hmm]; split <;> omega
    have hex : ∀ i, i < len → ∃ y : α, (∃ cs', w.cells? base (a.add (i * P.cellsOf e)) (P.cellsOf e) = some cs' ∧ E w.heap cs' y) ∧ β y ≤ Rows.uptoBulk (D i) := by
      intro i hil
      obtain ⟨cs', hc, ht'⟩ := hi i (by omega)
      obtain ⟨y, hy, hb⟩ := hE _ _ _ _ _ _ _ _ _ ht'
      exact ⟨y, ⟨cs', hc, hy⟩, hb⟩
    obtain ⟨F, hF0⟩ := choose_lt hex
    have hF := fun i hi => (hF0 i hi).1
    have hsum : (((List.range len).map F).map β).sum + 1 ≤ Rows.uptoBulk (DataW.slice ((List.range len).map D) ((List.range (m - len)).map fun i => D (len + i))) := by
      have := bulk_sum (β := β) (F := F) (D := D) (List.range len) (fun i hi => (hF0 i (List.mem_range.1 hi)).2)
      simp only [Rows.uptoBulk]
      omega
    by_cases h0 : len = 0
    · subst h0
      exact ⟨[], ⟨_, rfl, some a, cap, rfl, by simp, hm, by simp, fun h => absurd h (by simp), by simp [nth]⟩, by simpa using hsum⟩
    · have hsp : a.spot = none := by
        obtain ⟨cs0, hc0, _⟩ := hF 0 (by omega)
        obtain ⟨_, hcl0, hat0⟩ := World.cells?_some hc0
        have h1 := hat0 0 hpos
        have h2 : cs0[0]? = some (cs0[0]'(by omega)) := List.getElem?_eq_getElem (by omega)
        rw [h2] at h1
        have := World.cell?_spot h1
        simpa [Addr.add] using this
      refine ⟨(List.range len).map F, ⟨_, rfl, some a, cap, by simp, by simpa using hl, hm, by simp, fun _ p hp => by cases hp; exact hsp, ?_⟩, by simpa using hsum⟩
      intro j y hj
      rw [nth_eq] at hj
      simp only [List.getElem?_map, Option.map_eq_some_iff] at hj
      obtain ⟨i, hi', rfl⟩ := hj
      have hil : i < len ∧ i = j := by
        obtain ⟨h1, h2⟩ := List.getElem?_eq_some_iff.1 hi'
        simp at h1 h2
        omega
      obtain ⟨hil, rfl⟩ := hil
      obtain ⟨cs', hc, hy⟩ := hF i hil
      obtain ⟨_, hcl, hat⟩ := World.cells?_some hc
      refine ⟨cs', hcl, ?_, hy⟩
      intro q u hu
      rw [nth_eq] at hu
      have hq : q < P.cellsOf e := by
        have := (List.getElem?_eq_some_iff.1 hu).1
        omega
      have h1 := hat q hq
      rw [hu] at h1
      exact h1
theorem trod_onesU {P : Program} {H : Type} {enc : TypeId × Value → H} {w : World} {base : Nat} {spare : Nat → Bool} {held : Bool} {fuel : Nat} {t : TypeId} {cs : List Value} {x : DataW H × List MemPlace} {fields : Array Field} {m : Nat}
    (ht : P.underlying t = some (.struct fields)) (hone : oneCellFields P fields = true) (hC : P.cellsOf t = m) (h : DataW.trod enc P w base spare held fuel t cs = some x) :
    cs.length = m ∧ ∃ n parts, x.1 = .agg parts ∧ ∀ i f, fields[i]? = some f → i < m → ∃ c y, cs[i]? = some c ∧ DataW.trod enc P w base spare held n f.type [c] = some y ∧ y.1 ∈ parts := by
  obtain ⟨xs, n, _, hxe, hlen, hxl, hg⟩ := DataW.trod_struct ht h
  rw [hC] at hlen
  refine ⟨hlen, n, xs.map (·.1), by rw [hxe], fun i f hf him => ?_⟩
  obtain ⟨o0, k0⟩ := hone_of hone i f hf
  obtain ⟨hlt, hfe⟩ := Array.getElem?_eq_some_iff.1 hf
  have hcs : cs[i]? = some (cs[i]'(by omega)) := List.getElem?_eq_getElem (by omega)
  have hx : xs[i]? = some (xs[i]'(by rw [hxl]; exact hlt)) := List.getElem?_eq_getElem _
  have := hg i f hf
  rw [o0, k0, hx] at this
  refine ⟨_, xs[i]'(by rw [hxl]; exact hlt), hcs, ?_, List.mem_map.2 ⟨_, List.getElem_mem _, rfl⟩⟩
  have e1 : (cs.drop i).take 1 = [cs[i]'(by omega)] := by rw [List.drop_eq_getElem_cons (by omega)]; rfl
  rw [e1] at this
  exact this
end Go.Proofs.Ytnjodpgahbpiaaa
