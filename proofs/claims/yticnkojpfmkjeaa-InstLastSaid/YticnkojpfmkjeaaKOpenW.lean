/- From what a row tells of its arguments to readings of memory, with the bound on sizes that a tied card gives. No condition. -/
import Derived.Test.YticnkojpfmkjeaaKOpen
import Derived.ChangeSame
namespace Go.Proofs.Yticnkojpfmkjeaa
open Go Go.RowKit Go.ChangeShapes Go.WideShapes Go.Deep
set_option linter.unusedVariables false
set_option linter.unusedSimpArgs false
def OpensW (P : Program) (t : TypeId) {α : Type} (E : El α) : Prop :=
  ∀ (H : Type) (enc : TypeId × Value → H) (w : World) (base : Nat) (spare : Nat → Bool) (held : Bool) (fuel : Nat) (cs : List Value) (x : DataW H × List MemPlace), DataW.trod enc P w base spare held fuel t cs = some x → (∀ n ∈ x.1.weights P t, n ≤ 140737488351232) → ∃ y, E w.heap cs y
theorem Opens.w {P : Program} {t : TypeId} {α : Type} {E : El α} (h : Opens P t E) : OpensW P t E := fun H enc w base spare held fuel cs x hx _ => h H enc w base spare held fuel cs x hx
theorem weightsAll_mem {H : Type} {P : Program} {e : TypeId} : ∀ {l : List (DataW H)} {d : DataW H} {n : Nat}, d ∈ l → n ∈ d.weights P e → n ∈ DataW.weightsAll P e l
  | d' :: l, d, n, hd, hn => by
    simp only [DataW.weightsAll, List.mem_append]
    rcases List.mem_cons.1 hd with rfl | hd
    · exact .inl hn
    · exact .inr (weightsAll_mem hd hn)
/-- a slice whose elements read so, and whose bytes are bounded -/
def ESlB {α : Type} (b n : Nat) (E : El α) : El (List α) := fun H cs l => ∃ v, cs = [v] ∧ Sl n E H v l ∧ l.length * b ≤ 140737488351232
theorem opensW_slice {P : Program} {t e : TypeId} {α : Type} [Inhabited α] {n b : Nat} {E : El α} (ht : P.underlying t = some (.slice e)) (hn : P.cellsOf e = n) (hb : P.bytesOf e = b) (hpos : 0 < n) (hE : OpensW P e E) : OpensW P t (ESlB b n E) := by
  intro H enc w base spare held fuel cs x h hwt
  subst hn
  subst hb
  rcases open_slice ht h with ⟨rfl, _⟩ | ⟨a, len, cap, m, f, D, Pl, rfl, _, hl, hm, hmm, rfl, hi⟩
  · exact ⟨[], _, rfl, Sl.nil _ _ _, by simp⟩
  · have hlm : len ≤ m := by rw [hmm]; split <;> omega
    have hlb : len * P.bytesOf e ≤ 140737488351232 := by
      have h9 := hwt ((len + (m - len)) * P.bytesOf e) (by simp [DataW.weights, ht])
      exact Nat.le_trans (Nat.mul_le_mul_right _ (by omega)) h9
    have hdi : ∀ i, i < len → ∀ q ∈ (D i).weights P e, q ≤ 140737488351232 := by
      intro i hil q hq
      refine hwt q ?_
      simp only [DataW.weights, ht, List.mem_cons, List.mem_append]
      exact .inr (.inl (weightsAll_mem (List.mem_map.2 ⟨i, List.mem_range.2 hil, rfl⟩) hq))
    have hex : ∀ i, i < len → ∃ y : α, ∃ cs', w.cells? base (a.add (i * P.cellsOf e)) (P.cellsOf e) = some cs' ∧ E w.heap cs' y := by
      intro i hil
      obtain ⟨cs', hc, ht'⟩ := hi i (by omega)
      obtain ⟨y, hy⟩ := hE _ _ _ _ _ _ _ _ _ ht' (hdi i hil)
      exact ⟨y, cs', hc, hy⟩
    obtain ⟨F, hF⟩ := choose_lt hex
    by_cases h0 : len = 0
    · subst h0
      exact ⟨[], _, rfl, ⟨some a, cap, rfl, by simp, hm, by simp, fun h => absurd h (by simp), by simp [nth]⟩, by simp⟩
    · have hsp : a.spot = none := by
        obtain ⟨cs0, hc0, _⟩ := hF 0 (by omega)
        obtain ⟨_, hcl0, hat0⟩ := World.cells?_some hc0
        have h1 := hat0 0 hpos
        have h2 : cs0[0]? = some (cs0[0]'(by omega)) := List.getElem?_eq_getElem (by omega)
        rw [h2] at h1
        have := World.cell?_spot h1
        simpa [Addr.add] using this
      refine ⟨(List.range len).map F, _, rfl, ⟨some a, cap, by simp, by simpa using hl, hm, by simp, fun _ p hp => by cases hp; exact hsp, ?_⟩, by simpa using hlb⟩
      intro j y hj
      rw [nth_eq] at hj
      simp only [List.getElem?_map, Option.map_eq_some_iff] at hj
      obtain ⟨i, hi', rfl⟩ := hj
      have hil : i < len ∧ i = j := by
        obtain ⟨h1, h2⟩ := List.getElem?_eq_some_iff.1 hi'
        simp at h1 h2
        omega
      obtain ⟨hil, rfl⟩ := hil
      obtain ⟨cs', hc, hy⟩ := hF i hil
      obtain ⟨_, hcl, hat⟩ := World.cells?_some hc
      refine ⟨cs', hcl, ?_, hy⟩
      intro q u hu
      rw [nth_eq] at hu
      have hq : q < P.cellsOf e := by
        have := (List.getElem?_eq_some_iff.1 hu).1
        omega
      have h1 := hat q hq
      rw [hu] at h1
      exact h1
theorem weightsEach2 {H : Type} {P : Program} {t : TypeId} {f0 f1 : Field} {d0 d1 : DataW H} (ht : P.underlying t = some (.struct #[f0, f1])) {n : Nat} (h : n ∈ d0.weights P f0.type ∨ n ∈ d1.weights P f1.type) : n ∈ (DataW.agg [d0, d1]).weights P t := by
  simp only [DataW.weights, ht, DataW.weightsEach, List.map, List.append_nil, List.mem_append]
  exact h
end Go.Proofs.Yticnkojpfmkjeaa
