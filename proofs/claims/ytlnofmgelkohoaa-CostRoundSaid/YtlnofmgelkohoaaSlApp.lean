/- Slices of any elements appended to a row of the call's own. Condition: an element's cells are each one cell's worth (One), and fewer than 2^20 elements in all. -/
import Derived.Test.YtlnofmgelkohoaaSl
import Derived.Laws.AppendOwnNone
namespace Go.Proofs.Ytlnofmgelkohoaa
open Go.RowKit Go.ChangeShapes Go.WideShapes Go.Deep
set_option linter.unusedVariables false

/-- each of an element's cells is one cell's worth -/
def One {α : Type} (E : El α) : Prop := ∀ w cs x, E w cs x → ∀ u ∈ cs, u.oneCell' = true

/-- the slice value v owns a row that reads as l; what the elements point to is older -/
def Own {α : Type} (n : Nat) (E : El α) (e : TypeId) (w0 : World) (B : Nat) (w : World) (v : Value) (l : List α) : Prop :=
  ∃ flat, w.ownsRow B e n v l.length flat ∧ ∀ j x, l[j]? = some x → E w0 ((flat.drop (j * n)).take n) x

theorem Own.nil {α : Type} (n : Nat) (E : El α) (e : TypeId) (w0 : World) (B : Nat) (w : World) : Own n E e w0 B w (.slice none 0 0) ([] : List α) :=
  ⟨[], World.ownsRow_nil w B e n, by simp⟩

theorem Own.made {α : Type} (n : Nat) (E : El α) (e : TypeId) (w0 : World) (B : Nat) (w : World) (hB : B ≤ w.heap.size) : Own n E e w0 B (w.alloc (.cells #[] e)) (.slice (some ⟨w.heap.size, 0, none⟩) 0 0) ([] : List α) :=
  ⟨[], by simpa using World.ownsRow_made (base := B) (e := e) (size := n) w #[] 0 hB (by unfold maxLen; omega) (by simp), by simp⟩

theorem flat_at {n : Nat} (F : Nat → List Value) (k : Nat) (hF : ∀ j, j < k → (F j).length = n) (j : Nat) (hj : j < k) :
    ((((List.range (k * n)).map (fun q => (F (q / n)).getD (q % n) undef)).drop (j * n)).take n) = F j := by
  have hl := hF j hj
  apply List.ext_getElem?
  intro i
  by_cases hi : i < n
  · have hlt : j * n + i < k * n := by
      have : (j + 1) * n ≤ k * n := Nat.mul_le_mul_right n hj
      rw [Nat.add_mul, Nat.one_mul] at this; omega
    rw [List.getElem?_take, if_pos hi, List.getElem?_drop, List.getElem?_map, List.getElem?_range hlt]
    have e1 : (j * n + i) / n = j := by rw [Nat.mul_comm, Nat.mul_add_div (by omega), Nat.div_eq_of_lt hi]; omega
    have e2 : (j * n + i) % n = i := by rw [Nat.mul_comm, Nat.mul_add_mod, Nat.mod_eq_of_lt hi]
    simp only [Option.map_some, e1, e2]
    rw [List.getElem?_eq_getElem (by omega), List.getD_eq_getElem?_getD, List.getElem?_eq_getElem (by omega)]
    rfl
  · rw [List.getElem?_eq_none (by simp; omega), List.getElem?_eq_none (by omega)]

/-- a slice's cells, one behind the other -/
theorem Sl.flat {α : Type} [Inhabited α] {n : Nat} {E : El α} {w : World} {ad : Addr} {len cap : Nat} {l : List α} (h : Sl n E w (.slice (some ad) len cap) l) :
    len = l.length ∧ ∃ flat : List Value, flat.length = l.length * n ∧ (∀ q u, flat[q]? = some u → w.cell? (ad.add q) = some u) ∧ ∀ j x, l[j]? = some x → E w ((flat.drop (j * n)).take n) x := by
  obtain ⟨a, c, hv, h1, h2, h3, h4⟩ := h
  injection hv with hv1 hv2 hv3
  subst hv1
  refine ⟨hv2, ?_⟩
  have hex : ∀ j, j < l.length → ∃ cs : List Value, cs.length = n ∧ (∀ i u, cs[i]? = some u → w.cell? (ad.add (j * n + i)) = some u) ∧ E w cs (l.getD j default) := by
    intro j hj
    have hx : l[j]? = some l[j] := List.getElem?_eq_getElem hj
    obtain ⟨b, off, cs, ha, hl, hc, hE⟩ := h4 j _ hx
    obtain rfl := Option.some.inj ha
    refine ⟨cs, hl, fun i u hu => ?_, by rw [List.getD_eq_getElem?_getD, hx]; exact hE⟩
    rw [Addr.add_lit, ← Nat.add_assoc]; exact hc i u hu
  obtain ⟨F, hF⟩ := choose_lt hex
  refine ⟨(List.range (l.length * n)).map (fun q => (F (q / n)).getD (q % n) undef), by simp, ?_, ?_⟩
  · intro q u hq
    simp only [List.getElem?_map, Option.map_eq_some_iff] at hq
    obtain ⟨p, hp, rfl⟩ := hq
    obtain ⟨hp1, hp2⟩ := List.getElem?_eq_some_iff.1 hp
    simp at hp1 hp2
    subst hp2
    have hn : 0 < n := by
      rcases Nat.eq_zero_or_pos n with h | h
      · subst h; omega
      · exact h
    have hd : q / n < l.length := (Nat.div_lt_iff_lt_mul hn).2 hp1
    have hm := Nat.mod_lt q hn
    obtain ⟨hl, hc, _⟩ := hF (q / n) hd
    have := hc (q % n) ((F (q / n)).getD (q % n) undef) (by rw [List.getD_eq_getElem?_getD, List.getElem?_eq_getElem (by omega)]; rfl)
    rwa [Nat.mul_comm, Nat.div_add_mod] at this
  · intro j x hj
    have hlt := (List.getElem?_eq_some_iff.1 hj).1
    rw [flat_at F l.length (fun j h => (hF j h).1) j hlt]
    have := (hF j hlt).2.2
    rwa [List.getD_eq_getElem?_getD, hj] at this

/-- append of all of a slice to such a row -/
theorem appSl {P : Program} {α : Type} [Inhabited α] {n : Nat} {E : El α} (hk : Keeps E) (h1 : One E) {w : World} {ops : Array Oper} {rest : List Oper} {o : Oper} {a : Act} {Q : Exit → Act → World → Prop} (hgd : o.guard = none) (s x : Operand) (t e : TypeId)
    (ho : o.op = .call { callee := .builtin .append, args := #[s, x], argTypes := #[t, t] }) (ht : P.underlying t = some (.slice e)) (z : Value) (bytes : Nat) (hi : (P.info? e).map (fun i => (i.zero, i.size, i.bytes)) = some (some z, n, bytes)) (hz : z.cells.size = n) (hn : 0 < n) (hby : bytes ≤ 64)
    (w0 : World) (B : Nat) (v u : Value) (l m : List α) (hs : a.eval s = v) (hx : a.eval x = u) (hl : Own n E e w0 B w v l) (hm : Sl n E w0 u m) (ho0 : Old w0 w) (hB : w0.heap.size ≤ B) (hBw : B ≤ w.heap.size) (hlm : l.length + m.length ≤ 1048576)
    (h : ∀ v' w', Own n E e w0 B w' v' (l ++ m) → w.grownBy w' v.ownBlock → wpList P ops Q rest (a.put o.dst v') w') : wpList P ops Q (o :: rest) a w := by
  obtain ⟨i, hi', hz0, hz1, hz2⟩ : ∃ i, P.info? e = some i ∧ i.zero = some z ∧ i.size = n ∧ i.bytes = bytes := by
    cases hq : P.info? e with
    | none => simp [hq] at hi
    | some i => simp [hq] at hi; exact ⟨i, rfl, hi⟩
  obtain ⟨flat, hown, hel⟩ := hl
  have hm0 := hm
  obtain ⟨ad, cap, rfl, hc1, hc2, hc3, hc4⟩ := hm
  rcases ad with _ | ad
  · have h2 : m = [] := List.eq_nil_of_length_eq_zero (by have := hc3 rfl; omega)
    subst h2
    have h3 : cap = 0 := hc3 rfl
    subst h3
    exact wpList_append_own_none hgd s x t ho B e i n ht hi' v l.length flat hs hown hx (h v w (by simpa using ⟨flat, hown, hel⟩) (World.grownBy.refl _ _))
  · obtain ⟨_, fm, hfl, hfc, hfe⟩ := hm0.flat
    have hlen := hown.1
    refine wpList_append_own w hgd s x t ho B e i z n bytes ht hi' hz0 hz1 hz2 hz hn v l.length flat hs hown ad m.length cap fm hx hfl (fun j q hj => ho0.cell (hfc j q hj)) ?_ (by unfold maxLen; omega) ?_ hBw ?_
    · intro q hq
      obtain ⟨k, hk1, hk2⟩ := List.getElem_of_mem hq
      have hd : k / n < m.length := (Nat.div_lt_iff_lt_mul hn).2 (by omega)
      refine h1 w0 _ _ (hfe (k / n) _ (List.getElem?_eq_getElem hd)) q ?_
      rw [List.mem_iff_getElem?]
      refine ⟨k % n, ?_⟩
      rw [List.getElem?_take, if_pos (Nat.mod_lt _ hn), List.getElem?_drop, Nat.mul_comm, Nat.div_add_mod, List.getElem?_eq_getElem hk1, hk2]
    · calc (l.length + m.length) * bytes ≤ 1048576 * 64 := Nat.mul_le_mul hlm hby
        _ ≤ _ := by decide
    · intro v' w' h2 h3 _
      refine h v' w' ⟨flat ++ fm, by simpa using h2, ?_⟩ h3
      intro j x hj
      by_cases hjl : j < l.length
      · rw [List.getElem?_append_left hjl] at hj
        have hle : j * n + n ≤ flat.length := by
          rw [hlen]
          have : (j + 1) * n ≤ l.length * n := Nat.mul_le_mul_right n hjl
          rw [Nat.add_mul, Nat.one_mul] at this; exact this
        rw [List.drop_append_of_le_length (by omega), List.take_append_of_le_length (by simp; omega)]
        exact hel j x hj
      · rw [List.getElem?_append_right (by omega)] at hj
        have hge : j * n = flat.length + (j - l.length) * n := by
          rw [hlen, ← Nat.add_mul]; congr 1; omega
        rw [hge, List.drop_append]
        simp only [Nat.le_add_right, List.drop_eq_nil_of_le, List.nil_append, Nat.add_sub_cancel_left]
        exact hfe _ x hj

/-- such a row reads as a slice -/
theorem Own.sl {α : Type} {n : Nat} {E : El α} {e : TypeId} {w0 : World} {B : Nat} {w : World} {v : Value} {l : List α} (hk : Keeps E) (h : Own n E e w0 B w v l) (ho : Old w0 w) (hn : 0 < n) : Sl n E w v l := by
  obtain ⟨flat, hown, hel⟩ := h
  have hlen := hown.1
  have hown' := hown
  rcases hown.2 with ⟨hv, h0⟩ | ⟨g, cap, cur, hv, hB, hg, h1, h2, h3, h4⟩
  · have : l = [] := List.eq_nil_of_length_eq_zero h0
    subst this
    rw [hv]; exact Sl.nil _ _ _
  · subst hv
    refine ⟨some ⟨g, 0, none⟩, cap, rfl, h1, h2, by simp, fun j x hj => ?_⟩
    have hjl := (List.getElem?_eq_some_iff.1 hj).1
    have hle : j * n + n ≤ l.length * n := by
      have : (j + 1) * n ≤ l.length * n := Nat.mul_le_mul_right n hjl
      rw [Nat.add_mul, Nat.one_mul] at this; exact this
    refine ⟨g, 0, (flat.drop (j * n)).take n, rfl, by simp; omega, fun i u hu => ?_, hk _ _ _ _ ho (hel j x hj)⟩
    rw [List.getElem?_take] at hu
    split at hu
    · rw [List.getElem?_drop] at hu
      rw [Nat.zero_add, hown'.cellAt (j * n + i) (by omega)]; exact hu
    · cases hu

theorem Own.below {α : Type} {n : Nat} {E : El α} {e : TypeId} {w0 : World} {B : Nat} {w w' : World} {v : Value} {l : List α} (h : Own n E e w0 B w v l) (hb : Below w.heap.size w w') : Own n E e w0 B w' v l := by
  obtain ⟨flat, hown, hel⟩ := h
  refine ⟨flat, ⟨hown.1, ?_⟩, hel⟩
  rcases hown.2 with h0 | ⟨g, cap, cur, hv, hB, hg, h1⟩
  · exact .inl h0
  · exact .inr ⟨g, cap, cur, hv, hB, by rw [hb.block g (Array.getElem?_eq_some_iff.1 hg).1]; exact hg, h1⟩

theorem Own.grown {α : Type} {n : Nat} {E : El α} {e : TypeId} {w0 : World} {B : Nat} {W w w' : World} {v : Value} {l : List α} (h : Own n E e w0 B w v l) (hb : Below B W w) (hg : w.grownBy w' v.ownBlock) (hB : B ≤ w.heap.size) : Below B W w' := by
  obtain ⟨flat, hown, _⟩ := h
  exact hb.grown hg hB fun k hk => (hown.lt k hk).1

end Go.Proofs.Ytlnofmgelkohoaa
