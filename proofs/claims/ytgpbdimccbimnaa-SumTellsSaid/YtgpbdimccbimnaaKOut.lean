/- The logic of walks: a slice that is full (its length is its capacity) or a row of the call's own; what is appended to it. No condition but those that each law states. -/
import Derived.Test.YtgpbdimccbimnaaKRow
import Derived.Test.YtgpbdimccbimnaaKStr
import Derived.ArgAppend
namespace Go.Proofs.Ytgpbdimccbimnaa
open Go Go.RowKit Go.ChangeShapes Go.WideShapes Go.Deep
set_option linter.unusedVariables false
set_option linter.unusedSimpArgs false
theorem Sl.keepB {k : IntKind} {H H' : Heap} {v : Value} {l : List Int} (h : Sl 1 (EInt k) H v l) (hk : l = [] ∨ H'[vblock v]? = H[vblock v]?) : Sl 1 (EInt k) H' v l := by
  rcases hk with rfl | hk
  · exact h.empty H'
  · obtain ⟨a, cap, h1, h2, h3, h4, h5, h6⟩ := h
    refine ⟨a, cap, h1, h2, h3, h4, h5, fun j x hj => ?_⟩
    obtain ⟨cs, e1, e2, e3⟩ := h6 j x hj
    refine ⟨cs, e1, fun i u hu => ?_, e3⟩
    have := e2 i u hu
    have hb : (((vbase v).add (j * 1)).add i).block = vblock v := by simp [vblock, Addr.add]; split <;> split <;> rfl
    unfold cellH at this ⊢
    rw [hb] at this ⊢
    rw [hk]; exact this
/-- full: no room behind it -/
structure Full (B : Nat) (H : Heap) (v : Value) (l : List Int) : Prop where
  sl : Sl 1 (EInt .u8) H v l
  pos : 0 < l.length
  at_ : ∃ g, v = .slice (some ⟨g, 0, none⟩) l.length l.length ∧ B ≤ g ∧ g < H.size
/-- a row of the call's own, or full -/
def Out (e : TypeId) (B : Nat) (H : Heap) (v : Value) (l : List Int) : Prop := Own 1 (EInt .u8) e #[] B H v l ∨ Full B H v l
section
variable {e : TypeId} {B : Nat} {H H' : Heap} {v : Value} {l : List Int}
theorem Out.sl (h : Out e B H v l) : Sl 1 (EInt .u8) H v l := h.elim (fun h => h.sl (emptyOld _) (by omega)) (fun h => h.sl)
theorem Out.lt (h : Out e B H v l) : v = .slice none 0 0 ∨ (B ≤ vblock v ∧ vblock v < H.size) := h.elim (fun h => h.lt) (fun h => by
  obtain ⟨g, hv, h1, h2⟩ := h.at_
  subst hv; exact .inr ⟨h1, h2⟩)
theorem Out.one (h : Out e B H v l) : v.oneCell' = true := h.sl.one
theorem Out.keep (h : Out e B H v l) (hk : H'[vblock v]? = H[vblock v]?) (hs : H.size ≤ H'.size) : Out e B H' v l := h.elim (fun h => .inl (h.keep hk)) (fun h => .inr (by
  obtain ⟨g, hv, h1, h2⟩ := h.at_
  exact ⟨h.sl.keepB (.inr hk), h.pos, g, hv, h1, by omega⟩))
theorem Out.old (h : Out e B H v l) (o : Old H H') : Out e B H' v l := h.elim (fun h => .inl (h.old o)) (fun h => .inr (by
  obtain ⟨g, hv, h1, h2⟩ := h.at_
  exact ⟨h.sl.old o, h.pos, g, hv, h1, by have := o.1; omega⟩))
theorem Out.upd {g : Nat} (h : Out e B H v l) (u : Upd g H H') (hne : v = .slice none 0 0 ∨ vblock v ≠ g) : Out e B H' v l := h.elim (fun h => .inl (h.upd u hne)) (fun h => .inr (by
  obtain ⟨g', hv, h1, h2⟩ := h.at_
  have hne : vblock v ≠ g := by rcases hne with hn | hn; (subst hn; cases hv); exact hn
  exact ⟨h.sl.keepB (.inr (u.2 _ hne)), h.pos, g', hv, h1, by have := u.1; omega⟩))
end
section
variable {P : Program} {En : Env} {H : Heap} {o : Oper} {v : Value} {e : TypeId} {B : Nat} {l : List Int}
theorem M.appendFullO {T : TypeId} {s x : Operand} {u : Value} {m : List Int} {z : Value} {by' : Nat} (ho : o.op = .call { callee := .builtin .append, args := #[s, x], argTypes := #[T, T] }) (ht : P.underlying T = some (.slice e)) (hi : (P.info? e).map (fun i => (i.zero, i.size, i.bytes)) = some (some z, 1, by')) (hz : z.cells.size = 1)
    (hs : ev En s = some v) (hx : ev En x = some u) (hf : Full B H v l) (hm : Sl 1 (EInt .u8) H u m) (hm0 : 0 < m.length) (hB : B ≤ H.size) (hsz : (l.length + m.length) * by' ≤ 140737488355328) (hlen : l.length + m.length ≤ maxLen) :
    RunM P En H o (fun v' H' => Own 1 (EInt .u8) e #[] B H' v' (l ++ m) ∧ Grown v H H' ∧ Nx H v v' ∧ Old H H') := by
  intro ρ w ha hw
  obtain ⟨i, hi', hz0, hz1, hz2⟩ : ∃ i, P.info? e = some i ∧ i.zero = some z ∧ i.size = 1 ∧ i.bytes = by' := by
    cases hq : P.info? e with
    | none => simp [hq] at hi
    | some i => simp [hq] at hi; exact ⟨i, rfl, hi⟩
  obtain ⟨ad, cap, hu, hsp, hb⟩ := hm.addr hm0
  obtain ⟨fm, hfl, hfc, hfe⟩ := hm.flat hm0
  obtain ⟨fo, hol, hoc, hoe⟩ := hf.sl.flat hf.pos
  obtain ⟨g, hv, hg1, hg2⟩ := hf.at_
  rw [hb] at hfc
  have hvb : vbase v = ⟨g, 0, none⟩ := by rw [hv]; rfl
  rw [hvb] at hoc
  obtain ⟨v', w', hr, h2, h3⟩ := run_append_arg_grows (P := P) w T o.type e i z 1 by' ht hi' hz0 hz1 hz2 hz (by omega) ⟨g, 0, none⟩ l.length l.length fo hol (fun j q hj => by rw [cell_w hw]; exact hoc j q hj) ad m.length cap fm hfl (fun j q hj => by rw [cell_w hw]; exact hfc j q hj) (by omega) hlen hsz
  have hrow : OwnH H.size e 1 w'.heap v' (l ++ m).length (fo ++ fm) := by
    rw [← hw, List.length_append]; exact ownH_w.1 h2
  have hel : ∀ j x, nth (l ++ m) j = some x → EInt .u8 #[] (((fo ++ fm).drop (j * 1)).take 1) x := by
    intro j x hj
    rw [nth_eq] at hj
    by_cases hjl : j < l.length
    · rw [List.getElem?_append_left hjl] at hj
      rw [List.drop_append_of_le_length (by omega), List.take_append_of_le_length (by simp; omega)]
      exact hoe j x (by rw [nth_eq]; exact hj)
    · rw [List.getElem?_append_right (by omega)] at hj
      have hge : j * 1 = fo.length + (j - l.length) * 1 := by omega
      rw [hge, List.drop_append]
      simp only [Nat.le_add_right, List.drop_eq_nil_of_le, List.nil_append, Nat.add_sub_cancel_left]
      exact hfe _ x (by rw [nth_eq]; exact hj)
  have hold : Old H w'.heap := ⟨by rw [← hw]; exact h3.size, fun k hk => by rw [← hw] at hk ⊢; exact h3.block k hk (by simp)⟩
  have hown : Own 1 (EInt .u8) e #[] H.size w'.heap v' (l ++ m) := ⟨fo ++ fm, hrow, hel⟩
  refine ⟨v', w', ?_, ⟨rfl, h3.os, h3.tape, h3.output⟩, hown.weak hB, ⟨hold.1, fun k hk _ => hold.2 k hk⟩, ?_, hold⟩
  · subst hu
    subst hv
    simp [execOp, ho, resolve, invoke, builtin, ha s _ hs, ha x _ hx, Sem.run_bind, Sem.run_pure, Result.andThen]
    simp [hr]
  · rcases hown.lt with h | h
    · exact .inl h
    · exact .inr (.inr h.1)
theorem M.appendFull {T : TypeId} {s x : Operand} {u : Value} {m : List Int} {z : Value} {by' : Nat} (ho : o.op = .call { callee := .builtin .append, args := #[s, x], argTypes := #[T, T] }) (ht : P.underlying T = some (.slice e)) (hi : (P.info? e).map (fun i => (i.zero, i.size, i.bytes)) = some (some z, 1, by')) (hz : z.cells.size = 1)
    (hs : ev En s = some v) (hx : ev En x = some u) (hf : Full B H v l) (hm : Sl 1 (EInt .u8) H u m) (hm0 : 0 < m.length) (hB : B ≤ H.size) (hsz : (l.length + m.length) * by' ≤ 140737488355328) (hlen : l.length + m.length ≤ maxLen) :
    RunM P En H o (fun v' H' => Own 1 (EInt .u8) e #[] B H' v' (l ++ m) ∧ Grown v H H' ∧ Nx H v v') := fun ρ w ha hw => let ⟨v', w', h1, h2, h3, h4, h5, _⟩ := M.appendFullO ho ht hi hz hs hx hf hm hm0 hB hsz hlen ρ w ha hw; ⟨v', w', h1, h2, h3, h4, h5⟩
theorem M.appendOut {T : TypeId} {s x : Operand} {u : Value} {m : List Int} {z : Value} {by' : Nat} (ho : o.op = .call { callee := .builtin .append, args := #[s, x], argTypes := #[T, T] }) (ht : P.underlying T = some (.slice e)) (hi : (P.info? e).map (fun i => (i.zero, i.size, i.bytes)) = some (some z, 1, by')) (hz : z.cells.size = 1)
    (hs : ev En s = some v) (hx : ev En x = some u) (hf : Out e B H v l) (hm : Sl 1 (EInt .u8) H u m) (hm0 : 0 < m.length) (hB : B ≤ H.size) (hsz : (l.length + m.length) * by' ≤ 140737488355328) (hlen : l.length + m.length ≤ maxLen) :
    RunM P En H o (fun v' H' => Own 1 (EInt .u8) e #[] B H' v' (l ++ m) ∧ Grown v H H' ∧ Nx H v v') := by
  rcases hf with hf | hf
  · exact M.appendN ho ht hi hz (by omega) hs hx hf hm (fun _ _ h _ => h) hB hsz hlen
  · exact M.appendFull ho ht hi hz hs hx hf hm hm0 hB hsz hlen
end
end Go.Proofs.Ytgpbdimccbimnaa
