/- A region that draws its order, each of whose operations but reads or makes new memory: a predicate for each value. Condition: each operation waits for earlier ones alone, and writes a slot of its own. -/
import Derived.Test.YtgpbdimccbimnaaKSl
import Derived.Test.YtgpbdimccbimnaaOrders
namespace Go.Proofs.Ytgpbdimccbimnaa
open Go Go.RowKit
set_option linter.unusedVariables false
theorem get_cons {s t : Nat} {x : Value} {E : Env} : get ((s, x) :: E) t = if s = t then some x else get E t := by
  simp only [get]
  by_cases h : s = t
  · subst h; simp
  · have : Nat.beq s t = false := by
      cases hb : Nat.beq s t
      · rfl
      · exact absurd (Nat.eq_of_beq_eq_true hb) h
    rw [this, if_neg h]; rfl
theorem get_cut {ds : List Nat} {E : Env} {t : Nat} {v : Value} (h : get (drop ds E) t = some v) : get E t = some v ∧ t ∉ ds := by
  rw [get_drop] at h
  cases he : ds.elem t with
  | true => rw [he] at h; cases h
  | false => rw [he] at h; exact ⟨h, fun hm => by rw [List.elem_eq_true_of_mem hm] at he; cases he⟩
theorem get_app {A B : Env} {t : Nat} {v : Value} (h : get (A ++ B) t = some v) : (∃ p ∈ A, p.1 = t ∧ p.2 = v) ∨ get B t = some v := by
  induction A with
  | nil => exact .inr h
  | cons p A ih =>
    obtain ⟨s, x⟩ := p
    rw [List.cons_append, get_cons] at h
    by_cases hst : s = t
    · rw [if_pos hst] at h
      injection h with h
      exact .inl ⟨(s, x), List.mem_cons_self .., hst, h⟩
    · rw [if_neg hst] at h
      rcases ih h with ⟨p, hp, h1⟩ | h1
      · exact .inl ⟨p, List.mem_cons_of_mem _ hp, h1⟩
      · exact .inr h1
/-- what an operation's run is to come to -/
def UponK (P : Program) (R : Value → Heap → Prop) (w : World) : Result Next → Prop
  | .ok (.value v) w' => St w w'.heap w' ∧ R v w'.heap
  | .ok (.enter f args) w' => w' = w ∧ Calls P f args w fun e w'' => ∃ v, e = .returned v ∧ St w w''.heap w'' ∧ R v w''.heap
  | _ => False
def D1 (P : Program) (E : Env) (H : Heap) (o : Oper) (R : Value → Heap → Prop) : Prop := ∀ ρ w, Agree E ρ → w.heap = H → UponK P R w ((execOp ρ o).run P w)
theorem D1.op {P : Program} {E : Env} {H : Heap} {o : Oper} {v : Value} {R : Value → Heap → Prop} (h : Run P E H o v) (hR : R v H) : D1 P E H o R := fun ρ w ha hw => by
  rw [h ρ w ha hw]
  exact ⟨St.refl w, by rw [hw]; exact hR⟩
theorem D1.mem {P : Program} {E : Env} {H : Heap} {o : Oper} {R R' : Value → Heap → Prop} (h : RunM P E H o R') (hR : ∀ v H', R' v H' → R v H') : D1 P E H o R := fun ρ w ha hw => by
  obtain ⟨v, w', h1, h2, h3⟩ := h ρ w ha hw
  rw [h1]
  exact ⟨h2, hR _ _ h3⟩
theorem D1.call {P : Program} {E : Env} {H : Heap} {o : Oper} {R R' : Value → Heap → Prop} {f : FuncId} {fo : Operand} {xs : Array Operand} {ts : Array TypeId} {first cap : Array Value} {vs args : List Value} (ho : o.op = .call { callee := .value fo, args := xs, argTypes := ts })
    (hf : ev E fo = some (.func (.func f) first cap)) (has : evs E xs.toList = some vs) (hl : first.toList ++ vs ++ cap.toList = args) (hcall : Enters P f) (hc : Ct P f args H R') (hR : ∀ v H', R' v H' → R v H') : D1 P E H o R := fun ρ w ha hw => by
  rw [run_call ha ho hf has hl hcall]
  exact ⟨rfl, (hc w hw).mono fun e w' ⟨v, h1, h2, h3⟩ => ⟨v, h1, h2, hR _ _ h3⟩⟩
/-- one operation's own -/
def Ob (P : Program) (ops : List Oper) (E : Env) (H : Heap) (o : Oper) (R : Value → Heap → Prop) : Prop :=
  (want ops E o.guard = some true ∧ D1 P E H o R) ∨ (want ops E o.guard = some false ∧ R undef H)
def predEnv (l : List Oper) (is : List Nat) (u : Nat → Value) : Env := is.map fun j => (Ord.dstOf l.toArray j, u j)
theorem KC.vals {P : Program} {n : Nat} {W0 : World} {Q : Exit → Act → World → Prop} {E : Env} {H : Heap} {id : Nat} {l : List Oper} (ds : List Nat) (V : Nat → Value → Heap → Prop) (hm : P.follows .mixedOrders = true) (hlex : Ord.lexOk l.toArray n = true) (hds : (List.range l.length).map (Ord.dstOf l.toArray) = ds)
    (hdo : ∀ i o, l[i]? = some o → ∀ (u : Nat → Value) Hc, Old H Hc → (∀ j ∈ Ord.preds l.toArray i, V j (u j) Hc) → Ob P l (predEnv l (Ord.preds l.toArray i) u ++ drop ds E) Hc o (fun v H' => V i v H' ∧ Old H H' ∧ ∀ j x, V j x Hc → V j x H'))
    (hend : ∀ (u : Nat → Value) Hf, Old H Hf → (∀ i, i < l.length → V i (u i) Hf) → KQ n W0 Q .normal (predEnv l (List.range l.length) u ++ drop ds E) Hf) : KC P n W0 Q (.region id l.toArray true) E H := by
  intro a w ha hw
  have hrep : ∀ (a' : Act) (is : List Nat), (∀ i ∈ is, i < l.length) → a'.defers = a.defers → a'.tmps.size = a.tmps.size → (∀ t, (∀ j, j < l.toArray.size → Ord.dstOf l.toArray j ≠ t) → a'.tmps[t]? = a.tmps[t]?) →
      Rep n (predEnv l is (fun j => a'.tmps.getD (Ord.dstOf l.toArray j) undef) ++ drop ds E) a' := by
    intro a' is his h1 h2 h3
    refine ⟨h1.trans ha.defers, h2.trans ha.size, fun t v ht => ?_⟩
    rcases get_app ht with ⟨p, hp, e1, e2⟩ | ht
    · obtain ⟨j, hj, rfl⟩ := List.mem_map.1 hp
      have hlt := (Ord.lex_spec (ops := l.toArray) hlex (i := j) (by simpa using his j hj)).2.2.1
      simp only at e1 e2
      subst e1
      rw [← e2, Array.getD_eq_getD_getElem?, Array.getElem?_eq_getElem (by rw [h2, ha.size]; exact hlt)]
      rfl
    · obtain ⟨h4, h5⟩ := get_cut ht
      rw [h3 t (fun j hj e => h5 (by rw [← hds, List.mem_map]; exact ⟨j, by simpa using hj, e⟩))]
      exact ha.val t v h4
  refine Ord.wp_region_vals (ops := l.toArray) hm (by rw [ha.size]; exact hlex) (fun i v w => V i v w.heap) (fun w' => Old H w'.heap ∧ St W0 w'.heap w') ⟨by show Old H w.heap; rw [hw.heap]; exact Old.refl _, rfl, hw.os, hw.tape, hw.output⟩ ?_ ?_
  · intro i hi a' w' hC hd hsz hold hp
    have hil : i < l.length := by simpa using hi
    have ho : l[i]? = some l[i] := List.getElem?_eq_getElem hil
    have hpre := (Ord.lex_spec (ops := l.toArray) hlex hi).1
    have hR := hrep a' (Ord.preds l.toArray i) (fun j hj => by have := hpre j hj; omega) hd hsz hold
    obtain ⟨o', ho', hdst⟩ := (Ord.lex_spec (ops := l.toArray) hlex hi).2.1
    have ho'' : l.toArray[i]? = some l[i] := by simp [ho]
    rw [ho''] at ho'
    injection ho' with ho'
    rw [← ho'] at hdst
    have hob := hdo i l[i] ho (fun j => a'.tmps.getD (Ord.dstOf l.toArray j) undef) w'.heap hC.1 hp
    unfold wpOp
    rw [ho'']
    simp only
    rcases hob with ⟨hw1, hD⟩ | ⟨hw1, hD⟩
    · rw [want_wanted hR hw1]
      simp only [if_true]
      left
      have := hD a'.eval w' hR.agree rfl
      unfold Oper.wp
      generalize (execOp a'.eval l[i]).run P w' = r at *
      cases r with
      | ok nx w2 =>
        cases nx <;> simp only [UponK] at this <;> simp only [Oper.upon]
        case value v => exact ⟨v, by rw [hdst], this.2.1, ⟨this.2.2.1, hC.2.trans this.1⟩, this.2.2.2⟩
        case enter f args =>
          obtain ⟨rfl, hc⟩ := this
          refine hc.mono ?_
          rintro e w'' ⟨v, rfl, hst, hV, hO, hm'⟩
          exact ⟨v, by rw [hdst], hV, ⟨hO, hC.2.trans hst⟩, hm'⟩
      | halt x w2 => simp only [UponK] at this
    · rw [want_wanted hR hw1]
      simp only [Bool.false_eq_true, if_false]
      exact ⟨undef, by rw [hdst], hD.1, ⟨hD.2.1, hC.2⟩, hD.2.2⟩
  · intro a' w' hC hd hsz hold hval
    have hR := hrep a' (List.range l.length) (fun i hi => List.mem_range.1 hi) hd hsz hold
    exact hend (fun j => a'.tmps.getD (Ord.dstOf l.toArray j) undef) w'.heap hC.1 (fun i hi => hval i (by simpa using hi)) a' w' hR hC.2
/-- the same, with all that is reckoned from the region's text told -/
def litEnv (ds is : List Nat) (u : Nat → Value) : Env := is.map fun j => (ds.getD j 0, u j)
theorem KC.valsL {P : Program} {n : Nat} {W0 : World} {Q : Exit → Act → World → Prop} {E : Env} {H : Heap} {id : Nat} {l : List Oper} (ds : List Nat) (ps : List (List Nat)) (V : Nat → Value → Heap → Prop) (hm : P.follows .mixedOrders = true) (hlex : Ord.lexOk l.toArray n = true) (hds : (List.range l.length).map (Ord.dstOf l.toArray) = ds) (hps : (List.range l.length).map (Ord.preds l.toArray) = ps)
    (hdo : ∀ i o, l[i]? = some o → ∀ (u : Nat → Value) Hc, Old H Hc → (∀ j ∈ ps.getD i [], V j (u j) Hc) → Ob P l (litEnv ds (ps.getD i []) u ++ drop ds E) Hc o (fun v H' => V i v H' ∧ Old H H' ∧ ∀ j x, V j x Hc → V j x H'))
    (hend : ∀ (u : Nat → Value) Hf, Old H Hf → (∀ i, i < l.length → V i (u i) Hf) → KQ n W0 Q .normal (litEnv ds (List.range l.length) u ++ drop ds E) Hf) : KC P n W0 Q (.region id l.toArray true) E H := by
  have hd : ∀ j, j < l.length → ds.getD j 0 = Ord.dstOf l.toArray j := fun j hj => by
    rw [← hds, List.getD_eq_getElem?_getD, List.getElem?_map, List.getElem?_range hj]; rfl
  have hp : ∀ j, j < l.length → ps.getD j [] = Ord.preds l.toArray j := fun j hj => by
    rw [← hps, List.getD_eq_getElem?_getD, List.getElem?_map, List.getElem?_range hj]; rfl
  have he : ∀ is u, (∀ i ∈ is, i < l.length) → predEnv l is u = litEnv ds is u := fun is u his => by
    unfold predEnv litEnv
    exact List.map_congr_left fun j hj => by rw [hd j (his j hj)]
  refine KC.vals ds V hm hlex hds (fun i o ho u Hc og hpp => ?_) (fun u Hf og hv => ?_)
  · have hi : i < l.length := (List.getElem?_eq_some_iff.1 ho).1
    have hlt : ∀ j ∈ Ord.preds l.toArray i, j < l.length := fun j hj => by
      have := (Ord.lex_spec (ops := l.toArray) hlex (i := i) (by simpa using hi)).1 j hj
      omega
    have := hdo i o ho u Hc og (by rw [hp i hi]; exact hpp)
    rw [hp i hi] at this
    rw [he _ u hlt]
    exact this
  · rw [he _ u (fun i hi => List.mem_range.1 hi)]
    exact hend u Hf og hv
end Go.Proofs.Ytgpbdimccbimnaa
