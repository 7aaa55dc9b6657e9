/- The logic of walks: operations that make or write memory, calls, regions that draw their order. No condition but those that each law states. -/
import Derived.Test.YticnkojpfmkjeaaKOps
import Derived.Laws.AppendOwnNone
import Derived.Laws.CopyRow
import Derived.Laws.Tables
import Derived.Orders
namespace Go.Proofs.Yticnkojpfmkjeaa
open Go Go.RowKit
set_option linter.unusedVariables false
set_option linter.unusedSimpArgs false

/-- an operation that hands back a value and may change memory -/
def RunM (P : Program) (E : Env) (H : Heap) (o : Oper) (R : Value → Heap → Prop) : Prop := ∀ ρ w, Agree E ρ → w.heap = H → ∃ v w', (execOp ρ o).run P w = .ok (.value v) w' ∧ St w w'.heap w' ∧ R v w'.heap
/-- one that hands back nothing -/
def RunS (P : Program) (E : Env) (H : Heap) (o : Oper) (R : Heap → Prop) : Prop := ∀ ρ w, Agree E ρ → w.heap = H → ∃ w', (execOp ρ o).run P w = .ok .skip w' ∧ St w w'.heap w' ∧ R w'.heap

/-- a new block -/
def New (H : Heap) (cs : List Value) (t : TypeId) (H' : Heap) : Prop := Old H H' ∧ H'.size = H.size + 1 ∧ H'[H.size]? = some (.cells cs.toArray t (0, 0))
theorem New.push (H : Heap) (cs : List Value) (t : TypeId) : New H cs t (H.push (.cells cs.toArray t)) :=
  ⟨⟨by simp, fun k hk => by rw [Array.getElem?_push, if_neg (by omega)]⟩, by simp, by simp⟩

section
variable {P : Program} {n d : Nat} {W0 : World} {Q : Exit → Act → World → Prop} {ops rest : List Oper} {o : Oper} {E : Env} {H : Heap} {v : Value}

theorem KL.opM {R : Value → Heap → Prop} (hr : RunM P E H o R) (hd : o.dst = some d) (hn : Nat.blt d n = true) (hg : want ops E o.guard = some true) (h : ∀ v H', R v H' → KL P n W0 Q ops rest ((d, v) :: E) H') : KL P n W0 Q ops (o :: rest) E H := by
  intro a w ha hw
  refine wpList_step fun K hK => ?_
  rw [if_pos (want_wanted ha hg)]
  obtain ⟨v, w', hrun, hst, hR⟩ := hr a.eval w ha.agree hw.heap
  unfold Oper.wp
  rw [hrun]
  show K (a.put o.dst v) w'
  rw [hd]
  exact hK _ _ (h v _ hR _ _ (ha.put hn v) (hw.trans hst))
theorem KL.opS {R : Heap → Prop} (hr : RunS P E H o R) (hd : o.dst = none) (hg : want ops E o.guard = some true) (h : ∀ H', R H' → KL P n W0 Q ops rest E H') : KL P n W0 Q ops (o :: rest) E H := by
  intro a w ha hw
  refine wpList_step fun K hK => ?_
  rw [if_pos (want_wanted ha hg)]
  obtain ⟨w', hrun, hst, hR⟩ := hr a.eval w ha.agree hw.heap
  unfold Oper.wp
  rw [hrun]
  show K (a.put o.dst undef) w'
  rw [hd]
  exact hK _ _ (h _ hR _ _ ha (hw.trans hst))

theorem Agree.evs {ρ : Operand → Value} (ha : Agree E ρ) : ∀ {l : List Operand} {vs : List Value}, evs E l = some vs → l.map ρ = vs := by
  intro l
  induction l with
  | nil => intro vs h; simp [Go.Proofs.Yticnkojpfmkjeaa.evs] at h; subst h; rfl
  | cons x l ih =>
    intro vs h
    simp only [Go.Proofs.Yticnkojpfmkjeaa.evs] at h
    cases h1 : ev E x with
    | none => rw [h1] at h; simp at h
    | some u =>
      cases h2 : Go.Proofs.Yticnkojpfmkjeaa.evs E l with
      | none => rw [h1, h2] at h; simp at h
      | some ul => rw [h1, h2] at h; simp at h; subst h; simp [ha x u h1, ih h2]

/-- that a function can be entered -/
def Enters (P : Program) (f : FuncId) : Prop := ∀ args w, (callFunc f args).run P w = .ok (.enter f args) w

theorem run_call {f : FuncId} {fo : Operand} {xs : Array Operand} {ts : Array TypeId} {first cap : Array Value} {vs args : List Value} {ρ : Operand → Value} {w : World} (ha : Agree E ρ) (ho : o.op = .call { callee := .value fo, args := xs, argTypes := ts })
    (hf : ev E fo = some (.func (.func f) first cap)) (has : evs E xs.toList = some vs) (hl : first.toList ++ vs ++ cap.toList = args) (hcall : Enters P f) : (execOp ρ o).run P w = .ok (.enter f args.toArray) w := by
  have e1 : xs.map ρ = vs.toArray := by apply Array.ext'; simpa using ha.evs has
  have e2 : first ++ (vs.toArray ++ cap) = args.toArray := by apply Array.ext'; simp [← hl]
  have := hcall args.toArray w
  simp [execOp, ho, resolve, ha fo _ hf, Deferred.ofValue, invoke, e1, Sem.run_bind, Sem.run_pure, Result.andThen]
  rw [e2]; exact this

theorem KL.call {f : FuncId} {fo : Operand} {xs : Array Operand} {ts : Array TypeId} {first cap : Array Value} {vs args : List Value} {R : Value → Heap → Prop} (ho : o.op = .call { callee := .value fo, args := xs, argTypes := ts })
    (hf : ev E fo = some (.func (.func f) first cap)) (has : evs E xs.toList = some vs) (hl : first.toList ++ vs ++ cap.toList = args) (hcall : Enters P f) (hd : o.dst = some d) (hn : Nat.blt d n = true) (hg : want ops E o.guard = some true)
    (hc : Ct P f args H R) (h : ∀ v H', R v H' → KL P n W0 Q ops rest ((d, v) :: E) H') : KL P n W0 Q ops (o :: rest) E H := by
  intro a w ha hw
  refine wpList_step fun K hK => ?_
  rw [if_pos (want_wanted ha hg)]
  unfold Oper.wp
  rw [run_call ha.agree ho hf has hl hcall]
  refine (hc w hw.heap).mono ?_
  rintro e w' ⟨v, rfl, hst, hR⟩
  show K (a.put o.dst v) w'
  rw [hd]
  exact hK _ _ (h v _ hR _ _ (ha.put hn v) (hw.trans hst))

/-! ### new blocks -/
theorem M.box {T : TypeId} {x : Operand} {cs : List Value} (ho : o.op = .box T x) (hx : ev E x = some v) (hc : v.cells = cs.toArray) : RunM P E H o (fun u H' => u = .pointer (some ⟨H.size, 0, none⟩) ∧ New H cs T H') := by
  intro ρ w ha hw
  refine ⟨_, w.alloc (.cells cs.toArray T), ?_, ⟨rfl, rfl, rfl, rfl⟩, rfl, ?_⟩
  · subst hw
    simp [execOp, ho, ha x v hx, Instr.box, newVar, newRow, newObj, hc, Sem.run_bind, Sem.run_pure, Result.andThen, Sem.run]
  · subst hw; exact New.push _ _ _
theorem M.alloc {T : TypeId} {z : Value} {cs : List Value} (ho : o.op = .alloc T) (hz : (P.info? T).map (·.zero) = some (some z)) (hc : z.cells = cs.toArray) : RunM P E H o (fun u H' => u = .pointer (some ⟨H.size, 0, none⟩) ∧ New H cs T H') := by
  intro ρ w ha hw
  refine ⟨_, w.alloc (.cells cs.toArray T), ?_, ⟨rfl, rfl, rfl, rfl⟩, rfl, ?_⟩
  · subst hw
    cases hq : P.info? T with
    | none => simp [hq] at hz
    | some i =>
      simp [hq] at hz
      simp [execOp, ho, Instr.alloc, zeroValue, typeInfo, program, hq, hz, newVar, newRow, newObj, hc, Sem.run_bind, Sem.run_pure, Result.andThen, Sem.run]
  · subst hw; exact New.push _ _ _

def partsOf (E : Env) : List (Nat × Operand) → Option (List (Nat × Value))
  | [] => some []
  | (i, x) :: l => match ev E x, partsOf E l with
    | some v, some vs => some ((i, v) :: vs)
    | _, _ => none
theorem Agree.parts {ρ : Operand → Value} (ha : Agree E ρ) : ∀ {l : List (Nat × Operand)} {vs : List (Nat × Value)}, partsOf E l = some vs → l.map (fun p => (p.1, ρ p.2)) = vs := by
  intro l
  induction l with
  | nil => intro vs h; simp [partsOf] at h; subst h; rfl
  | cons p l ih =>
    obtain ⟨i, x⟩ := p
    intro vs h
    simp only [partsOf] at h
    cases h1 : ev E x with
    | none => rw [h1] at h; simp at h
    | some u =>
      cases h2 : partsOf E l with
      | none => rw [h1, h2] at h; simp at h
      | some ul => rw [h1, h2] at h; simp at h; subst h; simp [ha x u h1, ih h2]

/-- a slice literal whose elements are of one cell -/
theorem M.buildSlice {T e : TypeId} {len : Nat} {parts : Array (Nat × Operand)} {vs : List (Nat × Value)} {z : Value} {cs : Array Value} (ho : o.op = .buildSlice T len parts) (ht : P.underlying T = some (.slice e)) {size : Nat} (hi : (P.info? e).map (fun i => (i.zero, i.size)) = some (some z, size)) (hlen : len * size ≤ 16777216)
    (hp : partsOf E parts.toList = some vs) (hfill : Instr.fill (fun i => some (i * size, size)) ((Array.range (len * size)).map (z.cells[· % z.cells.size]!)) vs = some cs) :
    RunM P E H o (fun u H' => u = .slice (some ⟨H.size, 0, none⟩) len len ∧ New H cs.toList e H') := by
  intro ρ w ha hw
  refine ⟨_, w.alloc (.cells cs e), ?_, ⟨rfl, rfl, rfl, rfl⟩, rfl, ?_⟩
  · subst hw
    cases hq : P.info? e with
    | none => simp [hq] at hi
    | some i =>
      simp [hq] at hi
      obtain ⟨hi1, hi2⟩ := hi
      have e1 : List.map (fun p => (p.1, ρ p.2)) parts.toList = vs := ha.parts hp
      by_cases h0 : len * size = 0
      · have hf : Instr.fill (fun i => some (i * size, size)) #[] vs = some cs := by rw [h0] at hfill; simpa [Array.range_zero'] using hfill
        simp [execOp, ho, Instr.buildSlice, underlying, sizeOf, typeInfo, program, ht, hq, hi2, h0, e1, hf, newRow, newObj, Array.range_zero', Sem.run_bind, Sem.run_pure, Result.andThen, Sem.run]
      · simp [execOp, ho, Instr.buildSlice, underlying, sizeOf, typeInfo, zeroValue, program, ht, hq, hi1, hi2, h0, e1, show ¬ 16777216 < len * size by omega, newRow, newObj, Sem.run_bind, Sem.run_pure, Result.andThen, Sem.run]
        simp [hfill, Sem.run_bind, Sem.run_pure, Result.andThen, Sem.run]
  · subst hw
    exact New.push _ _ _

/-- the parts of a literal that gives each element, in their order -/
def evsI (E : Env) : Nat → List (Nat × Operand) → Option (List Value)
  | _, [] => some []
  | k, (i, x) :: l => bif Nat.beq i k then (match ev E x, evsI E (k + 1) l with
    | some v, some vs => some (v :: vs)
    | _, _ => none) else none
def enumV : Nat → List Value → List (Nat × Value)
  | _, [] => []
  | k, v :: l => (k, v) :: enumV (k + 1) l
theorem partsOf_evsI : ∀ {l : List (Nat × Operand)} {k : Nat} {us : List Value}, evsI E k l = some us → partsOf E l = some (enumV k us) := by
  intro l
  induction l with
  | nil => intro k us h; simp [evsI] at h; subst h; rfl
  | cons p l ih =>
    obtain ⟨i, x⟩ := p
    intro k us h
    simp only [evsI] at h
    cases hb : Nat.beq i k with
    | false => rw [hb] at h; cases h
    | true =>
      have e := Nat.eq_of_beq_eq_true hb
      subst e
      rw [hb] at h
      simp only [cond_true] at h
      cases h1 : ev E x with
      | none => rw [h1] at h; simp at h
      | some u =>
        cases h2 : evsI E (i + 1) l with
        | none => rw [h1, h2] at h; simp at h
        | some ul => rw [h1, h2] at h; simp at h; subst h; simp [partsOf, h1, ih h2, enumV]
def szd (sz : Nat) : List Value → Bool
  | [] => true
  | v :: l => Nat.beq v.cells.size sz && szd sz l
def flatV : List Value → List Value
  | [] => []
  | v :: l => v.cells.toList ++ flatV l
theorem flatV_len {sz : Nat} : ∀ {us : List Value}, szd sz us = true → (flatV us).length = us.length * sz := by
  intro us
  induction us with
  | nil => intro _; simp [flatV]
  | cons v l ih =>
    intro h
    simp only [szd, Bool.and_eq_true] at h
    have h1 := Nat.eq_of_beq_eq_true h.1
    simp [flatV, ih h.2, h1, Nat.add_mul]; omega
theorem foldl_put (vs : List Value) : ∀ (off i : Nat) (cells : Array Value), off + i + vs.length ≤ cells.size →
    ((vs.zipIdx i).foldl (fun cs (c : Value × Nat) => cs.setIfInBounds (off + c.2) c.1) cells).toList = cells.toList.take (off + i) ++ vs ++ cells.toList.drop (off + i + vs.length) := by
  induction vs with
  | nil => intro off i cells h; simp
  | cons v vs ih =>
    intro off i cells h
    simp only [List.length_cons] at h
    simp only [List.zipIdx_cons, List.foldl_cons]
    rw [ih _ _ _ (by simp; omega)]
    simp only [Array.toList_setIfInBounds, List.length_cons]
    have hlt : off + i < cells.toList.length := by simp; omega
    rw [List.set_eq_take_append_cons_drop, if_pos hlt]
    have e1 : (cells.toList.take (off + i)).length = off + i := by simp; omega
    rw [show off + (i + 1) = off + i + 1 by omega]
    have t1 : List.take (off + i + 1) (List.take (off + i) cells.toList ++ v :: List.drop (off + i + 1) cells.toList) = List.take (off + i) cells.toList ++ [v] := by
      rw [List.take_append, e1, List.take_of_length_le (by omega)]
      simp
    have t2 : List.drop (off + i + 1 + vs.length) (List.take (off + i) cells.toList ++ v :: List.drop (off + i + 1) cells.toList) = List.drop (off + i + (vs.length + 1)) cells.toList := by
      rw [List.drop_append, e1, List.drop_of_length_le (by omega)]
      rw [show off + i + 1 + vs.length - (off + i) = vs.length + 1 by omega]
      simp only [List.nil_append, List.drop_succ_cons, List.drop_drop]
      congr 1; omega
    rw [t1, t2]
    simp
theorem fill_enum {sz : Nat} : ∀ (us : List Value) (k : Nat) (cells : Array Value), szd sz us = true → (k + us.length) * sz ≤ cells.size →
    Instr.fill (fun i => some (i * sz, sz)) cells (enumV k us) = some (cells.toList.take (k * sz) ++ flatV us ++ cells.toList.drop ((k + us.length) * sz)).toArray := by
  intro us
  induction us with
  | nil => intro k cells _ _; simp [enumV, Instr.fill, flatV]
  | cons v us ih =>
    intro k cells h hle
    simp only [szd, Bool.and_eq_true] at h
    obtain ⟨h1, h2⟩ := h
    have h1 := Nat.eq_of_beq_eq_true h1
    have hk : k * sz + sz + us.length * sz = (k + (us.length + 1)) * sz := by rw [Nat.add_mul, Nat.add_mul]; omega
    simp only [List.length_cons] at hle
    rw [← hk] at hle
    simp only [enumV, Instr.fill, h1]
    rw [if_neg (by simp; omega)]
    have hf := foldl_put v.cells.toList (k * sz) 0 cells (by simp; omega)
    have e0 : (Array.foldl (fun cs (x : Value × Nat) => match x with | (c, j) => cs.setIfInBounds (k * sz + j) c) cells v.cells.zipIdx) = ((v.cells.toList.zipIdx 0).foldl (fun cs (c : Value × Nat) => cs.setIfInBounds (k * sz + c.2) c.1) cells) := by
      rw [← Array.foldl_toList]; simp
    rw [e0]
    rw [ih (k + 1) _ h2 (by
      have : ((v.cells.toList.zipIdx 0).foldl (fun cs (c : Value × Nat) => cs.setIfInBounds (k * sz + c.2) c.1) cells).size = cells.size := by
        have hz : ∀ (l : List (Value × Nat)) (c : Array Value), (l.foldl (fun cs (c : Value × Nat) => cs.setIfInBounds (k * sz + c.2) c.1) c).size = c.size := by
          intro l; induction l with
          | nil => intro c; rfl
          | cons a l ih => intro c; simp only [List.foldl_cons]; rw [ih]; simp
        exact hz _ _
      rw [this, show (k + 1 + us.length) * sz = k * sz + sz + us.length * sz by rw [Nat.add_mul, Nat.add_mul]; omega]; omega), hf]
    simp only [Nat.add_zero, Array.length_toList, h1, flatV, List.length_cons]
    have e1 : (cells.toList.take (k * sz)).length = k * sz := by simp; omega
    have e2 : (List.take (k * sz) cells.toList ++ v.cells.toList).length = k * sz + sz := by simp [h1]; omega
    congr 2
    rw [show (k + 1) * sz = k * sz + sz by rw [Nat.add_mul]; omega]
    rw [List.take_append_of_le_length (by rw [e2]; omega), List.take_of_length_le (by rw [e2]; omega)]
    rw [show (k + 1 + us.length) * sz = (k * sz + sz) + us.length * sz by rw [Nat.add_mul, Nat.add_mul]; omega]
    rw [List.drop_append, e2, List.drop_of_length_le (by rw [e2]; omega)]
    rw [← hk]
    simp only [List.nil_append, List.drop_drop, List.append_assoc]
    congr 4; omega

theorem M.lit {T e : TypeId} {len : Nat} {parts : Array (Nat × Operand)} {us : List Value} {z : Value} {size : Nat} (ho : o.op = .buildSlice T len parts) (ht : P.underlying T = some (.slice e)) (hi : (P.info? e).map (fun i => (i.zero, i.size)) = some (some z, size)) (hlen : len * size ≤ 16777216)
    (hp : evsI E 0 parts.toList = some us) (hl : us.length = len) (hs : szd size us = true) :
    RunM P E H o (fun u H' => u = .slice (some ⟨H.size, 0, none⟩) len len ∧ New H (flatV us) e H') := by
  have h1 := partsOf_evsI hp
  have hsz : ((Array.range (len * size)).map (z.cells[· % z.cells.size]!)).size = len * size := by simp
  have h2 := fill_enum us 0 ((Array.range (len * size)).map (z.cells[· % z.cells.size]!)) hs (by rw [hsz, Nat.zero_add, hl]; omega)
  have h3 := M.buildSlice (H := H) ho ht hi hlen h1 h2
  have e : (((Array.range (len * size)).map (z.cells[· % z.cells.size]!)).toList.take (0 * size) ++ flatV us ++ ((Array.range (len * size)).map (z.cells[· % z.cells.size]!)).toList.drop ((0 + us.length) * size)).toArray.toList = flatV us := by
    have hd : ((Array.range (len * size)).map (z.cells[· % z.cells.size]!)).toList.drop ((0 + us.length) * size) = [] := by
      rw [List.drop_eq_nil_iff, Array.length_toList, hsz, Nat.zero_add, hl]; omega
    simp only [Nat.zero_mul, List.take_zero, hd, List.nil_append, List.append_nil]
  rw [e] at h3
  exact h3

/-- a struct's value -/
theorem R.build {T : TypeId} {parts : Array (Nat × Operand)} {vs : List (Nat × Value)} {z : Value} {cs : Array Value} {fields : Array Field} {places : Array (Nat × Nat)} (ho : o.op = .build T parts) (ht : P.underlying T = some (.struct fields)) (hz : (P.info? T).map (·.zero) = some (some z))
    (hpl : ∀ w, (fields.mapM (m := Sem) fun f => Prod.mk f.offset <$> sizeOf f.type).run P w = .ok places w)
    (hp : partsOf E parts.toList = some vs) (hfill : Instr.fill (places[·]?) z.cells vs = some cs) : Run P E H o (.agg cs) := by
  intro ρ w ha hw
  cases hq : P.info? T with
  | none => simp [hq] at hz
  | some i =>
    simp [hq] at hz
    have e1 : List.map (fun p => (p.1, ρ p.2)) parts.toList = vs := ha.parts hp
    have h1 := hpl w
    simp [execOp, ho, Instr.build, underlying, zeroValue, typeInfo, program, ht, hq, hz, e1, Sem.run_bind, Sem.run_pure, Result.andThen, Sem.run]
    simp only [h1]
    simp [hfill, Sem.run_bind, Sem.run_pure, Result.andThen, Sem.run]

/-- a struct's cells: each from the part that gives it, or nought -/
def atOff : List (Nat × Operand) → Nat → Option Operand
  | [], _ => none
  | (o, x) :: l, k => bif Nat.beq o k then some x else atOff l k
def buildL (E : Env) : List Value → Nat → List (Nat × Operand) → Option (List Value)
  | [], _, _ => some []
  | z :: zs, k, ps => match atOff ps k with
    | none => (match buildL E zs (k + 1) ps with
      | some vs => some (z :: vs)
      | none => none)
    | some x => (match ev E x, buildL E zs (k + 1) ps with
      | some v, some vs => some (v :: vs)
      | _, _ => none)
def offsOf (fields : List Field) : List (Nat × Operand) → Option (List (Nat × Operand))
  | [] => some []
  | (i, x) :: l => match nth fields i, offsOf fields l with
    | some f, some r => some ((f.offset, x) :: r)
    | _, _ => none
/-- what each part is, of one cell -/
def OneAll (E : Env) : List (Nat × Operand) → Prop
  | [] => True
  | p :: l => (∃ v, ev E p.2 = some v ∧ v.cells = #[v]) ∧ OneAll E l
def apartB : List (Nat × Operand) → Bool
  | [] => true
  | (o, _) :: l => (l.all fun p => !Nat.beq p.1 o) && apartB l
def szOk (pl : List (Nat × Nat)) (fields : List Field) : List (Nat × Operand) → Prop
  | [] => True
  | (i, _) :: l => (∃ f, nth fields i = some f ∧ nth pl i = some (f.offset, 1)) ∧ szOk pl fields l

theorem atOff_mem {ps : List (Nat × Operand)} {k : Nat} {x : Operand} (h : atOff ps k = some x) : (k, x) ∈ ps := by
  induction ps with
  | nil => cases h
  | cons p l ih =>
    obtain ⟨o, y⟩ := p
    simp only [atOff] at h
    cases hb : Nat.beq o k with
    | true => rw [hb] at h; have e := Nat.eq_of_beq_eq_true hb; subst e; simp at h; subst h; exact List.mem_cons_self
    | false => rw [hb] at h; exact List.mem_cons_of_mem _ (ih h)
theorem atOff_none {ps : List (Nat × Operand)} {k : Nat} (h : ∀ p ∈ ps, p.1 ≠ k) : atOff ps k = none := by
  induction ps with
  | nil => rfl
  | cons p l ih =>
    obtain ⟨o, y⟩ := p
    simp only [atOff]
    have : Nat.beq o k = false := by
      cases hb : Nat.beq o k with
      | false => rfl
      | true => exact absurd (Nat.eq_of_beq_eq_true hb) (h (o, y) List.mem_cons_self)
    rw [this]
    exact ih fun p hp => h p (List.mem_cons_of_mem _ hp)

theorem fill_struct {fields : Array Field} {pl : List (Nat × Nat)} :
    ∀ (parts : List (Nat × Operand)) (offs : List (Nat × Operand)) (vs : List (Nat × Value)) (cells : Array Value), offsOf fields.toList parts = some offs → szOk pl fields.toList parts → OneAll E parts → partsOf E parts = some vs → apartB offs = true → (∀ p ∈ offs, p.1 < cells.size) →
      ∃ cs : Array Value, Instr.fill (pl.toArray[·]?) cells vs = some cs ∧ cs.size = cells.size ∧ ∀ k, k < cells.size → cs[k]? = (match atOff offs k with | none => cells[k]? | some x => ev E x) := by
  intro parts
  induction parts with
  | nil =>
    intro offs vs cells h1 _ _ h3 _ _
    simp only [offsOf, Option.some.injEq] at h1
    simp only [partsOf, Option.some.injEq] at h3
    subst h1; subst h3
    exact ⟨cells, rfl, rfl, fun k _ => rfl⟩
  | cons p parts ih =>
    obtain ⟨i, x⟩ := p
    intro offs vs cells h1 hsz h2 h3 h4 h5
    simp only [offsOf] at h1
    cases hn : nth fields.toList i with
    | none => rw [hn] at h1; simp at h1
    | some f =>
      cases ho : offsOf fields.toList parts with
      | none => rw [hn, ho] at h1; simp at h1
      | some r =>
        rw [hn, ho] at h1
        simp only [Option.some.injEq] at h1
        subst h1
        obtain ⟨⟨v, hv, hc⟩, h2'⟩ := h2
        simp only [partsOf] at h3
        rw [hv] at h3
        cases hp : partsOf E parts with
        | none => rw [hp] at h3; simp at h3
        | some vs' =>
          rw [hp] at h3
          simp only [Option.some.injEq] at h3
          subst h3
          obtain ⟨⟨f', hf', hs1⟩, hsz'⟩ := hsz
          rw [hn] at hf'
          simp only [Option.some.injEq] at hf'
          subst hf'
          rw [nth_eq] at hs1
          have hplace : pl.toArray[i]? = some (f.offset, 1) := by simpa using hs1
          have hlt := h5 (f.offset, x) List.mem_cons_self
          simp only [apartB, Bool.and_eq_true, List.all_eq_true, Bool.not_eq_true'] at h4
          obtain ⟨cs, k1, k2, k3⟩ := ih r vs' (cells.setIfInBounds f.offset v) ho hsz' h2' hp h4.2 (fun p hp => by simpa using h5 p (List.mem_cons_of_mem _ hp))
          refine ⟨cs, ?_, by simpa using k2, fun k hk => ?_⟩
          · simp only [Instr.fill, hplace, hc]
            rw [if_neg (by simp; exact hlt)]
            simpa using k1
          · rw [k3 k (by simpa using hk)]
            simp only [atOff]
            cases hb : Nat.beq f.offset k with
            | true =>
              have e := Nat.eq_of_beq_eq_true hb
              subst e
              have : atOff r f.offset = none := atOff_none fun p hp e => by
                have := h4.1 p hp
                rw [e, Nat.beq_refl] at this; cases this
              rw [this]
              simp [hv, hk]
            | false =>
              have e : f.offset ≠ k := fun e => by rw [e, Nat.beq_refl] at hb; cases hb
              simp only [cond_false]
              cases atOff r k with
              | none => simp [Array.getElem?_setIfInBounds_ne e]
              | some y => rfl

theorem buildL_spec {ps : List (Nat × Operand)} : ∀ (zs : List Value) (k : Nat) (vs : List Value), buildL E zs k ps = some vs → vs.length = zs.length ∧ ∀ j, j < zs.length → vs[j]? = (match atOff ps (k + j) with | none => zs[j]? | some x => ev E x) := by
  intro zs
  induction zs with
  | nil => intro k vs h; simp [buildL] at h; subst h; exact ⟨rfl, fun j hj => by simp at hj⟩
  | cons z zs ih =>
    intro k vs h
    simp only [buildL] at h
    cases ha : atOff ps k with
    | none =>
      rw [ha] at h
      dsimp only at h
      cases hb : buildL E zs (k + 1) ps with
      | none => rw [hb] at h; cases h
      | some r =>
        rw [hb] at h
        simp only [Option.some.injEq] at h
        subst h
        obtain ⟨h1, h2⟩ := ih _ _ hb
        refine ⟨by simp [h1], fun j hj => ?_⟩
        cases j with
        | zero => simp [ha]
        | succ j => simp only [List.getElem?_cons_succ]; rw [h2 j (by simpa using hj)]; simp [Nat.add_assoc, Nat.add_comm 1 j]
    | some x =>
      rw [ha] at h
      dsimp only at h
      cases hv : ev E x with
      | none => rw [hv] at h; simp at h
      | some v =>
        cases hb : buildL E zs (k + 1) ps with
        | none => rw [hv, hb] at h; simp at h
        | some r =>
          rw [hv, hb] at h
          simp only [Option.some.injEq] at h
          subst h
          obtain ⟨h1, h2⟩ := ih _ _ hb
          refine ⟨by simp [h1], fun j hj => ?_⟩
          cases j with
          | zero => simp [ha, hv]
          | succ j => simp only [List.getElem?_cons_succ]; rw [h2 j (by simpa using hj)]; simp [Nat.add_assoc, Nat.add_comm 1 j]

/-- a struct's value, of parts of one cell each -/
theorem R.buildL {T : TypeId} {parts : Array (Nat × Operand)} {offs : List (Nat × Operand)} {zs us : List Value} {fields : Array Field} (ho : o.op = .build T parts) (ht : P.underlying T = some (.struct fields)) (hz : (P.info? T).map (·.zero) = some (some (.agg zs.toArray)))
    (pl : List (Nat × Nat)) (hpl : ∀ w, (fields.mapM (m := Sem) fun f => Prod.mk f.offset <$> sizeOf f.type).run P w = .ok pl.toArray w)
    (hof : offsOf fields.toList parts.toList = some offs) (hsz : szOk pl fields.toList parts.toList) (hap : apartB offs = true) (hlt : (offs.all fun p => Nat.blt p.1 zs.length) = true) (h1 : OneAll E parts.toList) (hb : Go.Proofs.Yticnkojpfmkjeaa.buildL E zs 0 offs = some us) : Run P E H o (.agg us.toArray) := by
  have hvs : ∃ vs, partsOf E parts.toList = some vs := by
    have key : ∀ l : List (Nat × Operand), OneAll E l → ∃ vs, partsOf E l = some vs := by
      intro l
      induction l with
      | nil => intro _; exact ⟨[], rfl⟩
      | cons p l ih =>
        obtain ⟨i, x⟩ := p
        rintro ⟨⟨v, hv, _⟩, h⟩
        obtain ⟨vs, hvs⟩ := ih h
        exact ⟨(i, v) :: vs, by simp only [partsOf, hvs]; rw [hv]⟩
    exact key _ h1
  obtain ⟨vs, hvs⟩ := hvs
  obtain ⟨cs, k1, k2, k3⟩ := fill_struct parts.toList offs vs zs.toArray hof hsz h1 hvs hap (fun p hp => by have := List.all_eq_true.1 hlt p hp; simpa using this)
  obtain ⟨b1, b2⟩ := buildL_spec _ _ _ hb
  have e : cs = us.toArray := by
    apply Array.ext_getElem?
    intro k
    by_cases hk : k < zs.length
    · rw [k3 k (by simpa using hk)]
      have := b2 k hk
      rw [Nat.zero_add] at this
      simp only [List.getElem?_toArray]
      rw [this]
    · rw [Array.getElem?_eq_none (by rw [k2]; simpa using hk), Array.getElem?_eq_none (by simp [b1]; omega)]
  rw [← e]
  exact R.build ho ht hz hpl hvs k1
/-- make, of elements of one cell -/
theorem M.make {T e : TypeId} {x y : Operand} {k k' : IntKind} {m c : Int} {z : Value} {by' : Nat} (ho : o.op = .makeSlice T x y) (ht : P.underlying T = some (.slice e)) (hi : (P.info? e).map (fun i => (i.zero, i.size, i.bytes)) = some (some z, 1, by')) (hz : z.cells = #[z])
    (hx : ev E x = some (.int k m)) (hy : ev E y = some (.int k' c)) (h0 : 0 ≤ m) (hmc : m ≤ c) (hby : (by' : Int) * c ≤ 140737488355328) (h63 : c ≤ 9223372036854775807) :
    RunM P E H o (fun u H' => u = .slice (some ⟨H.size, 0, none⟩) m.toNat c.toNat ∧ New H (List.replicate c.toNat z) e H') := by
  intro ρ w ha hw
  cases hq : P.info? e with
  | none => simp [hq] at hi
  | some i =>
    simp [hq] at hi
    obtain ⟨h1, h2, h3⟩ := hi
    have hr := run_make (P := P) w T e i z ht hq h1 k k' m c h0 hmc (by rw [h3]; omega) h63
    rw [h2, Nat.mul_one, hz] at hr
    have em : madeCells #[z] c.toNat = (List.replicate c.toNat z).toArray := by
      apply Array.ext'
      rw [toList_madeCells_one]
    rw [em] at hr
    subst hw
    refine ⟨_, w.alloc (.cells (List.replicate c.toNat z).toArray e), ?_, ⟨rfl, rfl, rfl, rfl⟩, rfl, New.push _ _ _⟩
    simp [execOp, ho, ha x _ hx, ha y _ hy, Sem.run_bind, Sem.run_pure, Result.andThen, hr]

/-! ### stores -/
theorem S.store {T : TypeId} {x y : Operand} {g i : Nat} {cs : List Value} {t : TypeId} (ho : o.op = .store T x y) (hs : (P.info? T).map (·.size) = some 1) (hx : ev E x = some (.pointer (some ⟨g, i, none⟩))) (hy : ev E y = some v) (hv : v.cells = #[v]) (h1 : v.oneCell' = true)
    (hb : H[g]? = some (.cells cs.toArray t (0, 0))) (hi : i < cs.length) : RunS P E H o (fun H' => Upd g H H' ∧ H'[g]? = some (.cells (cs.set i v).toArray t (0, 0))) := by
  intro ρ w ha hw
  subst hw
  have hst := run_storeCells_at P g i t [v] 0 cs.toArray w hb (by simp; omega) (by simpa using h1)
  have e : (cs.toArray.toList.take (i + 0) ++ [v] ++ cs.toArray.toList.drop (i + 0 + [v].length)).toArray = (cs.set i v).toArray := by
    simp [List.set_eq_take_append_cons_drop, hi]
  rw [e] at hst
  cases hq : P.info? T with
  | none => simp [hq] at hs
  | some inf =>
    simp [hq] at hs
    refine ⟨w.setRow g (cs.set i v).toArray, ?_, ⟨rfl, rfl, rfl, rfl⟩, ⟨by simp, fun k hk => setRow_other w g k _ hk⟩, setRow_heap w g _ _ t _ hb⟩
    simp [execOp, ho, ha x _ hx, ha y _ hy, Instr.storeAt, Instr.sureAddr, storeVar, sizeOf, typeInfo, program, hq, hs, hv, hst, Sem.run_bind, Sem.run_pure, Result.andThen, Sem.run]

/-- a whole struct or array stored into the head of a block or within it -/
theorem S.storeAgg {T : TypeId} {x y : Operand} {g i m : Nat} {cs us : List Value} {t : TypeId} (ho : o.op = .store T x y) (hs : (P.info? T).map (·.size) = some m) (hx : ev E x = some (.pointer (some ⟨g, i, none⟩))) (hy : ev E y = some (.agg us.toArray)) (hm : us.length = m) (h1 : ∀ u ∈ us, u.oneCell' = true)
    (hb : H[g]? = some (.cells cs.toArray t (0, 0))) (hi : i + us.length ≤ cs.length) : RunS P E H o (fun H' => Upd g H H' ∧ H'[g]? = some (.cells (cs.take i ++ us ++ cs.drop (i + us.length)).toArray t (0, 0))) := by
  subst hm
  intro ρ w ha hw
  subst hw
  have hst := run_storeCells_at P g i t us 0 cs.toArray w hb (by simpa using hi) h1
  simp only [Nat.add_zero] at hst
  cases hq : P.info? T with
  | none => simp [hq] at hs
  | some inf =>
    simp [hq] at hs
    refine ⟨w.setRow g (cs.take i ++ us ++ cs.drop (i + us.length)).toArray, ?_, ⟨rfl, rfl, rfl, rfl⟩, ⟨by simp, fun k hk => setRow_other w g k _ hk⟩, setRow_heap w g _ _ t _ hb⟩
    simp [execOp, ho, ha x _ hx, ha y _ hy, Instr.storeAt, Instr.sureAddr, storeVar, sizeOf, typeInfo, program, hq, hs, Value.cells, hst, Sem.run_bind, Sem.run_pure, Result.andThen, Sem.run]

/-! ### regions that draw their order -/
/-- .. whose operations leave memory alone -/
def KD (P : Program) (n : Nat) (W0 : World) (Q : Exit → Act → World → Prop) (ops l : List Oper) (E : Env) (H : Heap) : Prop :=
  ∀ a, Rep n E a → wpQuiet P ops.toArray (St W0 H) (fun a' => ∀ w', St W0 H w' → Q .normal a' w') l a
theorem KC.quiet {id : Nat} {l : List Oper} (hm : P.follows .mixedOrders = true) (hB : Region.lexB .any l.toArray = true) (h : KD P n W0 Q l l E H) : KC P n W0 Q (.region id l.toArray true) E H :=
  fun a w ha hw => wp_region_quiet (C := St W0 H) hm hB ⟨hw.heap, hw.os, hw.tape, hw.output⟩ (h a ha)
theorem KD.nil (h : KQ n W0 Q .normal E H) : KD P n W0 Q ops [] E H := fun a ha => wpQuiet_nil fun w' hw' => h a w' ha hw'
theorem KD.op (hr : Run P E H o v) (hd : o.dst = some d) (hn : Nat.blt d n = true) (hg : want ops E o.guard = some true) (h : KD P n W0 Q ops rest ((d, v) :: E) H) : KD P n W0 Q ops (o :: rest) E H := by
  intro a ha
  refine wpQuiet_step fun K hK => ?_
  rw [if_pos (want_wanted ha hg)]
  refine ⟨v, fun w hw => ?_, ?_⟩
  · unfold Oper.quietAt
    rw [hr a.eval w ha.agree hw.heap]
    exact ⟨rfl, rfl⟩
  · rw [hd]; exact hK _ (h _ (ha.put hn v))
theorem KD.skip (hd : o.dst = some d) (hn : Nat.blt d n = true) (hg : want ops E o.guard = some false) (h : KD P n W0 Q ops rest ((d, undef) :: E) H) : KD P n W0 Q ops (o :: rest) E H := by
  intro a ha
  refine wpQuiet_step fun K hK => ?_
  rw [if_neg (by rw [want_wanted ha hg]; simp), hd]
  exact hK _ (h _ (ha.put hn _))
theorem KD.opG {c : Bool} (hr : c = true → Run P E H o v) (hd : o.dst = some d) (hn : Nat.blt d n = true) (hg : want ops E o.guard = some c) (h : KD P n W0 Q ops rest ((d, gval c v) :: E) H) : KD P n W0 Q ops (o :: rest) E H := by
  cases c with
  | true => exact KD.op (hr rfl) hd hn hg h
  | false => exact KD.skip hd hn hg h
theorem KD.call {f : FuncId} {fo : Operand} {xs : Array Operand} {ts : Array TypeId} {first cap : Array Value} {vs args : List Value} (ho : o.op = .call { callee := .value fo, args := xs, argTypes := ts })
    (hf : ev E fo = some (.func (.func f) first cap)) (has : evs E xs.toList = some vs) (hl : first.toList ++ vs ++ cap.toList = args) (hcall : Enters P f) (hd : o.dst = some d) (hn : Nat.blt d n = true) (hg : want ops E o.guard = some true)
    (hc : Ct P f args H (fun u H' => u = v ∧ H = H')) (h : KD P n W0 Q ops rest ((d, v) :: E) H) : KD P n W0 Q ops (o :: rest) E H := by
  intro a ha
  refine wpQuiet_step fun K hK => ?_
  rw [if_pos (want_wanted ha hg)]
  refine ⟨v, fun w hw => ?_, ?_⟩
  · unfold Oper.quietAt
    rw [run_call ha.agree ho hf has hl hcall]
    refine ⟨rfl, (hc w hw.heap).mono ?_⟩
    rintro e w' ⟨u, rfl, hst, rfl, hH⟩
    exact ⟨rfl, by have := hw.trans hst; rwa [← hH] at this⟩
  · rw [hd]; exact hK _ (h _ (ha.put hn v))

theorem KD.case {c : Bool} (hget : get E d = some (.bool c)) (ht : c = true → KD P n W0 Q ops rest ((d, .bool true) :: E) H) (hf : c = false → KD P n W0 Q ops rest ((d, .bool false) :: E) H) : KD P n W0 Q ops rest E H := by
  intro a ha
  cases hc : c with
  | true => exact ht hc a (ha.sub (sub_case hget true hc))
  | false => exact hf hc a (ha.sub (sub_case hget false hc))

/-- .. whose operations and callees at most make new blocks, and hand back what hangs on none of them -/
def KG (P : Program) (n : Nat) (W0 : World) (Q : Exit → Act → World → Prop) (ops l : List Oper) (E : Env) (H : Heap) : Prop :=
  ∀ a, Rep n E a → wpQuiet P ops.toArray (fun w => ∃ H', Old H H' ∧ St W0 H' w) (fun a' => ∀ w', (∃ H', Old H H' ∧ St W0 H' w') → Q .normal a' w') l a
theorem KC.grow {id : Nat} {l : List Oper} (hm : P.follows .mixedOrders = true) (hB : Region.lexB .any l.toArray = true) (h : KG P n W0 Q l l E H) : KC P n W0 Q (.region id l.toArray true) E H :=
  fun a w ha hw => wp_region_quiet (C := fun w => ∃ H', Old H H' ∧ St W0 H' w) hm hB ⟨H, Old.refl H, hw.heap, hw.os, hw.tape, hw.output⟩ (h a ha)
theorem KG.nil (h : ∀ H', Old H H' → KQ n W0 Q .normal E H') : KG P n W0 Q ops [] E H := fun a ha => wpQuiet_nil fun w' ⟨H', ho, hw'⟩ => h H' ho a w' ha hw'
theorem KG.op (hr : ∀ H', Old H H' → Run P E H' o v) (hd : o.dst = some d) (hn : Nat.blt d n = true) (hg : want ops E o.guard = some true) (h : KG P n W0 Q ops rest ((d, v) :: E) H) : KG P n W0 Q ops (o :: rest) E H := by
  intro a ha
  refine wpQuiet_step fun K hK => ?_
  rw [if_pos (want_wanted ha hg)]
  refine ⟨v, fun w ⟨H', ho, hw⟩ => ?_, ?_⟩
  · unfold Oper.quietAt
    rw [hr H' ho a.eval w ha.agree hw.heap]
    exact ⟨rfl, rfl⟩
  · rw [hd]; exact hK _ (h _ (ha.put hn v))
theorem KG.skip (hd : o.dst = some d) (hn : Nat.blt d n = true) (hg : want ops E o.guard = some false) (h : KG P n W0 Q ops rest ((d, undef) :: E) H) : KG P n W0 Q ops (o :: rest) E H := by
  intro a ha
  refine wpQuiet_step fun K hK => ?_
  rw [if_neg (by rw [want_wanted ha hg]; simp), hd]
  exact hK _ (h _ (ha.put hn _))
theorem KG.opG {c : Bool} (hr : c = true → ∀ H', Old H H' → Run P E H' o v) (hd : o.dst = some d) (hn : Nat.blt d n = true) (hg : want ops E o.guard = some c) (h : KG P n W0 Q ops rest ((d, gval c v) :: E) H) : KG P n W0 Q ops (o :: rest) E H := by
  cases c with
  | true => exact KG.op (hr rfl) hd hn hg h
  | false => exact KG.skip hd hn hg h
theorem KG.call {f : FuncId} {fo : Operand} {xs : Array Operand} {ts : Array TypeId} {first cap : Array Value} {vs args : List Value} (ho : o.op = .call { callee := .value fo, args := xs, argTypes := ts })
    (hf : ev E fo = some (.func (.func f) first cap)) (has : evs E xs.toList = some vs) (hl : first.toList ++ vs ++ cap.toList = args) (hcall : Enters P f) (hd : o.dst = some d) (hn : Nat.blt d n = true) (hg : want ops E o.guard = some true)
    (hc : ∀ H', Old H H' → Ct P f args H' (fun u H'' => u = v ∧ Old H' H'')) (h : KG P n W0 Q ops rest ((d, v) :: E) H) : KG P n W0 Q ops (o :: rest) E H := by
  intro a ha
  refine wpQuiet_step fun K hK => ?_
  rw [if_pos (want_wanted ha hg)]
  refine ⟨v, fun w ⟨H', hold, hw⟩ => ?_, ?_⟩
  · unfold Oper.quietAt
    rw [run_call ha.agree ho hf has hl hcall]
    refine ⟨rfl, (hc H' hold w hw.heap).mono ?_⟩
    rintro e w' ⟨u, rfl, hst, rfl, hH⟩
    exact ⟨rfl, _, hold.trans hH, hw.trans hst⟩
  · rw [hd]; exact hK _ (h _ (ha.put hn v))
theorem KG.case {c : Bool} (hget : get E d = some (.bool c)) (ht : c = true → KG P n W0 Q ops rest ((d, .bool true) :: E) H) (hf : c = false → KG P n W0 Q ops rest ((d, .bool false) :: E) H) : KG P n W0 Q ops rest E H := by
  intro a ha
  cases hc : c with
  | true => exact ht hc a (ha.sub (sub_case hget true hc))
  | false => exact hf hc a (ha.sub (sub_case hget false hc))
end
/-- a contract at the end of all: true, and what was there is there -/
theorem Ct.calls {P : Program} {f : FuncId} {args : List Value} {w : World} {v : Value} (h : Ct P f args w.heap (fun u H' => u = v ∧ Old w.heap H')) : Calls P f args.toArray w fun e w' => e = .returned v ∧ Below w.heap.size w w' :=
  (h w rfl).mono fun e w' ⟨u, he, hs, hu, ho⟩ => ⟨by rw [he, hu], hs.os, hs.tape, hs.output, ho.1, ho.2⟩
end Go.Proofs.Yticnkojpfmkjeaa
