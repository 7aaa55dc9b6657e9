/- A logic of walks: what is known of the slots is a list, what is known of memory is the heap. No condition. -/
import Derived.Test.YticnkojpfmkjeaaKF
import Derived.WalkKit
import Derived.Deep.Quiet
import Derived.Below
import Derived.WalkLawsBesides
import Derived.Lib.Hide
namespace Go.Proofs.Yticnkojpfmkjeaa
open Go Go.RowKit
set_option linter.unusedVariables false

abbrev Heap := Array Obj
abbrev Env := List (Nat × Value)

def get : Env → Nat → Option Value
  | [], _ => none
  | (d, v) :: E, t => bif Nat.beq d t then some v else get E t

def nth {α : Type} : List α → Nat → Option α
  | [], _ => none
  | x :: _, 0 => some x
  | _ :: l, n + 1 => nth l n

theorem nth_eq {α : Type} (l : List α) (n : Nat) : nth l n = l[n]? := by
  induction l generalizing n with
  | nil => rfl
  | cons x l ih => cases n <;> simp [nth, ih]

def ev (E : Env) : Operand → Option Value
  | .tmp t => get E t
  | .const v => some v
  | .global g => some (.pointer (some ⟨g, 0, none⟩))
  | .func f => some (.func (.func f) #[] #[])

def evs (E : Env) : List Operand → Option (List Value)
  | [] => some []
  | x :: l => match ev E x, evs E l with
    | some v, some vs => some (v :: vs)
    | _, _ => none

structure Rep (n : Nat) (E : Env) (a : Act) : Prop where
  defers : a.defers = []
  size : a.tmps.size = n
  val : ∀ t v, get E t = some v → a.tmps[t]? = some v

structure St (W0 : World) (H : Heap) (w : World) : Prop where
  heap : w.heap = H
  os : w.os = W0.os
  tape : w.tape = W0.tape
  output : w.output = W0.output

theorem St.refl (w : World) : St w w.heap w := ⟨rfl, rfl, rfl, rfl⟩
theorem St.trans {W0 w w' : World} {H H' : Heap} (h : St W0 H w) (k : St w H' w') : St W0 H' w' := ⟨k.heap, k.os.trans h.os, k.tape.trans h.tape, k.output.trans h.output⟩

def KC (P : Program) (n : Nat) (W0 : World) (Q : Exit → Act → World → Prop) (c : Code) (E : Env) (H : Heap) : Prop := ∀ a w, Rep n E a → St W0 H w → c.wp P Q a w
def KL (P : Program) (n : Nat) (W0 : World) (Q : Exit → Act → World → Prop) (ops l : List Oper) (E : Env) (H : Heap) : Prop := ∀ a w, Rep n E a → St W0 H w → wpList P ops.toArray Q l a w
def KQ (n : Nat) (W0 : World) (Q : Exit → Act → World → Prop) (e : Exit) (E : Env) (H : Heap) : Prop := ∀ a w, Rep n E a → St W0 H w → Q e a w

/-- what was there is there -/
def Old (H H' : Heap) : Prop := H.size ≤ H'.size ∧ ∀ k, k < H.size → H'[k]? = H[k]?
theorem Old.refl (H : Heap) : Old H H := ⟨Nat.le_refl _, fun _ _ => rfl⟩
theorem Old.trans {A B C : Heap} (h : Old A B) (k : Old B C) : Old A C := ⟨Nat.le_trans h.1 k.1, fun i hi => (k.2 i (Nat.lt_of_lt_of_le hi h.1)).trans (h.2 i hi)⟩
/-- block g alone is written -/
def Upd (g : Nat) (H H' : Heap) : Prop := H'.size = H.size ∧ ∀ k, k ≠ g → H'[k]? = H[k]?
theorem Old.upd {A B C : Heap} {g : Nat} (h : Old A B) (k : Upd g B C) (hg : A.size ≤ g) : Old A C :=
  ⟨by have := h.1; have := k.1; omega, fun i hi => (k.2 i (by omega)).trans (h.2 i hi)⟩
theorem Old.blk {A B : Heap} (h : Old A B) {g : Nat} {o : Obj} (hg : A[g]? = some o) : B[g]? = some o := by
  rw [h.2 g (Array.getElem?_eq_some_iff.1 hg).1]; exact hg
theorem Old.le {A B : Heap} (h : Old A B) : A.size ≤ B.size := h.1
theorem blk_lt {A : Heap} {g : Nat} {o : Obj} (hg : A[g]? = some o) : g < A.size := (Array.getElem?_eq_some_iff.1 hg).1
/-- below block B all is as it was -/
def OldB (B : Nat) (H H' : Heap) : Prop := H.size ≤ H'.size ∧ ∀ k, k < B → H'[k]? = H[k]?
theorem OldB.refl (B : Nat) (H : Heap) : OldB B H H := ⟨Nat.le_refl _, fun _ _ => rfl⟩
theorem OldB.trans {B : Nat} {X Y Z : Heap} (h : OldB B X Y) (k : OldB B Y Z) : OldB B X Z := ⟨Nat.le_trans h.1 k.1, fun i hi => (k.2 i hi).trans (h.2 i hi)⟩
theorem OldB.mono {B B' : Nat} {X Y : Heap} (h : OldB B X Y) (hB : B' ≤ B) : OldB B' X Y := ⟨h.1, fun i hi => h.2 i (by omega)⟩
theorem OldB.upd {B g : Nat} {X Y : Heap} (h : Upd g X Y) (hg : B ≤ g) : OldB B X Y := ⟨by have := h.1; omega, fun i hi => h.2 i (by omega)⟩
theorem Old.b {B : Nat} {X Y : Heap} (h : Old X Y) (hB : B ≤ X.size) : OldB B X Y := ⟨h.1, fun i hi => h.2 i (by omega)⟩
theorem Old.then {B : Nat} {X Y Z : Heap} (h : Old X Y) (k : OldB B Y Z) (hB : X.size ≤ B) : Old X Z := ⟨Nat.le_trans h.1 k.1, fun i hi => (k.2 i (by omega)).trans (h.2 i hi)⟩
theorem OldB.old {X Y : Heap} (h : OldB X.size X Y) : Old X Y := h

/-- a cell -/
def cellH (H : Heap) (a : Addr) : Option Value := match H[a.block]? with
  | some (.cells c _ _) => if a.spot.isSome then none else c[a.off]?
  | _ => none
theorem cell_of {H : Heap} {g i : Nat} {cs : List Value} {t : TypeId} {z : Nat × Nat} {v : Value} (hb : H[g]? = some (.cells cs.toArray t z)) (hv : nth cs i = some v) : cellH H ⟨g, i, none⟩ = some v := by
  rw [nth_eq] at hv
  simp [cellH, hb, hv]
theorem cell_lt {H : Heap} {a : Addr} {v : Value} (h : cellH H a = some v) : a.block < H.size := by
  unfold cellH at h
  cases hq : H[a.block]? with
  | none => rw [hq] at h; cases h
  | some o => exact blk_lt hq
theorem Old.cell {A B : Heap} (h : Old A B) {a : Addr} {v : Value} (hc : cellH A a = some v) : cellH B a = some v := by
  have := h.2 a.block (cell_lt hc)
  unfold cellH at *
  rw [this]; exact hc

def frozenH (H : Heap) (a : Addr) : Bool := match H[a.block]? with
  | some (.cells _ _ (lo, hi)) => lo ≤ a.off && a.off < hi
  | _ => false

/-- A function's contract: what it hands back, and memory behind it. -/
def Ct (P : Program) (f : FuncId) (args : List Value) (H : Heap) (R : Value → Heap → Prop) : Prop :=
  ∀ w, w.heap = H → Calls P f args.toArray w fun e w' => ∃ v, e = .returned v ∧ St w w'.heap w' ∧ R v w'.heap
theorem Ct.mono {P : Program} {f : FuncId} {args : List Value} {H : Heap} {R R' : Value → Heap → Prop} (h : Ct P f args H R) (hr : ∀ v H', R v H' → R' v H') : Ct P f args H R' :=
  fun w hw => (h w hw).mono fun _ _ ⟨v, he, hs, hR⟩ => ⟨v, he, hs, hr _ _ hR⟩

/-! ### the frame -/

theorem Rep.put {n d : Nat} {E : Env} {a : Act} (h : Rep n E a) (hd : Nat.blt d n = true) (v : Value) : Rep n ((d, v) :: E) (a.put (some d) v) := by
  have hd' : d < n := by simpa using hd
  refine ⟨h.defers, by simp [Act.put, h.size], fun t u ht => ?_⟩
  simp only [get] at ht
  cases hb : Nat.beq d t with
  | true =>
    rw [hb] at ht
    have e : d = t := Nat.eq_of_beq_eq_true hb
    subst e
    simp at ht; subst ht
    simp [Act.put, h.size, hd']
  | false =>
    rw [hb] at ht
    have e : d ≠ t := fun e => by rw [e, Nat.beq_refl] at hb; cases hb
    simp only [Act.put]
    rw [Array.getElem?_setIfInBounds_ne e]
    exact h.val t u ht

theorem Rep.put_none {n : Nat} {E : Env} {a : Act} (h : Rep n E a) (v : Value) : Rep n E (a.put none v) := h

theorem Rep.eval {n : Nat} {E : Env} {a : Act} (h : Rep n E a) {x : Operand} {v : Value} (hx : ev E x = some v) : a.eval x = v := by
  cases x with
  | tmp t =>
    have := h.val t v hx
    simp [Act.eval, Array.getD_eq_getD_getElem?, this]
  | const c => simpa [ev, Act.eval] using hx
  | global g => simpa [ev, Act.eval] using hx
  | func f => simpa [ev, Act.eval] using hx

def Sub (E' E : Env) : Prop := ∀ t v, get E' t = some v → get E t = some v
theorem Rep.sub {n : Nat} {E E' : Env} {a : Act} (h : Rep n E a) (hs : Sub E' E) : Rep n E' a := ⟨h.defers, h.size, fun t v ht => h.val t v (hs t v ht)⟩
theorem Sub.nil (E : Env) : Sub [] E := fun _ _ h => by cases h
theorem Sub.cons {d : Nat} {v : Value} {L E : Env} (h : get E d = some v) (hs : Sub L E) : Sub ((d, v) :: L) E := by
  intro t u ht
  simp only [get] at ht
  cases hb : Nat.beq d t with
  | true => rw [hb] at ht; have e := Nat.eq_of_beq_eq_true hb; subst e; simp at ht; subst ht; exact h
  | false => rw [hb] at ht; exact hs t u ht

/-- what is known of the other slots -/
def drop (m : List Nat) : Env → Env
  | [] => []
  | (d, v) :: E => bif m.elem d then drop m E else (d, v) :: drop m E
theorem get_drop (m : List Nat) (E : Env) (t : Nat) : get (drop m E) t = bif m.elem t then none else get E t := by
  induction E with
  | nil => simp [drop, get]
  | cons p E ih =>
    obtain ⟨d, v⟩ := p
    simp only [drop]
    cases hb : Nat.beq d t with
    | true =>
      have e := Nat.eq_of_beq_eq_true hb; subst e
      cases hm : m.elem d with
      | true => simp only [cond_true]; rw [ih, hm]; rfl
      | false => simp only [cond_false, get, hb, cond_true]
    | false =>
      cases hm : m.elem d with
      | true => simp only [cond_true]; rw [ih]; simp [get, hb]
      | false => simp only [cond_false, get, hb]; exact ih
/-- outside m both know the same -/
def Ext (m : List Nat) (E E' : Env) : Prop := ∀ t, m.elem t = false → get E' t = get E t
theorem Ext.refl (m : List Nat) (E : Env) : Ext m E E := fun _ _ => rfl
theorem Ext.put {m : List Nat} {E E' : Env} {d : Nat} {v : Value} (hd : m.elem d = true) (h : Ext m E E') : Ext m E ((d, v) :: E') := by
  intro t ht
  simp only [get]
  cases hb : Nat.beq d t with
  | true => have e := Nat.eq_of_beq_eq_true hb; subst e; rw [hd] at ht; cases ht
  | false => exact h t ht
theorem Ext.drop {m m' : List Nat} {E E' : Env} (hm : (m'.all fun d => m.elem d) = true) (h : Ext m E E') : Ext m E (drop m' E') := by
  intro t ht
  rw [get_drop]
  cases hq : m'.elem t with
  | true =>
    have := List.all_eq_true.1 hm t (by simpa using hq)
    rw [ht] at this; cases this
  | false => exact h t ht
theorem Ext.sub {m : List Nat} {E E' : Env} (h : Ext m E E') : Sub (Go.Proofs.Yticnkojpfmkjeaa.drop m E) E' := by
  intro t v ht
  rw [get_drop] at ht
  cases hm : m.elem t with
  | true => rw [hm] at ht; cases ht
  | false => rw [h t hm]; rw [hm] at ht; exact ht

/-! ### control -/
section
variable {P : Program} {n : Nat} {W0 : World} {Q : Exit → Act → World → Prop} {E : Env} {H : Heap}

theorem KC.seq {x y : Code} (h : KC P n W0 (Exit.then (y.wp P Q) Q) x E H) : KC P n W0 Q (.seq x y) E H := fun a w ha hw => wp_seq (h a w ha hw)
theorem KQ.seq {y : Code} (h : KC P n W0 Q y E H) : KQ n W0 (Exit.then (y.wp P Q) Q) .normal E H := h
theorem KC.skip (h : KQ n W0 Q .normal E H) : KC P n W0 Q .skip E H := fun a w ha hw => wp_skip (h a w ha hw)
theorem KC.exit {id : Nat} (h : KQ n W0 Q (.exit id) E H) : KC P n W0 Q (.exit id) E H := fun a w ha hw => wp_exit (h a w ha hw)
theorem KC.ret (h : KQ n W0 Q .ret E H) : KC P n W0 Q .ret E H := fun a w ha hw => wp_ret (h a w ha hw)
theorem KQ.exitThen {id : Nat} {N : Act → World → Prop} (h : KQ n W0 Q (.exit id) E H) : KQ n W0 (Exit.then N Q) (.exit id) E H := h
theorem KQ.retThen {N : Act → World → Prop} (h : KQ n W0 Q .ret E H) : KQ n W0 (Exit.then N Q) .ret E H := h
theorem KQ.retBlock {id : Nat} (h : KQ n W0 Q .ret E H) : KQ n W0 (Exit.inBlock id Q) .ret E H := h
theorem KQ.normBlock {id : Nat} (h : KQ n W0 Q .normal E H) : KQ n W0 (Exit.inBlock id Q) .normal E H := h
theorem KQ.hit {id : Nat} (h : KQ n W0 Q .normal E H) : KQ n W0 (Exit.inBlock id Q) (.exit id) E H := fun a w ha hw => by
  show (if id = id then _ else _); rw [if_pos rfl]; exact h a w ha hw
theorem KQ.miss {i id : Nat} (hne : Nat.beq i id = false) (h : KQ n W0 Q (.exit i) E H) : KQ n W0 (Exit.inBlock id Q) (.exit i) E H := fun a w ha hw => by
  show (if i = id then _ else _); rw [if_neg (fun e => by rw [e, Nat.beq_refl] at hne; cases hne)]; exact h a w ha hw
theorem KC.block {id : Nat} {c : Code} (h : KC P n W0 (Exit.inBlock id Q) c E H) : KC P n W0 Q (.block id c) E H := fun a w ha hw => wp_block (h a w ha hw)
theorem KC.condT {c : Operand} {x y : Code} (hc : ev E c = some (.bool true)) (h : KC P n W0 Q x E H) : KC P n W0 Q (.cond c x y) E H := fun a w ha hw => wp_cond_true (ha.eval hc) (h a w ha hw)
theorem KC.condF {c : Operand} {x y : Code} (hc : ev E c = some (.bool false)) (h : KC P n W0 Q y E H) : KC P n W0 Q (.cond c x y) E H := fun a w ha hw => wp_cond_false (ha.eval hc) (h a w ha hw)
theorem KC.condIs {c : Operand} {x y : Code} {b : Bool} (t : Bool) (hc : ev E c = some (.bool b)) (ht : b = t) (h : KC P n W0 Q (bif t then x else y) E H) : KC P n W0 Q (.cond c x y) E H := by
  subst ht
  cases b
  · exact KC.condF hc h
  · exact KC.condT hc h
theorem KC.ite {c : Operand} {x y : Code} {b : Bool} (hc : ev E c = some (.bool b)) (ht : b = true → KC P n W0 Q x E H) (hf : b = false → KC P n W0 Q y E H) : KC P n W0 Q (.cond c x y) E H := by
  cases b
  · exact KC.condF hc (hf rfl)
  · exact KC.condT hc (ht rfl)
theorem KC.dec {c : Operand} {x y : Code} {p : Prop} [Decidable p] (hc : ev E c = some (.bool (decide p))) (ht : p → KC P n W0 Q x E H) (hf : ¬ p → KC P n W0 Q y E H) : KC P n W0 Q (.cond c x y) E H :=
  KC.ite hc (fun h => ht (of_decide_eq_true h)) (fun h => hf (of_decide_eq_false h))
theorem KC.sub {c : Code} {E' : Env} (hs : Sub E' E) (h : KC P n W0 Q c E' H) : KC P n W0 Q c E H := fun a w ha hw => h a w (ha.sub hs) hw
theorem KQ.sub {e : Exit} {E' : Env} (hs : Sub E' E) (h : KQ n W0 Q e E' H) : KQ n W0 Q e E H := fun a w ha hw => h a w (ha.sub hs) hw
theorem KC.region {id : Nat} {l : List Oper} (h : KL P n W0 Q l l E H) : KC P n W0 Q (.region id l.toArray false) E H := fun a w ha hw => wp_region_lit (h a w ha hw)
theorem KL.nil {ops : List Oper} (h : KQ n W0 Q .normal E H) : KL P n W0 Q ops [] E H := h

/-- what holds where ways meet again -/
def Meets (n : Nat) (W0 : World) {κ : Type} (Ek : κ → Env) (I : κ → Heap → Prop) (a : Act) (w : World) : Prop := ∃ k H, I k H ∧ Rep n (Ek k) a ∧ St W0 H w
theorem KC.cut {κ : Type} {c : Code} (Ek : κ → Env) (I : κ → Heap → Prop) (h : KC P n W0 (Exit.then (Meets n W0 Ek I) Q) c E H) (k : ∀ x H', I x H' → KQ n W0 Q .normal (Ek x) H') : KC P n W0 Q c E H :=
  fun a w ha hw => wp_mono (h a w ha hw) fun e a' w' hq => by
    cases e with
    | normal => obtain ⟨x, H', hI, hr, hs⟩ := hq; exact k x H' hI a' w' hr hs
    | _ => exact hq
theorem KQ.meet {κ : Type} {Ek : κ → Env} {I : κ → Heap → Prop} (x : κ) (hs : Sub (Ek x) E) (hI : I x H) : KQ n W0 (Exit.then (Meets n W0 Ek I) Q) .normal E H := fun a w ha hw => ⟨x, H, hI, ha.sub hs, hw⟩

theorem wp_loop_at {c : Code} {a : Act} {w : World} (I : Nat → Act → World → Prop) (h₀ : ∃ m, I m a w)
    (round : ∀ m a w, I m a w → c.wp P (Exit.then (fun a' w' => ∃ m', m' < m ∧ I m' a' w') Q) a w) : (Code.loop c).wp P Q a w := by
  intro b k cs
  have key : ∀ n a w, I n a w → ∃ e a' w', Q e a' w' ∧ Arrives P (lone (b.at a (.code c :: .inLoop c :: k)) cs w) b k cs e a' w' := by
    intro n
    induction n using Nat.strongRecOn with
    | _ n ih =>
      intro a w hI
      obtain ⟨e, a₁, w₁, hq, harr⟩ := round n a w hI b (.inLoop c :: k) cs
      cases e with
      | normal =>
        obtain ⟨m', hlt, hI₁⟩ := hq
        obtain ⟨e₂, a₂, w₂, hq₂, harr₂⟩ := ih m' hlt a₁ w₁ hI₁
        exact ⟨e₂, a₂, w₂, hq₂, .of_steps (Steps.trans harr (.one step_inLoop)) harr₂⟩
      | exit id => exact ⟨_, a₁, w₁, hq, .pass (x := .inLoop c) rfl (fun _ _ => .inl (by simp)) harr⟩
      | goto l => exact ⟨_, a₁, w₁, hq, .pass (x := .inLoop c) rfl (fun _ _ => .inl (by simp)) harr⟩
      | ret => exact ⟨_, a₁, w₁, hq, .pass (x := .inLoop c) rfl (fun _ _ => .inl (by simp)) harr⟩
      | panic ch => exact ⟨_, a₁, w₁, hq, .pass (x := .inLoop c) rfl (fun _ _ => .inl (by simp)) harr⟩
      | outgrown => exact ⟨_, a₁, w₁, hq, .pass (x := .inLoop c) rfl (fun _ _ => .inl (by simp)) harr⟩
  obtain ⟨m, h₀⟩ := h₀
  obtain ⟨e, a', w', hq, harr⟩ := key m a w h₀
  exact ⟨e, a', w', hq, .of_steps (.one step_loop) harr⟩

/-- a loop's round is done -/
def Again (n : Nat) (W0 : World) {κ : Type} (Ek : κ → Env) (I : κ → Heap → Prop) (μ : κ → Nat) (m : Nat) (a : Act) (w : World) : Prop := ∃ k H, μ k < m ∧ I k H ∧ Rep n (Ek k) a ∧ St W0 H w
theorem KC.loop {κ : Type} {c : Code} (Ek : κ → Env) (I : κ → Heap → Prop) (μ : κ → Nat) (k0 : κ) (hs : Sub (Ek k0) E) (h0 : I k0 H)
    (round : ∀ k H', I k H' → KC P n W0 (Exit.then (Again n W0 Ek I μ (μ k)) Q) c (Ek k) H') : KC P n W0 Q (.loop c) E H := by
  intro a w ha hw
  refine wp_loop_at (fun m a w => ∃ k H, μ k = m ∧ I k H ∧ Rep n (Ek k) a ∧ St W0 H w) ⟨_, k0, H, rfl, h0, ha.sub hs, hw⟩ ?_
  rintro m a w ⟨k, H', rfl, hI, hr, hst⟩
  refine wp_mono (round k H' hI a w hr hst) fun e a' w' hq => ?_
  cases e with
  | normal =>
    obtain ⟨k', H'', hlt, hI', hr', hst'⟩ := hq
    exact ⟨_, hlt, k', H'', rfl, hI', hr', hst'⟩
  | _ => exact hq
theorem KQ.again {κ : Type} {Ek : κ → Env} {I : κ → Heap → Prop} {μ : κ → Nat} {m : Nat} (k : κ) (hs : Sub (Ek k) E) (hμ : μ k < m) (hI : I k H) : KQ n W0 (Exit.then (Again n W0 Ek I μ m) Q) .normal E H :=
  fun a w ha hw => ⟨k, H, hμ, hI, ha.sub hs, hw⟩

/-- .. with the slots that the body writes and that are read later told by L, the others dropped -/
theorem KC.loopD {κ : Type} {c : Code} (m : List Nat) (L : κ → Env) (I : κ → Heap → Prop) (μ : κ → Nat) (k0 : κ) (hs : Sub (L k0 ++ drop m E) E) (h0 : I k0 H)
    (round : ∀ k H', I k H' → KC P n W0 (Exit.then (Again n W0 (fun k => L k ++ drop m E) I μ (μ k)) Q) c (L k ++ drop m E) H') : KC P n W0 Q (.loop c) E H :=
  KC.loop (fun k => L k ++ drop m E) I μ k0 hs h0 round
theorem KC.cutD {κ : Type} {c : Code} (m : List Nat) (L : κ → Env) (I : κ → Heap → Prop) (h : KC P n W0 (Exit.then (Meets n W0 (fun k => L k ++ drop m E) I) Q) c E H) (k : ∀ x H', I x H' → KQ n W0 Q .normal (L x ++ drop m E) H') : KC P n W0 Q c E H :=
  KC.cut (fun k => L k ++ drop m E) I h k

/-! ### a function's beginning and end -/
/-- what is asked at a function's end -/
def Post (P : Program) (fn : Func) (W0 : World) (R : Value → Heap → Prop) : Exit → Act → World → Prop := bodyPost P fn (fun e w' => ∃ v, e = .returned v ∧ St W0 w'.heap w' ∧ R v w'.heap)

def argEnv : Nat → List Value → Env
  | _, [] => []
  | i, v :: l => (i, v) :: argEnv (i + 1) l
theorem get_argEnv (l : List Value) (i t : Nat) : get (argEnv i l) t = if t < i then none else l[t - i]? := by
  induction l generalizing i with
  | nil => simp [argEnv, get]
  | cons v l ih =>
    simp only [argEnv, get]
    cases hb : Nat.beq i t with
    | true => have e := Nat.eq_of_beq_eq_true hb; subst e; simp
    | false =>
      have hne : i ≠ t := fun e => by rw [e, Nat.beq_refl] at hb; cases hb
      simp only [cond_false]
      rw [ih]
      by_cases h : t < i
      · rw [if_pos (by omega), if_pos h]
      · rw [if_neg (by omega), if_neg h]
        rw [show t - i = (t - (i + 1)) + 1 by omega]; rfl

theorem Ct.mk {f : FuncId} {fn : Func} {c : Code} {args : List Value} {R : Value → Heap → Prop} (hf : P.funcs[f]? = some fn) (hb : fn.body = some c) (hn : fn.ntmps = n) (hle : Nat.ble args.length n = true)
    (h : ∀ W0 : World, W0.heap = H → KC P n W0 (Post P fn W0 R) c (argEnv 0 args) H) : Ct P f args H R := by
  intro w hw
  have hle' : args.length ≤ n := by simpa using hle
  refine calls_of_wp hf hb (h w hw _ w ⟨rfl, by simp [hn]; omega, ?_⟩ ⟨hw, rfl, rfl, rfl⟩)
  intro t v ht
  rw [get_argEnv] at ht
  simp only [Nat.not_lt_zero, if_false, Nat.sub_zero] at ht
  have hlt := (List.getElem?_eq_some_iff.1 ht).1
  rw [Array.getElem?_append_left (by simpa using hlt)]
  simpa using ht

theorem KQ.ofRet {fn : Func} {R : Value → Heap → Prop} (h : KQ n W0 (Post P fn W0 R) .normal E H) : KQ n W0 (Post P fn W0 R) .ret E H := h
theorem KQ.fin {fn : Func} {R : Value → Heap → Prop} (v : Value) (hr : ∀ a w, Rep n E a → w.heap = H → (results fn a.tmps).run P w = .ok v w) (hR : R v H) : KQ n W0 (Post P fn W0 R) .normal E H := by
  intro a w ha hw
  refine ⟨ha.defers, v, hr a w ha hw.heap, v, rfl, ⟨rfl, hw.os, hw.tape, hw.output⟩, ?_⟩
  rw [hw.heap]; exact hR
theorem KQ.fin0 {fn : Func} {R : Value → Heap → Prop} (hr : fn.results = #[]) (hR : R (.tuple #[]) H) : KQ n W0 (Post P fn W0 R) .normal E H :=
  KQ.fin _ (fun a w ha hw => by simp [results, hr, go_sem]) hR
theorem KQ.fin1 {fn : Func} {R : Value → Heap → Prop} {t : Nat} {v : Value} (hr : fn.results = #[.tmp t]) (ht : get E t = some v) (hR : R v H) : KQ n W0 (Post P fn W0 R) .normal E H :=
  KQ.fin _ (fun a w ha hw => by have := ha.val t v ht; simp [results, hr, go_sem, Array.getD_eq_getD_getElem?, this]) hR
theorem KQ.fin2 {fn : Func} {R : Value → Heap → Prop} {t u : Nat} {v x : Value} (hr : fn.results = #[.tmp t, .tmp u]) (ht : get E t = some v) (hu : get E u = some x) (hR : R (.tuple #[v, x]) H) : KQ n W0 (Post P fn W0 R) .normal E H :=
  KQ.fin _ (fun a w ha hw => by have h1 := ha.val t v ht; have h2 := ha.val u x hu; simp [results, hr, go_sem, Array.getD_eq_getD_getElem?, h1, h2]) hR
theorem KQ.fin3 {fn : Func} {R : Value → Heap → Prop} {t u s : Nat} {v x y : Value} (hr : fn.results = #[.tmp t, .tmp u, .tmp s]) (ht : get E t = some v) (hu : get E u = some x) (hs : get E s = some y) (hR : R (.tuple #[v, x, y]) H) : KQ n W0 (Post P fn W0 R) .normal E H :=
  KQ.fin _ (fun a w ha hw => by have h1 := ha.val t v ht; have h2 := ha.val u x hu; have h3 := ha.val s y hs; simp [results, hr, go_sem, Array.getD_eq_getD_getElem?, h1, h2, h3]) hR
end
end Go.Proofs.Yticnkojpfmkjeaa
