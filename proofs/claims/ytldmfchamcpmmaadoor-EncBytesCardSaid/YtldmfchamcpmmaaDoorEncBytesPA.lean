/- What the proof of EncBytes leans on, part 1. No condition but those that each law states. -/
import Derived.Test.YtldmfchamcpmmaaDoorRows
import Derived.WalkKit
import Derived.Deep.Quiet
import Derived.Below
import Derived.WalkLawsBesides
import Derived.Lib.Hide
import Derived.Laws.AppendOwnNone
import Derived.Laws.CopyRow
import Derived.Laws.Tables
import Derived.Orders
import Derived.Deep.Slices
import Derived.Deep.Fields
import Derived.OpenShut
import Derived.Lib.AppendZerosOnto
import Derived.Maps.AppendAt
import Derived.ChangeKeysEq
import Derived.Laws.BytesString
import Derived.Lib.SlBytesConst
import Derived.Laws.IdiomStrings
import Derived.Lib.AppendStr
import Derived.Lib.EndianZ
import Derived.WalkSpells
import Derived.Lib.ItoaNum
import Derived.Lib.DecodeN
import Derived.Lib.ValidLaws
import Derived.Lib.EndianBits
set_option maxHeartbeats 4000000
set_option maxRecDepth 100000
namespace Go.Proofs.YtldmfchamcpmmaaDoor
open Go
theorem inf3 : (Tryd.prog.info? 3).map (fun i => (i.zero, i.size, i.bytes)) = some (some (.int .i64 0), 1, 8) := by kernel_rfl
theorem inf5 : (Tryd.prog.info? 5).map (fun i => (i.zero, i.size, i.bytes)) = some (some (.int .u8 0), 1, 1) := by kernel_rfl
theorem inf71 : (Tryd.prog.info? 71).map (fun i => (i.zero, i.size, i.bytes)) = some (some (.agg #[(.int .u8 0), (.slice none 0 0)]), 2, 32) := by kernel_rfl
theorem sz2 : (Tryd.prog.info? 2).map (·.size) = some 1 := by kernel_rfl
theorem sz3 : (Tryd.prog.info? 3).map (·.size) = some 1 := by kernel_rfl
theorem sz4 : (Tryd.prog.info? 4).map (·.size) = some 1 := by kernel_rfl
theorem sz5 : (Tryd.prog.info? 5).map (·.size) = some 1 := by kernel_rfl
theorem sz9 : (Tryd.prog.info? 9).map (·.size) = some 1 := by kernel_rfl
theorem sz24 : (Tryd.prog.info? 24).map (·.size) = some 1 := by kernel_rfl
theorem sz28 : (Tryd.prog.info? 28).map (·.size) = some 1 := by kernel_rfl
theorem sz33 : (Tryd.prog.info? 33).map (·.size) = some 12 := by kernel_rfl
theorem sz36 : (Tryd.prog.info? 36).map (·.size) = some 1 := by kernel_rfl
theorem sz44 : (Tryd.prog.info? 44).map (·.size) = some 2 := by kernel_rfl
theorem sz47 : (Tryd.prog.info? 47).map (·.size) = some 2 := by kernel_rfl
theorem sz49 : (Tryd.prog.info? 49).map (·.size) = some 2 := by kernel_rfl
theorem sz51 : (Tryd.prog.info? 51).map (·.size) = some 8 := by kernel_rfl
theorem sz52 : (Tryd.prog.info? 52).map (·.size) = some 1 := by kernel_rfl
theorem sz54 : (Tryd.prog.info? 54).map (·.size) = some 3 := by kernel_rfl
theorem sz56 : (Tryd.prog.info? 56).map (·.size) = some 1 := by kernel_rfl
theorem sz58 : (Tryd.prog.info? 58).map (·.size) = some 2 := by kernel_rfl
theorem sz60 : (Tryd.prog.info? 60).map (·.size) = some 2 := by kernel_rfl
theorem sz62 : (Tryd.prog.info? 62).map (·.size) = some 3 := by kernel_rfl
theorem sz64 : (Tryd.prog.info? 64).map (·.size) = some 3 := by kernel_rfl
theorem sz66 : (Tryd.prog.info? 66).map (·.size) = some 1 := by kernel_rfl
theorem sz71 : (Tryd.prog.info? 71).map (·.size) = some 2 := by kernel_rfl
theorem sz76 : (Tryd.prog.info? 76).map (·.size) = some 3 := by kernel_rfl
theorem sz127 : (Tryd.prog.info? 127).map (·.size) = some 5 := by kernel_rfl
theorem sz222 : (Tryd.prog.info? 222).map (·.size) = some 1 := by kernel_rfl
theorem sz229 : (Tryd.prog.info? 229).map (·.size) = some 5 := by kernel_rfl
theorem sz237 : (Tryd.prog.info? 237).map (·.size) = some 2 := by kernel_rfl
theorem sz240 : (Tryd.prog.info? 240).map (·.size) = some 4 := by kernel_rfl
theorem zr5 : (Tryd.prog.info? 5).map (·.zero) = some (some (.int .u8 0)) := by kernel_rfl
theorem zr33 : (Tryd.prog.info? 33).map (·.zero) = some (some (.agg #[(.slice none 0 0), (.slice none 0 0), (.slice none 0 0), (.slice none 0 0), (.slice none 0 0), (.slice none 0 0), (.slice none 0 0), (.bool false), (.int .u32 0), (.slice none 0 0), (.slice none 0 0), (.slice none 0 0)])) := by kernel_rfl
theorem zr44 : (Tryd.prog.info? 44).map (·.zero) = some (some (.agg #[(.slice none 0 0), (.slice none 0 0)])) := by kernel_rfl
theorem zr47 : (Tryd.prog.info? 47).map (·.zero) = some (some (.agg #[(.int .u32 0), (.int .i64 0)])) := by kernel_rfl
theorem zr49 : (Tryd.prog.info? 49).map (·.zero) = some (some (.agg #[(.int .u8 0), (.bool false)])) := by kernel_rfl
theorem zr51 : (Tryd.prog.info? 51).map (·.zero) = some (some (.agg #[(.string ⟨#[]⟩), (.string ⟨#[]⟩), (.int .u8 0), (.int .u32 0), (.int .u32 0), (.int .i64 0), (.int .u8 0), (.bool false)])) := by kernel_rfl
theorem zr54 : (Tryd.prog.info? 54).map (·.zero) = some (some (.agg #[(.int .u8 0), (.bool false), (.slice none 0 0)])) := by kernel_rfl
theorem zr58 : (Tryd.prog.info? 58).map (·.zero) = some (some (.agg #[(.slice none 0 0), (.slice none 0 0)])) := by kernel_rfl
theorem zr60 : (Tryd.prog.info? 60).map (·.zero) = some (some (.agg #[(.int .u32 0), (.int .u8 0)])) := by kernel_rfl
theorem zr62 : (Tryd.prog.info? 62).map (·.zero) = some (some (.agg #[(.int .u32 0), (.slice none 0 0), (.slice none 0 0)])) := by kernel_rfl
theorem zr64 : (Tryd.prog.info? 64).map (·.zero) = some (some (.agg #[(.int .u32 0), (.slice none 0 0), (.slice none 0 0)])) := by kernel_rfl
theorem zr71 : (Tryd.prog.info? 71).map (·.zero) = some (some (.agg #[(.int .u8 0), (.slice none 0 0)])) := by kernel_rfl
theorem zr76 : (Tryd.prog.info? 76).map (·.zero) = some (some (.agg #[(.string ⟨#[]⟩), (.int .u8 0), (.int .u32 0)])) := by kernel_rfl
theorem zr80 : (Tryd.prog.info? 80).map (·.zero) = some (some (.agg #[(.slice none 0 0), (.bool false)])) := by kernel_rfl
theorem zr127 : (Tryd.prog.info? 127).map (·.zero) = some (some (.agg #[(.int .u8 0), (.int .u32 0), (.int .u32 0), (.int .i64 0), (.slice none 0 0)])) := by kernel_rfl
theorem zr137 : (Tryd.prog.info? 137).map (·.zero) = some (some (.agg #[(.slice none 0 0), (.bool false)])) := by kernel_rfl
theorem zr222 : (Tryd.prog.info? 222).map (·.zero) = some (some (.slice none 0 0)) := by kernel_rfl
theorem zr229 : (Tryd.prog.info? 229).map (·.zero) = some (some (.agg #[(.int .u8 0), (.string ⟨#[]⟩), (.int .u8 0), (.string ⟨#[]⟩), (.int .i64 0)])) := by kernel_rfl
theorem zr237 : (Tryd.prog.info? 237).map (·.zero) = some (some (.agg #[(.int .u8 0), (.int .u8 0)])) := by kernel_rfl
theorem zr240 : (Tryd.prog.info? 240).map (·.zero) = some (some (.agg #[(.bool false), (.bool false), (.bool false), (.bool false)])) := by kernel_rfl
theorem zs3 : (Tryd.prog.info? 3).map (fun i => (i.zero, i.size)) = some (some (.int .i64 0), 1) := by kernel_rfl
theorem zs5 : (Tryd.prog.info? 5).map (fun i => (i.zero, i.size)) = some (some (.int .u8 0), 1) := by kernel_rfl
theorem zs28 : (Tryd.prog.info? 28).map (fun i => (i.zero, i.size)) = some (some (.int .u32 0), 1) := by kernel_rfl
theorem zs33 : (Tryd.prog.info? 33).map (fun i => (i.zero, i.size)) = some (some (.agg #[(.slice none 0 0), (.slice none 0 0), (.slice none 0 0), (.slice none 0 0), (.slice none 0 0), (.slice none 0 0), (.slice none 0 0), (.bool false), (.int .u32 0), (.slice none 0 0), (.slice none 0 0), (.slice none 0 0)]), 12) := by kernel_rfl
theorem zs44 : (Tryd.prog.info? 44).map (fun i => (i.zero, i.size)) = some (some (.agg #[(.slice none 0 0), (.slice none 0 0)]), 2) := by kernel_rfl
theorem zs51 : (Tryd.prog.info? 51).map (fun i => (i.zero, i.size)) = some (some (.agg #[(.string ⟨#[]⟩), (.string ⟨#[]⟩), (.int .u8 0), (.int .u32 0), (.int .u32 0), (.int .i64 0), (.int .u8 0), (.bool false)]), 8) := by kernel_rfl
theorem zs54 : (Tryd.prog.info? 54).map (fun i => (i.zero, i.size)) = some (some (.agg #[(.int .u8 0), (.bool false), (.slice none 0 0)]), 3) := by kernel_rfl
theorem zs58 : (Tryd.prog.info? 58).map (fun i => (i.zero, i.size)) = some (some (.agg #[(.slice none 0 0), (.slice none 0 0)]), 2) := by kernel_rfl
theorem zs71 : (Tryd.prog.info? 71).map (fun i => (i.zero, i.size)) = some (some (.agg #[(.int .u8 0), (.slice none 0 0)]), 2) := by kernel_rfl
theorem zs229 : (Tryd.prog.info? 229).map (fun i => (i.zero, i.size)) = some (some (.agg #[(.int .u8 0), (.string ⟨#[]⟩), (.int .u8 0), (.string ⟨#[]⟩), (.int .i64 0)]), 5) := by kernel_rfl
end Go.Proofs.YtldmfchamcpmmaaDoor
namespace Go.Proofs.YtldmfchamcpmmaaDoor
open Go Go.RowKit
set_option linter.unusedVariables false
abbrev Heap := Array Obj
abbrev Env := List (Nat × Value)
def get : Env → Nat → Option Value
  | [], _ => none
  | (d, v) :: E, t => bif Nat.beq d t then some v else get E t
def nth {α : Type} : List α → Nat → Option α
  | [], _ => none
  | x :: _, 0 => some x
  | _ :: l, n + 1 => nth l n
theorem nth_eq {α : Type} (l : List α) (n : Nat) : nth l n = l[n]? := by
  induction l generalizing n with
  | nil => rfl
  | cons x l ih => cases n <;> simp [nth, ih]
def ev (E : Env) : Operand → Option Value
  | .tmp t => get E t
  | .const v => some v
  | .global g => some (.pointer (some ⟨g, 0, none⟩))
  | .func f => some (.func (.func f) #[] #[])
def evs (E : Env) : List Operand → Option (List Value)
  | [] => some []
  | x :: l => match ev E x, evs E l with
    | some v, some vs => some (v :: vs)
    | _, _ => none
structure Rep (n : Nat) (E : Env) (a : Act) : Prop where
  defers : a.defers = []
  size : a.tmps.size = n
  val : ∀ t v, get E t = some v → a.tmps[t]? = some v
structure St (W0 : World) (H : Heap) (w : World) : Prop where
  heap : w.heap = H
  os : w.os = W0.os
  tape : w.tape = W0.tape
  output : w.output = W0.output
theorem St.refl (w : World) : St w w.heap w := ⟨rfl, rfl, rfl, rfl⟩
theorem St.trans {W0 w w' : World} {H H' : Heap} (h : St W0 H w) (k : St w H' w') : St W0 H' w' := ⟨k.heap, k.os.trans h.os, k.tape.trans h.tape, k.output.trans h.output⟩
def KC (P : Program) (n : Nat) (W0 : World) (Q : Exit → Act → World → Prop) (c : Code) (E : Env) (H : Heap) : Prop := ∀ a w, Rep n E a → St W0 H w → c.wp P Q a w
def KL (P : Program) (n : Nat) (W0 : World) (Q : Exit → Act → World → Prop) (ops l : List Oper) (E : Env) (H : Heap) : Prop := ∀ a w, Rep n E a → St W0 H w → wpList P ops.toArray Q l a w
def KQ (n : Nat) (W0 : World) (Q : Exit → Act → World → Prop) (e : Exit) (E : Env) (H : Heap) : Prop := ∀ a w, Rep n E a → St W0 H w → Q e a w
/-- what was there is there -/
def Old (H H' : Heap) : Prop := H.size ≤ H'.size ∧ ∀ k, k < H.size → H'[k]? = H[k]?
theorem Old.refl (H : Heap) : Old H H := ⟨Nat.le_refl _, fun _ _ => rfl⟩
theorem Old.trans {A B C : Heap} (h : Old A B) (k : Old B C) : Old A C := ⟨Nat.le_trans h.1 k.1, fun i hi => (k.2 i (Nat.lt_of_lt_of_le hi h.1)).trans (h.2 i hi)⟩
/-- block g alone is written -/
def Upd (g : Nat) (H H' : Heap) : Prop := H'.size = H.size ∧ ∀ k, k ≠ g → H'[k]? = H[k]?
theorem Old.upd {A B C : Heap} {g : Nat} (h : Old A B) (k : Upd g B C) (hg : A.size ≤ g) : Old A C :=
  ⟨by have := h.1; have := k.1; omega, fun i hi => (k.2 i (by omega)).trans (h.2 i hi)⟩
theorem Old.blk {A B : Heap} (h : Old A B) {g : Nat} {o : Obj} (hg : A[g]? = some o) : B[g]? = some o := by
  rw [h.2 g (Array.getElem?_eq_some_iff.1 hg).1]; exact hg
theorem Old.le {A B : Heap} (h : Old A B) : A.size ≤ B.size := h.1
theorem blk_lt {A : Heap} {g : Nat} {o : Obj} (hg : A[g]? = some o) : g < A.size := (Array.getElem?_eq_some_iff.1 hg).1
/-- below block B all is as it was -/
def OldB (B : Nat) (H H' : Heap) : Prop := H.size ≤ H'.size ∧ ∀ k, k < B → H'[k]? = H[k]?
theorem OldB.refl (B : Nat) (H : Heap) : OldB B H H := ⟨Nat.le_refl _, fun _ _ => rfl⟩
theorem OldB.trans {B : Nat} {X Y Z : Heap} (h : OldB B X Y) (k : OldB B Y Z) : OldB B X Z := ⟨Nat.le_trans h.1 k.1, fun i hi => (k.2 i hi).trans (h.2 i hi)⟩
theorem OldB.mono {B B' : Nat} {X Y : Heap} (h : OldB B X Y) (hB : B' ≤ B) : OldB B' X Y := ⟨h.1, fun i hi => h.2 i (by omega)⟩
theorem OldB.upd {B g : Nat} {X Y : Heap} (h : Upd g X Y) (hg : B ≤ g) : OldB B X Y := ⟨by have := h.1; omega, fun i hi => h.2 i (by omega)⟩
theorem Old.b {B : Nat} {X Y : Heap} (h : Old X Y) (hB : B ≤ X.size) : OldB B X Y := ⟨h.1, fun i hi => h.2 i (by omega)⟩
theorem Old.then {B : Nat} {X Y Z : Heap} (h : Old X Y) (k : OldB B Y Z) (hB : X.size ≤ B) : Old X Z := ⟨Nat.le_trans h.1 k.1, fun i hi => (k.2 i (by omega)).trans (h.2 i hi)⟩
theorem OldB.old {X Y : Heap} (h : OldB X.size X Y) : Old X Y := h
/-- a cell -/
def cellH (H : Heap) (a : Addr) : Option Value := match H[a.block]? with
  | some (.cells c _ _) => if a.spot.isSome then none else c[a.off]?
  | _ => none
theorem cell_of {H : Heap} {g i : Nat} {cs : List Value} {t : TypeId} {z : Nat × Nat} {v : Value} (hb : H[g]? = some (.cells cs.toArray t z)) (hv : nth cs i = some v) : cellH H ⟨g, i, none⟩ = some v := by
  rw [nth_eq] at hv
  simp [cellH, hb, hv]
theorem cell_lt {H : Heap} {a : Addr} {v : Value} (h : cellH H a = some v) : a.block < H.size := by
  unfold cellH at h
  cases hq : H[a.block]? with
  | none => rw [hq] at h; cases h
  | some o => exact blk_lt hq
theorem Old.cell {A B : Heap} (h : Old A B) {a : Addr} {v : Value} (hc : cellH A a = some v) : cellH B a = some v := by
  have := h.2 a.block (cell_lt hc)
  unfold cellH at *
  rw [this]; exact hc
/-- A function's contract: what it hands back, and memory behind it. -/
def Ct (P : Program) (f : FuncId) (args : List Value) (H : Heap) (R : Value → Heap → Prop) : Prop :=
  ∀ w, w.heap = H → Calls P f args.toArray w fun e w' => ∃ v, e = .returned v ∧ St w w'.heap w' ∧ R v w'.heap
theorem Ct.mono {P : Program} {f : FuncId} {args : List Value} {H : Heap} {R R' : Value → Heap → Prop} (h : Ct P f args H R) (hr : ∀ v H', R v H' → R' v H') : Ct P f args H R' :=
  fun w hw => (h w hw).mono fun _ _ ⟨v, he, hs, hR⟩ => ⟨v, he, hs, hr _ _ hR⟩
/-! ### the frame -/
theorem Rep.put {n d : Nat} {E : Env} {a : Act} (h : Rep n E a) (hd : Nat.blt d n = true) (v : Value) : Rep n ((d, v) :: E) (a.put (some d) v) := by
  have hd' : d < n := by simpa using hd
  refine ⟨h.defers, by simp [Act.put, h.size], fun t u ht => ?_⟩
  simp only [get] at ht
  cases hb : Nat.beq d t with
  | true =>
    rw [hb] at ht
    have e : d = t := Nat.eq_of_beq_eq_true hb
    subst e
    simp at ht; subst ht
    simp [Act.put, h.size, hd']
  | false =>
    rw [hb] at ht
    have e : d ≠ t := fun e => by rw [e, Nat.beq_refl] at hb; cases hb
    simp only [Act.put]
    rw [Array.getElem?_setIfInBounds_ne e]
    exact h.val t u ht
theorem Rep.eval {n : Nat} {E : Env} {a : Act} (h : Rep n E a) {x : Operand} {v : Value} (hx : ev E x = some v) : a.eval x = v := by
  cases x with
  | tmp t =>
    have := h.val t v hx
    simp [Act.eval, Array.getD_eq_getD_getElem?, this]
  | const c => simpa [ev, Act.eval] using hx
  | global g => simpa [ev, Act.eval] using hx
  | func f => simpa [ev, Act.eval] using hx
def Sub (E' E : Env) : Prop := ∀ t v, get E' t = some v → get E t = some v
theorem Rep.sub {n : Nat} {E E' : Env} {a : Act} (h : Rep n E a) (hs : Sub E' E) : Rep n E' a := ⟨h.defers, h.size, fun t v ht => h.val t v (hs t v ht)⟩
theorem Sub.nil (E : Env) : Sub [] E := fun _ _ h => by cases h
theorem Sub.cons {d : Nat} {v : Value} {L E : Env} (h : get E d = some v) (hs : Sub L E) : Sub ((d, v) :: L) E := by
  intro t u ht
  simp only [get] at ht
  cases hb : Nat.beq d t with
  | true => rw [hb] at ht; have e := Nat.eq_of_beq_eq_true hb; subst e; simp at ht; subst ht; exact h
  | false => rw [hb] at ht; exact hs t u ht
/-- what is known of the other slots -/
def drop (m : List Nat) : Env → Env
  | [] => []
  | (d, v) :: E => bif m.elem d then drop m E else (d, v) :: drop m E
theorem get_drop (m : List Nat) (E : Env) (t : Nat) : get (drop m E) t = bif m.elem t then none else get E t := by
  induction E with
  | nil => simp [drop, get]
  | cons p E ih =>
    obtain ⟨d, v⟩ := p
    simp only [drop]
    cases hb : Nat.beq d t with
    | true =>
      have e := Nat.eq_of_beq_eq_true hb; subst e
      cases hm : m.elem d with
      | true => simp only [cond_true]; rw [ih, hm]; rfl
      | false => simp only [cond_false, get, hb, cond_true]
    | false =>
      cases hm : m.elem d with
      | true => simp only [cond_true]; rw [ih]; simp [get, hb]
      | false => simp only [cond_false, get, hb]; exact ih
/-! ### control -/
section
variable {P : Program} {n : Nat} {W0 : World} {Q : Exit → Act → World → Prop} {E : Env} {H : Heap}
theorem KC.seq {x y : Code} (h : KC P n W0 (Exit.then (y.wp P Q) Q) x E H) : KC P n W0 Q (.seq x y) E H := fun a w ha hw => wp_seq (h a w ha hw)
theorem KQ.seq {y : Code} (h : KC P n W0 Q y E H) : KQ n W0 (Exit.then (y.wp P Q) Q) .normal E H := h
theorem KC.skip (h : KQ n W0 Q .normal E H) : KC P n W0 Q .skip E H := fun a w ha hw => wp_skip (h a w ha hw)
theorem KC.exit {id : Nat} (h : KQ n W0 Q (.exit id) E H) : KC P n W0 Q (.exit id) E H := fun a w ha hw => wp_exit (h a w ha hw)
theorem KC.ret (h : KQ n W0 Q .ret E H) : KC P n W0 Q .ret E H := fun a w ha hw => wp_ret (h a w ha hw)
theorem KQ.exitThen {id : Nat} {N : Act → World → Prop} (h : KQ n W0 Q (.exit id) E H) : KQ n W0 (Exit.then N Q) (.exit id) E H := h
theorem KQ.retThen {N : Act → World → Prop} (h : KQ n W0 Q .ret E H) : KQ n W0 (Exit.then N Q) .ret E H := h
theorem KQ.retBlock {id : Nat} (h : KQ n W0 Q .ret E H) : KQ n W0 (Exit.inBlock id Q) .ret E H := h
theorem KQ.normBlock {id : Nat} (h : KQ n W0 Q .normal E H) : KQ n W0 (Exit.inBlock id Q) .normal E H := h
theorem KQ.hit {id : Nat} (h : KQ n W0 Q .normal E H) : KQ n W0 (Exit.inBlock id Q) (.exit id) E H := fun a w ha hw => by
  show (if id = id then _ else _); rw [if_pos rfl]; exact h a w ha hw
theorem KC.block {id : Nat} {c : Code} (h : KC P n W0 (Exit.inBlock id Q) c E H) : KC P n W0 Q (.block id c) E H := fun a w ha hw => wp_block (h a w ha hw)
theorem KC.condT {c : Operand} {x y : Code} (hc : ev E c = some (.bool true)) (h : KC P n W0 Q x E H) : KC P n W0 Q (.cond c x y) E H := fun a w ha hw => wp_cond_true (ha.eval hc) (h a w ha hw)
theorem KC.condF {c : Operand} {x y : Code} (hc : ev E c = some (.bool false)) (h : KC P n W0 Q y E H) : KC P n W0 Q (.cond c x y) E H := fun a w ha hw => wp_cond_false (ha.eval hc) (h a w ha hw)
theorem KC.condIs {c : Operand} {x y : Code} {b : Bool} (t : Bool) (hc : ev E c = some (.bool b)) (ht : b = t) (h : KC P n W0 Q (bif t then x else y) E H) : KC P n W0 Q (.cond c x y) E H := by
  subst ht
  cases b
  · exact KC.condF hc h
  exact KC.condT hc h
theorem KC.sub {c : Code} {E' : Env} (hs : Sub E' E) (h : KC P n W0 Q c E' H) : KC P n W0 Q c E H := fun a w ha hw => h a w (ha.sub hs) hw
theorem KQ.sub {e : Exit} {E' : Env} (hs : Sub E' E) (h : KQ n W0 Q e E' H) : KQ n W0 Q e E H := fun a w ha hw => h a w (ha.sub hs) hw
theorem KC.region {id : Nat} {l : List Oper} (h : KL P n W0 Q l l E H) : KC P n W0 Q (.region id l.toArray false) E H := fun a w ha hw => wp_region_lit (h a w ha hw)
theorem KL.nil {ops : List Oper} (h : KQ n W0 Q .normal E H) : KL P n W0 Q ops [] E H := h
/-- what holds where ways meet again -/
def Meets (n : Nat) (W0 : World) {κ : Type} (Ek : κ → Env) (I : κ → Heap → Prop) (a : Act) (w : World) : Prop := ∃ k H, I k H ∧ Rep n (Ek k) a ∧ St W0 H w
theorem KC.cut {κ : Type} {c : Code} (Ek : κ → Env) (I : κ → Heap → Prop) (h : KC P n W0 (Exit.then (Meets n W0 Ek I) Q) c E H) (k : ∀ x H', I x H' → KQ n W0 Q .normal (Ek x) H') : KC P n W0 Q c E H :=
  fun a w ha hw => wp_mono (h a w ha hw) fun e a' w' hq => by
    cases e with
    | normal => obtain ⟨x, H', hI, hr, hs⟩ := hq; exact k x H' hI a' w' hr hs
    | _ => exact hq
theorem KQ.meet {κ : Type} {Ek : κ → Env} {I : κ → Heap → Prop} (x : κ) (hs : Sub (Ek x) E) (hI : I x H) : KQ n W0 (Exit.then (Meets n W0 Ek I) Q) .normal E H := fun a w ha hw => ⟨x, H, hI, ha.sub hs, hw⟩
theorem wp_loop_at {c : Code} {a : Act} {w : World} (I : Nat → Act → World → Prop) (h₀ : ∃ m, I m a w)
    (round : ∀ m a w, I m a w → c.wp P (Exit.then (fun a' w' => ∃ m', m' < m ∧ I m' a' w') Q) a w) : (Code.loop c).wp P Q a w := by
  intro b k cs
  have key : ∀ n a w, I n a w → ∃ e a' w', Q e a' w' ∧ Arrives P (lone (b.at a (.code c :: .inLoop c :: k)) cs w) b k cs e a' w' := by
    intro n
    induction n using Nat.strongRecOn with
    | _ n ih =>
      intro a w hI
      obtain ⟨e, a₁, w₁, hq, harr⟩ := round n a w hI b (.inLoop c :: k) cs
      cases e with
      | normal =>
        obtain ⟨m', hlt, hI₁⟩ := hq
        obtain ⟨e₂, a₂, w₂, hq₂, harr₂⟩ := ih m' hlt a₁ w₁ hI₁
        exact ⟨e₂, a₂, w₂, hq₂, .of_steps (Steps.trans harr (.one step_inLoop)) harr₂⟩
      | exit id => exact ⟨_, a₁, w₁, hq, .pass (x := .inLoop c) rfl (fun _ _ => .inl (by simp)) harr⟩
      | goto l => exact ⟨_, a₁, w₁, hq, .pass (x := .inLoop c) rfl (fun _ _ => .inl (by simp)) harr⟩
      | ret => exact ⟨_, a₁, w₁, hq, .pass (x := .inLoop c) rfl (fun _ _ => .inl (by simp)) harr⟩
      | panic ch => exact ⟨_, a₁, w₁, hq, .pass (x := .inLoop c) rfl (fun _ _ => .inl (by simp)) harr⟩
      | outgrown => exact ⟨_, a₁, w₁, hq, .pass (x := .inLoop c) rfl (fun _ _ => .inl (by simp)) harr⟩
  obtain ⟨m, h₀⟩ := h₀
  obtain ⟨e, a', w', hq, harr⟩ := key m a w h₀
  exact ⟨e, a', w', hq, .of_steps (.one step_loop) harr⟩
/-- a loop's round is done -/
def Again (n : Nat) (W0 : World) {κ : Type} (Ek : κ → Env) (I : κ → Heap → Prop) (μ : κ → Nat) (m : Nat) (a : Act) (w : World) : Prop := ∃ k H, μ k < m ∧ I k H ∧ Rep n (Ek k) a ∧ St W0 H w
theorem KC.loop {κ : Type} {c : Code} (Ek : κ → Env) (I : κ → Heap → Prop) (μ : κ → Nat) (k0 : κ) (hs : Sub (Ek k0) E) (h0 : I k0 H)
    (round : ∀ k H', I k H' → KC P n W0 (Exit.then (Again n W0 Ek I μ (μ k)) Q) c (Ek k) H') : KC P n W0 Q (.loop c) E H := by
  intro a w ha hw
  refine wp_loop_at (fun m a w => ∃ k H, μ k = m ∧ I k H ∧ Rep n (Ek k) a ∧ St W0 H w) ⟨_, k0, H, rfl, h0, ha.sub hs, hw⟩ ?_
  rintro m a w ⟨k, H', rfl, hI, hr, hst⟩
  refine wp_mono (round k H' hI a w hr hst) fun e a' w' hq => ?_
  cases e with
  | normal =>
    obtain ⟨k', H'', hlt, hI', hr', hst'⟩ := hq
    exact ⟨_, hlt, k', H'', rfl, hI', hr', hst'⟩
  | _ => exact hq
theorem KQ.again {κ : Type} {Ek : κ → Env} {I : κ → Heap → Prop} {μ : κ → Nat} {m : Nat} (k : κ) (hs : Sub (Ek k) E) (hμ : μ k < m) (hI : I k H) : KQ n W0 (Exit.then (Again n W0 Ek I μ m) Q) .normal E H :=
  fun a w ha hw => ⟨k, H, hμ, hI, ha.sub hs, hw⟩
/-- .. with the slots that the body writes and that are read later told by L, the others dropped -/
theorem KC.loopD {κ : Type} {c : Code} (m : List Nat) (L : κ → Env) (I : κ → Heap → Prop) (μ : κ → Nat) (k0 : κ) (hs : Sub (L k0 ++ drop m E) E) (h0 : I k0 H)
    (round : ∀ k H', I k H' → KC P n W0 (Exit.then (Again n W0 (fun k => L k ++ drop m E) I μ (μ k)) Q) c (L k ++ drop m E) H') : KC P n W0 Q (.loop c) E H :=
  KC.loop (fun k => L k ++ drop m E) I μ k0 hs h0 round
theorem KC.cutD {κ : Type} {c : Code} (m : List Nat) (L : κ → Env) (I : κ → Heap → Prop) (h : KC P n W0 (Exit.then (Meets n W0 (fun k => L k ++ drop m E) I) Q) c E H) (k : ∀ x H', I x H' → KQ n W0 Q .normal (L x ++ drop m E) H') : KC P n W0 Q c E H :=
  KC.cut (fun k => L k ++ drop m E) I h k
/-! ### a function's beginning and end -/
/-- what is asked at a function's end -/
def Post (P : Program) (fn : Func) (W0 : World) (R : Value → Heap → Prop) : Exit → Act → World → Prop := bodyPost P fn (fun e w' => ∃ v, e = .returned v ∧ St W0 w'.heap w' ∧ R v w'.heap)
def argEnv : Nat → List Value → Env
  | _, [] => []
  | i, v :: l => (i, v) :: argEnv (i + 1) l
theorem get_argEnv (l : List Value) (i t : Nat) : get (argEnv i l) t = if t < i then none else l[t - i]? := by
  induction l generalizing i with
  | nil => simp [argEnv, get]
  | cons v l ih =>
    simp only [argEnv, get]
    cases hb : Nat.beq i t with
    | true => have e := Nat.eq_of_beq_eq_true hb; subst e; simp
    | false =>
      have hne : i ≠ t := fun e => by rw [e, Nat.beq_refl] at hb; cases hb
      simp only [cond_false]
      rw [ih]
      by_cases h : t < i
      · rw [if_pos (by omega), if_pos h]
      rw [if_neg (by omega), if_neg h]
      rw [show t - i = (t - (i + 1)) + 1 by omega]; rfl
theorem Ct.mk {f : FuncId} {fn : Func} {c : Code} {args : List Value} {R : Value → Heap → Prop} (hf : P.funcs[f]? = some fn) (hb : fn.body = some c) (hn : fn.ntmps = n) (hle : Nat.ble args.length n = true)
    (h : ∀ W0 : World, W0.heap = H → KC P n W0 (Post P fn W0 R) c (argEnv 0 args) H) : Ct P f args H R := by
  intro w hw
  have hle' : args.length ≤ n := by simpa using hle
  refine calls_of_wp hf hb (h w hw _ w ⟨rfl, by simp [hn]; omega, ?_⟩ ⟨hw, rfl, rfl, rfl⟩)
  intro t v ht
  rw [get_argEnv] at ht
  simp only [Nat.not_lt_zero, if_false, Nat.sub_zero] at ht
  have hlt := (List.getElem?_eq_some_iff.1 ht).1
  rw [Array.getElem?_append_left (by simpa using hlt)]
  simpa using ht
theorem KQ.ofRet {fn : Func} {R : Value → Heap → Prop} (h : KQ n W0 (Post P fn W0 R) .normal E H) : KQ n W0 (Post P fn W0 R) .ret E H := h
theorem KQ.fin {fn : Func} {R : Value → Heap → Prop} (v : Value) (hr : ∀ a w, Rep n E a → w.heap = H → (results fn a.tmps).run P w = .ok v w) (hR : R v H) : KQ n W0 (Post P fn W0 R) .normal E H := by
  intro a w ha hw
  refine ⟨ha.defers, v, hr a w ha hw.heap, v, rfl, ⟨rfl, hw.os, hw.tape, hw.output⟩, ?_⟩
  rw [hw.heap]; exact hR
theorem KQ.fin0 {fn : Func} {R : Value → Heap → Prop} (hr : fn.results = #[]) (hR : R (.tuple #[]) H) : KQ n W0 (Post P fn W0 R) .normal E H :=
  KQ.fin _ (fun a w ha hw => by simp [results, hr, go_sem]) hR
theorem KQ.fin1 {fn : Func} {R : Value → Heap → Prop} {t : Nat} {v : Value} (hr : fn.results = #[.tmp t]) (ht : get E t = some v) (hR : R v H) : KQ n W0 (Post P fn W0 R) .normal E H :=
  KQ.fin _ (fun a w ha hw => by have := ha.val t v ht; simp [results, hr, go_sem, Array.getD_eq_getD_getElem?, this]) hR
theorem KQ.fin2 {fn : Func} {R : Value → Heap → Prop} {t u : Nat} {v x : Value} (hr : fn.results = #[.tmp t, .tmp u]) (ht : get E t = some v) (hu : get E u = some x) (hR : R (.tuple #[v, x]) H) : KQ n W0 (Post P fn W0 R) .normal E H :=
  KQ.fin _ (fun a w ha hw => by have h1 := ha.val t v ht; have h2 := ha.val u x hu; simp [results, hr, go_sem, Array.getD_eq_getD_getElem?, h1, h2]) hR
theorem KQ.fin3 {fn : Func} {R : Value → Heap → Prop} {t u s : Nat} {v x y : Value} (hr : fn.results = #[.tmp t, .tmp u, .tmp s]) (ht : get E t = some v) (hu : get E u = some x) (hs : get E s = some y) (hR : R (.tuple #[v, x, y]) H) : KQ n W0 (Post P fn W0 R) .normal E H :=
  KQ.fin _ (fun a w ha hw => by have h1 := ha.val t v ht; have h2 := ha.val u x hu; have h3 := ha.val s y hs; simp [results, hr, go_sem, Array.getD_eq_getD_getElem?, h1, h2, h3]) hR
end
end Go.Proofs.YtldmfchamcpmmaaDoor
namespace Go.Proofs.YtldmfchamcpmmaaDoor
open Go Go.RowKit
set_option linter.unusedVariables false
set_option linter.unusedSimpArgs false
def want (ops : List Oper) (E : Env) : Option (Nat × Bool) → Option Bool
  | none => some true
  | some (j, b) => match ((nth ops j).bind (·.dst)).bind (get E) with
    | some (.bool c) => some (c == b)
    | some (.tuple _) => some false
    | _ => none
def Agree (E : Env) (ρ : Operand → Value) : Prop := ∀ x v, ev E x = some v → ρ x = v
theorem Rep.agree {n : Nat} {E : Env} {a : Act} (h : Rep n E a) : Agree E a.eval := fun _ _ hx => h.eval hx
/-- an operation that hands back a value and leaves memory alone -/
def Run (P : Program) (E : Env) (H : Heap) (o : Oper) (v : Value) : Prop := ∀ ρ w, Agree E ρ → w.heap = H → (execOp ρ o).run P w = .ok (.value v) w
theorem want_wanted {n : Nat} {ops : List Oper} {E : Env} {a : Act} {o : Oper} {b : Bool} (h : Rep n E a) (hw : want ops E o.guard = some b) : Region.wanted o (yielded ops.toArray a.tmps) = b := by
  unfold Region.wanted
  cases hg : o.guard with
  | none => rw [hg] at hw; simp [want] at hw; simp [hw]
  | some p =>
    obtain ⟨j, t⟩ := p
    rw [hg] at hw
    simp only [want] at hw
    cases h1 : (nth ops j).bind (·.dst) with
    | none => rw [h1] at hw; cases hw
    | some d =>
      rw [h1] at hw
      simp only [Option.bind_some] at hw
      cases h2 : get E d with
      | none => rw [h2] at hw; cases hw
      | some v =>
        rw [h2] at hw
        have hv := h.val d v h2
        rw [nth_eq] at h1
        have h1' : (ops.toArray[j]?).bind (·.dst) = some d := by simpa using h1
        cases v <;> simp at hw
        · rename_i c
          simp only [yielded, h1', Option.bind_some, hv]
          subst hw
          cases c <;> cases t <;> rfl
        simp only [yielded, h1', Option.bind_some, hv]
        subst hw
        rfl
section
variable {P : Program} {n d : Nat} {W0 : World} {Q : Exit → Act → World → Prop} {ops rest : List Oper} {o : Oper} {E : Env} {H : Heap} {v : Value}
theorem KL.op (hr : Run P E H o v) (hd : o.dst = some d) (hn : Nat.blt d n = true) (hg : want ops E o.guard = some true) (h : KL P n W0 Q ops rest ((d, v) :: E) H) : KL P n W0 Q ops (o :: rest) E H := by
  intro a w ha hw
  refine wpList_step fun K hK => ?_
  rw [if_pos (want_wanted ha hg)]
  unfold Oper.wp
  rw [hr a.eval w ha.agree hw.heap]
  show K (a.put o.dst v) w
  rw [hd]
  exact hK _ _ (h _ _ (ha.put hn v) hw)
theorem KL.skip (hd : o.dst = some d) (hn : Nat.blt d n = true) (hg : want ops E o.guard = some false) (h : KL P n W0 Q ops rest ((d, undef) :: E) H) : KL P n W0 Q ops (o :: rest) E H := by
  intro a w ha hw
  refine wpList_step fun K hK => ?_
  rw [if_neg (by rw [want_wanted ha hg]; simp)]
  rw [hd]
  exact hK _ _ (h _ _ (ha.put hn _) hw)
theorem KL.skip0 (hd : o.dst = none) (hg : want ops E o.guard = some false) (h : KL P n W0 Q ops rest E H) : KL P n W0 Q ops (o :: rest) E H := by
  intro a w ha hw
  refine wpList_step fun K hK => ?_
  rw [if_neg (by rw [want_wanted ha hg]; simp)]
  rw [hd]
  exact hK _ _ (h _ _ ha hw)
/-- a value where a guard lets one be -/
def gval (c : Bool) (v : Value) : Value := bif c then v else undef
theorem KL.opG {c : Bool} (hr : c = true → Run P E H o v) (hd : o.dst = some d) (hn : Nat.blt d n = true) (hg : want ops E o.guard = some c) (h : KL P n W0 Q ops rest ((d, gval c v) :: E) H) : KL P n W0 Q ops (o :: rest) E H := by
  cases c with
  | true => exact KL.op (hr rfl) hd hn hg h
  | false => exact KL.skip hd hn hg h
theorem Run.mono {E' : Env} (hs : Sub E' E) (h : Run P E' H o v) : Run P E H o v := fun ρ w ha hw => h ρ w (fun x u hx => ha x u (by
  cases x with
  | tmp t => exact hs t u hx
  | const c => exact hx
  | global g => exact hx
  | func f => exact hx)) hw
theorem Run.val {u : Value} (h : Run P E H o v) (e : v = u) : Run P E H o u := e ▸ h
theorem sub_case {c : Bool} (hget : get E d = some (.bool c)) (b : Bool) (hc : c = b) : Sub ((d, .bool b) :: E) E := by
  subst hc; exact Sub.cons hget (fun _ _ h => h)
theorem KC.iteL {x y : Code} {b : Bool} (hc : get E d = some (.bool b)) (ht : b = true → KC P n W0 Q x ((d, .bool true) :: E) H) (hf : b = false → KC P n W0 Q y ((d, .bool false) :: E) H) : KC P n W0 Q (.cond (.tmp d) x y) E H := by
  cases hb : b with
  | true => exact KC.sub (sub_case hc true hb) (KC.condT (by simp [ev, get]) (ht hb))
  | false => exact KC.sub (sub_case hc false hb) (KC.condF (by simp [ev, get]) (hf hb))
theorem KL.case {c : Bool} (hget : get E d = some (.bool c)) (ht : c = true → KL P n W0 Q ops rest ((d, .bool true) :: E) H) (hf : c = false → KL P n W0 Q ops rest ((d, .bool false) :: E) H) : KL P n W0 Q ops rest E H := by
  intro a w ha hw
  cases hc : c with
  | true => exact ht hc a w (ha.sub (sub_case hget true hc)) hw
  | false => exact hf hc a w (ha.sub (sub_case hget false hc)) hw
theorem R.move {x : Operand} (ho : o.op = .move x) (hx : ev E x = some v) : Run P E H o v := by
  intro ρ w ha hw; simp [execOp, ho, ha x v hx, go_sem]
theorem R.assign {x : Operand} (ho : o.op = .assign x) (hx : ev E x = some v) : Run P E H o v := by
  intro ρ w ha hw; simp [execOp, ho, ha x v hx, go_sem]
theorem R.pick {c x y : Operand} {t : Bool} (ho : o.op = .pick c x y) (hc : ev E c = some (.bool t)) (hv : ev E (bif t then x else y) = some v) : Run P E H o v := by
  intro ρ w ha hw
  cases t <;> simp only [cond_true, cond_false] at hv <;> simp [execOp, ho, ha c _ hc, ha _ v hv, go_sem]
theorem R.and {c x : Operand} {t s : Bool} (ho : o.op = .pick c x (.const (.bool false))) (hc : ev E c = some (.bool t)) (hx : t = true → ev E x = some (.bool s)) : Run P E H o (.bool (t && s)) := by
  intro ρ w ha hw
  cases t with
  | true => simp [execOp, ho, ha c _ hc, ha _ _ (hx rfl), go_sem]
  | false => simp [execOp, ho, ha c _ hc, ha (.const (.bool false)) _ rfl, go_sem]
theorem R.or {c x : Operand} {t s : Bool} (ho : o.op = .pick c (.const (.bool true)) x) (hc : ev E c = some (.bool t)) (hx : t = false → ev E x = some (.bool s)) : Run P E H o (.bool (t || s)) := by
  intro ρ w ha hw
  cases t with
  | false => simp [execOp, ho, ha c _ hc, ha _ _ (hx rfl), go_sem]
  | true => simp [execOp, ho, ha c _ hc, ha (.const (.bool true)) _ rfl, go_sem]
theorem R.not {T : TypeId} {x : Operand} {b : Bool} (ho : o.op = .unOp .not T x) (hx : ev E x = some (.bool b)) : Run P E H o (.bool (!b)) := by
  intro ρ w ha hw; simp [execOp, ho, ha x _ hx, go_sem]
theorem R.nilCheck {x : Operand} {p : Addr} (ho : o.op = .nilCheck x) (hx : ev E x = some (.pointer (some p))) : Run P E H o (.pointer (some p)) := by
  intro ρ w ha hw; simp [execOp, ho, ha x _ hx, go_sem]
theorem R.extract {x : Operand} {i : Nat} {vs : Array Value} (ho : o.op = .extract x i) (hx : ev E x = some (.tuple vs)) (hv : nth vs.toList i = some v) : Run P E H o v := by
  intro ρ w ha hw
  rw [nth_eq] at hv
  have hv' : vs[i]? = some v := by simpa using hv
  simp [execOp, ho, ha x _ hx, Instr.extract, hv', Sem.run_bind, Sem.run_pure, Result.andThen]
theorem R.makeFunc {f : Fn} {xs ys : Array Operand} {us vs : List Value} (ho : o.op = .makeFunc f xs ys) (hx : evs E xs.toList = some us) (hy : evs E ys.toList = some vs) : Run P E H o (.func f us.toArray vs.toArray) := by
  have key : ∀ (l : List Operand) (us : List Value) (ρ : Operand → Value), Agree E ρ → evs E l = some us → l.map ρ = us := by
    intro l
    induction l with
    | nil => intro us ρ _ h; simp [evs] at h; subst h; rfl
    | cons x l ih =>
      intro us ρ ha h
      simp only [evs] at h
      cases h1 : ev E x with
      | none => rw [h1] at h; simp at h
      | some u =>
        cases h2 : evs E l with
        | none => rw [h1, h2] at h; simp at h
        | some ul => rw [h1, h2] at h; simp at h; subst h; simp [ha x u h1, ih ul ρ ha h2]
  intro ρ w ha hw
  have e1 : xs.map ρ = us.toArray := by apply Array.ext'; simpa using key xs.toList us ρ ha hx
  have e2 : ys.map ρ = vs.toArray := by apply Array.ext'; simpa using key ys.toList vs ρ ha hy
  simp [execOp, ho, Instr.makeFunc, e1, e2, Sem.run_bind, Sem.run_pure, Result.andThen]
/-! ### whole numbers -/
def InR : IntKind → Int → Prop
  | .i8, z => -128 ≤ z ∧ z ≤ 127
  | .i16, z => -32768 ≤ z ∧ z ≤ 32767
  | .i32, z => -2147483648 ≤ z ∧ z ≤ 2147483647
  | .i64, z => -9223372036854775808 ≤ z ∧ z ≤ 9223372036854775807
  | .u8, z => 0 ≤ z ∧ z ≤ 255
  | .u16, z => 0 ≤ z ∧ z ≤ 65535
  | .u32, z => 0 ≤ z ∧ z ≤ 4294967295
  | .u64, z => 0 ≤ z ∧ z ≤ 18446744073709551615
instance (k : IntKind) (z : Int) : Decidable (InR k z) := by cases k <;> unfold InR <;> infer_instance
theorem inR_wf {k : IntKind} {z : Int} : (Lit.int k z).wf = true ↔ InR k z := by
  cases k <;> simp [Lit.wf, InR, IntKind.min, IntKind.max, IntKind.signed, IntKind.bits]
theorem wrap_in {k : IntKind} {z : Int} (h : InR k z) : k.wrap z = z := by
  cases k <;> simp only [InR] at h <;> simp only [IntKind.wrap, IntKind.signed, IntKind.bits] <;> simp <;> omega
theorem inR_wrap (k : IntKind) (z : Int) : InR k (k.wrap z) := by
  cases k <;> simp only [InR, IntKind.wrap, IntKind.signed, IntKind.bits] <;> simp <;> omega
theorem bin_run {op : BinOp} {T T' : TypeId} {x y : Operand} {k k' : IntKind} {a b : Int} {r : Value} (ho : o.op = .binOp op T x y T') (hx : ev E x = some (.int k a)) (hy : ev E y = some (.int k' b))
    (hr : ∀ w, (binOp op T (.int k a) (.int k' b)).run P w = .ok r w) : Run P E H o r := by
  intro ρ w ha hw
  have hg : (eqGuard op T x y (.int k a) (.int k' b)).run P w = .ok () w := by
    cases op <;> simp [eqGuard, Sem.run_pure] <;> rfl
  simp [execOp, ho, ha x _ hx, ha y _ hy, Sem.run_bind, Sem.run_pure, Result.andThen, hg, hr]
theorem R.add {T T' : TypeId} {x y : Operand} {k : IntKind} {a b : Int} (ho : o.op = .binOp .add T x y T') (hx : ev E x = some (.int k a)) (hy : ev E y = some (.int k b)) (h : InR k (a + b)) : Run P E H o (.int k (a + b)) :=
  bin_run ho hx hy fun w => by simp [binOp, Op.intArith, Sem.run_pure, wrap_in h]
theorem R.sub {T T' : TypeId} {x y : Operand} {k : IntKind} {a b : Int} (ho : o.op = .binOp .sub T x y T') (hx : ev E x = some (.int k a)) (hy : ev E y = some (.int k b)) (h : InR k (a - b)) : Run P E H o (.int k (a - b)) :=
  bin_run ho hx hy fun w => by simp [binOp, Op.intArith, Sem.run_pure, wrap_in h]
theorem R.mul {T T' : TypeId} {x y : Operand} {k : IntKind} {a b : Int} (ho : o.op = .binOp .mul T x y T') (hx : ev E x = some (.int k a)) (hy : ev E y = some (.int k b)) (h : InR k (a * b)) : Run P E H o (.int k (a * b)) :=
  bin_run ho hx hy fun w => by simp [binOp, Op.intArith, Sem.run_pure, wrap_in h]
theorem R.quo {T T' : TypeId} {x y : Operand} {k : IntKind} {a b : Int} (ho : o.op = .binOp .quo T x y T') (hx : ev E x = some (.int k a)) (hy : ev E y = some (.int k b)) (h0 : 0 ≤ a) (h1 : 0 < b) (h : InR k a) : Run P E H o (.int k (a / b)) :=
  bin_run ho hx hy fun w => by
    have e : a.tdiv b = a / b := Int.tdiv_eq_ediv_of_nonneg h0
    have hle : a / b ≤ a := Int.ediv_le_self _ h0
    have hge : 0 ≤ a / b := Int.ediv_nonneg h0 (by omega)
    have hi : InR k (a / b) := by cases k <;> simp only [InR] at h ⊢ <;> omega
    simp [binOp, Op.intDiv, Sem.run_pure, e, wrap_in hi, show ¬ b = 0 by omega]
/-- &, |, ^, &^ -/
theorem R.bits {op : BinOp} {T T' : TypeId} {x y : Operand} {k : IntKind} {a b : Int} (ho : o.op = .binOp op T x y T') (hop : (match op with | .and | .or | .xor | .andNot => true | _ => false) = true) (hx : ev E x = some (.int k a)) (hy : ev E y = some (.int k b)) : Run P E H o (.int k (bits op k a b)) :=
  bin_run ho hx hy fun w => by
    cases op <;> simp at hop <;> (simp only [binOp, ne_eq, not_true_eq_false, if_false]; rfl)
theorem R.shl {T T' : TypeId} {x y : Operand} {k k' : IntKind} {a b : Int} (ho : o.op = .binOp .shl T x y T') (hx : ev E x = some (.int k a)) (hy : ev E y = some (.int k' b)) (h : 0 ≤ b) : Run P E H o (.int k (k.wrap (a * 2 ^ (min b.toNat k.bits)))) :=
  bin_run ho hx hy fun w => by simp [binOp, Op.shift, Sem.run_pure, show ¬ b < 0 by omega]
theorem R.shr {T T' : TypeId} {x y : Operand} {k k' : IntKind} {a b : Int} (ho : o.op = .binOp .shr T x y T') (hx : ev E x = some (.int k a)) (hy : ev E y = some (.int k' b)) (h : 0 ≤ b) : Run P E H o (.int k (a / 2 ^ (min b.toNat k.bits))) :=
  bin_run ho hx hy fun w => by
    have : a.fdiv (2 ^ (min b.toNat k.bits)) = a / 2 ^ (min b.toNat k.bits) := Int.fdiv_eq_ediv_of_nonneg _ (by exact Int.le_of_lt (Int.pow_pos (by omega)))
    simp [binOp, Op.shift, Sem.run_pure, show ¬ b < 0 by omega, this]
theorem R.lss {T T' : TypeId} {x y : Operand} {k : IntKind} {a b : Int} (ho : o.op = .binOp .lss T x y T') (hx : ev E x = some (.int k a)) (hy : ev E y = some (.int k b)) : Run P E H o (.bool (decide (a < b))) :=
  bin_run ho hx hy fun w => by simp [binOp, Op.intCmp, Sem.run_pure]
theorem R.leq {T T' : TypeId} {x y : Operand} {k : IntKind} {a b : Int} (ho : o.op = .binOp .leq T x y T') (hx : ev E x = some (.int k a)) (hy : ev E y = some (.int k b)) : Run P E H o (.bool (decide (a ≤ b))) :=
  bin_run ho hx hy fun w => by simp [binOp, Op.intCmp, Sem.run_pure]
theorem R.gtr {T T' : TypeId} {x y : Operand} {k : IntKind} {a b : Int} (ho : o.op = .binOp .gtr T x y T') (hx : ev E x = some (.int k a)) (hy : ev E y = some (.int k b)) : Run P E H o (.bool (decide (b < a))) :=
  bin_run ho hx hy fun w => by simp [binOp, Op.intCmp, Sem.run_pure]
theorem R.geq {T T' : TypeId} {x y : Operand} {k : IntKind} {a b : Int} (ho : o.op = .binOp .geq T x y T') (hx : ev E x = some (.int k a)) (hy : ev E y = some (.int k b)) : Run P E H o (.bool (decide (b ≤ a))) :=
  bin_run ho hx hy fun w => by simp [binOp, Op.intCmp, Sem.run_pure]
theorem R.eql {T T' : TypeId} {x y : Operand} {k : IntKind} {a b : Int} (ho : o.op = .binOp .eql T x y T') (hx : ev E x = some (.int k a)) (hy : ev E y = some (.int k b)) : Run P E H o (.bool (decide (a = b))) :=
  bin_run ho hx hy fun w => by
    have : (a == b) = decide (a = b) := by cases h : decide (a = b) <;> simp at h <;> simp [h]
    simp [binOp, Op.intCmp, Sem.run_pure, this]
theorem R.neq {T T' : TypeId} {x y : Operand} {k : IntKind} {a b : Int} (ho : o.op = .binOp .neq T x y T') (hx : ev E x = some (.int k a)) (hy : ev E y = some (.int k b)) : Run P E H o (.bool (!decide (a = b))) :=
  bin_run ho hx hy fun w => by
    have : (a != b) = !decide (a = b) := by cases h : decide (a = b) <;> simp at h <;> simp [h]
    simp [binOp, Op.intCmp, Sem.run_pure, this]
theorem bin_run2 {op : BinOp} {T T' : TypeId} {x y : Operand} {a b r : Value} (ho : o.op = .binOp op T x y T') (hx : ev E x = some a) (hy : ev E y = some b)
    (hg : ∀ w, (eqGuard op T x y a b).run P w = .ok () w) (hr : ∀ w, (binOp op T a b).run P w = .ok r w) : Run P E H o r := by
  intro ρ w ha hw
  simp [execOp, ho, ha x _ hx, ha y _ hy, Sem.run_bind, Sem.run_pure, Result.andThen, hg, hr]
theorem R.eqlStr {T T' : TypeId} {x y : Operand} {a b : ByteArray} (ho : o.op = .binOp .eql T x y T') (hx : ev E x = some (.string a)) (hy : ev E y = some (.string b)) : Run P E H o (.bool (a.toList == b.toList)) :=
  bin_run2 ho hx hy (fun w => by simp [eqGuard, Sem.run_pure]) fun w => by simp [binOp, Op.stringOp, Sem.run_pure]
theorem R.neqStr {T T' : TypeId} {x y : Operand} {a b : ByteArray} (ho : o.op = .binOp .neq T x y T') (hx : ev E x = some (.string a)) (hy : ev E y = some (.string b)) : Run P E H o (.bool (!(a.toList == b.toList))) :=
  bin_run2 ho hx hy (fun w => by simp [eqGuard, Sem.run_pure]) fun w => by simp [binOp, Op.stringOp, Sem.run_pure]
theorem R.convI {S D : TypeId} {x : Operand} {k k' : IntKind} {a : Int} {ds : TypeDesc} (ho : o.op = .convert S D x) (hs : P.underlying S = some ds) (hd : P.underlying D = some (.int k')) (hx : ev E x = some (.int k a)) (h : InR k' a) : Run P E H o (.int k' a) := by
  intro ρ w ha hw
  simp [execOp, ho, ha x _ hx, convert, underlying, program, hs, hd, Conv.intToInt, Sem.run_bind, Sem.run_pure, Result.andThen, Sem.run, wrap_in h]
theorem R.convW {S D : TypeId} {x : Operand} {k k' : IntKind} {a : Int} {ds : TypeDesc} (ho : o.op = .convert S D x) (hs : P.underlying S = some ds) (hd : P.underlying D = some (.int k')) (hx : ev E x = some (.int k a)) : Run P E H o (.int k' (k'.wrap a)) := by
  intro ρ w ha hw
  simp [execOp, ho, ha x _ hx, convert, underlying, program, hs, hd, Conv.intToInt, Sem.run_bind, Sem.run_pure, Result.andThen, Sem.run]
/-! ### memory that is read -/
def isAggD : TypeDesc → Bool
  | .struct _ | .array _ _ => true
  | _ => false
theorem cell_w {w : World} {H : Heap} (hw : w.heap = H) (p : Addr) : w.cell? p = cellH H p := by subst hw; rfl
theorem R.load {T : TypeId} {x : Operand} {p : Addr} {ds : TypeDesc} (ho : o.op = .load T x) (ht : P.underlying T = some ds) (hd : isAggD ds = false) (hx : ev E x = some (.pointer (some p))) (hc : cellH H p = some v) : Run P E H o v := by
  intro ρ w ha hw
  have h1 : w.cell? p = some v := by rw [cell_w hw]; exact hc
  have h2 : (isAgg T).run P w = .ok false w := by
    cases ds <;> simp [isAggD] at hd <;> simp [isAgg, underlying, program, ht, Sem.run_bind, Sem.run_pure, Result.andThen, Sem.run]
  simp [execOp, ho, ha x _ hx, Instr.loadAt, Instr.sureAddr, loadVar, Sem.run_bind, Sem.run_pure, Result.andThen, h2, load, Sem.run, h1]
/-- the cells from a place on -/
def CellsH (H : Heap) (p : Addr) (cs : List Value) : Prop := ∀ i v, nth cs i = some v → cellH H (p.add i) = some v
theorem cells_of {H : Heap} {g : Nat} {cs : List Value} {t : TypeId} {z : Nat × Nat} (hb : H[g]? = some (.cells cs.toArray t z)) : CellsH H ⟨g, 0, none⟩ cs := by
  intro i v hv
  have h := cell_of (i := i) hb hv
  unfold Addr.add
  split
  · next h0 => subst h0; exact h
  simpa using h
theorem Old.cells {A B : Heap} (h : Old A B) {a : Addr} {cs : List Value} (hc : CellsH A a cs) : CellsH B a cs := fun i v hv => h.cell (hc i v hv)
theorem R.loadAgg {T : TypeId} {x : Operand} {p : Addr} {ds : TypeDesc} {cs : List Value} {m : Nat} (ho : o.op = .load T x) (ht : P.underlying T = some ds) (hd : isAggD ds = true) (hs : (P.info? T).map (·.size) = some m) (hx : ev E x = some (.pointer (some p))) (hc : CellsH H p cs) (hm : cs.length = m) : Run P E H o (.agg cs.toArray) := by
  subst hm
  intro ρ w ha hw
  have h2 : (isAgg T).run P w = .ok true w := by
    cases ds <;> simp [isAggD] at hd <;> simp [isAgg, underlying, program, ht, Sem.run_bind, Sem.run_pure, Result.andThen, Sem.run]
  have h3 := run_loadCells_list (P := P) (w := w) p cs (fun j u hj => by rw [cell_w hw]; exact hc j u (by rw [nth_eq]; exact hj))
  cases hq : P.info? T with
  | none => simp [hq] at hs
  | some i =>
    simp [hq] at hs
    simp [execOp, ho, ha x _ hx, Instr.loadAt, Instr.sureAddr, loadVar, Sem.run_bind, Sem.run_pure, Result.andThen, h2, sizeOf, typeInfo, program, Sem.run, hq, hs, h3]
theorem R.fieldAddr {S : TypeId} {x : Operand} {f g off k sz : Nat} {fields : Array Field} {fd : Field} (ho : o.op = .fieldAddr S x f) (ht : P.underlying S = some (.struct fields)) (hf : nth fields.toList f = some fd) (hk : fd.offset = k) (hs : (P.info? fd.type).map (·.size) = some (sz + 1)) (hx : ev E x = some (.pointer (some ⟨g, off, none⟩))) : Run P E H o (.pointer (some ⟨g, off + k, none⟩)) := by
  intro ρ w ha hw
  subst hk
  rw [nth_eq] at hf
  have hf' : fields[f]? = some fd := by simpa using hf
  cases hq : P.info? fd.type with
  | none => simp [hq] at hs
  | some i =>
    simp [hq] at hs
    have : (Addr.mk g off none).add fd.offset = ⟨g, off + fd.offset, none⟩ := by unfold Addr.add; split <;> simp_all
    simp [execOp, ho, ha x _ hx, Instr.fieldAt, Instr.sureAddr, underlying, program, ht, hf', fieldPlace, sizeOf, typeInfo, hq, hs, Sem.run_bind, Sem.run_pure, Result.andThen, Sem.run, this]
theorem R.fieldAddrP {S : TypeId} {x : Operand} {f k sz : Nat} {p : Addr} {fields : Array Field} {fd : Field} (ho : o.op = .fieldAddr S x f) (ht : P.underlying S = some (.struct fields)) (hf : nth fields.toList f = some fd) (hk : fd.offset = k) (hs : (P.info? fd.type).map (·.size) = some (sz + 1)) (hx : ev E x = some (.pointer (some p))) : Run P E H o (.pointer (some (p.add k))) := by
  intro ρ w ha hw
  subst hk
  rw [nth_eq] at hf
  have hf' : fields[f]? = some fd := by simpa using hf
  cases hq : P.info? fd.type with
  | none => simp [hq] at hs
  | some i =>
    simp [hq] at hs
    simp [execOp, ho, ha x _ hx, Instr.fieldAt, Instr.sureAddr, underlying, program, ht, hf', fieldPlace, sizeOf, typeInfo, hq, hs, Sem.run_bind, Sem.run_pure, Result.andThen, Sem.run]
/-! ### slices and strings -/
theorem R.len {T e ty : TypeId} {x : Operand} {a : Option Addr} {l c : Nat} (ho : o.op = .call { callee := .builtin .len, args := #[x], argTypes := #[T] }) (ht : P.underlying T = some (.slice e)) (hx : ev E x = some (.slice a l c)) : Run P E H o (.int .i64 l) := by
  intro ρ w ha hw
  simp [execOp, ho, resolve, invoke, builtin, Builtin.len_, ha x _ hx, underlying, program, ht, goInt, Sem.run_bind, Sem.run_pure, Result.andThen, Sem.run]
theorem R.lenStr {T ty : TypeId} {x : Operand} {s : ByteArray} (ho : o.op = .call { callee := .builtin .len, args := #[x], argTypes := #[T] }) (ht : P.underlying T = some .string) (hx : ev E x = some (.string s)) : Run P E H o (.int .i64 s.size) := by
  intro ρ w ha hw
  simp [execOp, ho, resolve, invoke, builtin, Builtin.len_, ha x _ hx, underlying, program, ht, goInt, Sem.run_bind, Sem.run_pure, Result.andThen, Sem.run]
theorem R.max {T T' : TypeId} {x y : Operand} {k k' : IntKind} {a b : Int} (ho : o.op = .call { callee := .builtin .max, args := #[x, y], argTypes := #[T, T'] }) (hx : ev E x = some (.int k a)) (hy : ev E y = some (.int k' b)) : Run P E H o (.int k (Max.max a b)) := by
  intro ρ w ha hw
  have : (if a < b then b else a) = Max.max a b := by rw [Int.max_def]; split <;> split <;> omega
  simp [execOp, ho, resolve, invoke, builtin, Builtin.max_, Builtin.max2, ha x _ hx, ha y _ hy, Sem.run_bind, Sem.run_pure, Result.andThen, Sem.run, List.foldlM, this]
theorem R.min {T T' : TypeId} {x y : Operand} {k k' : IntKind} {a b : Int} (ho : o.op = .call { callee := .builtin .min, args := #[x, y], argTypes := #[T, T'] }) (hx : ev E x = some (.int k a)) (hy : ev E y = some (.int k' b)) : Run P E H o (.int k (Min.min a b)) := by
  intro ρ w ha hw
  have : (if b < a then b else a) = Min.min a b := by rw [Int.min_def]; split <;> split <;> omega
  simp [execOp, ho, resolve, invoke, builtin, Builtin.min_, Builtin.min2, ha x _ hx, ha y _ hy, Sem.run_bind, Sem.run_pure, Result.andThen, Sem.run, List.foldlM, this]
end
end Go.Proofs.YtldmfchamcpmmaaDoor
namespace Go.Proofs.YtldmfchamcpmmaaDoor
open Go Go.RowKit
set_option linter.unusedVariables false
set_option linter.unusedSimpArgs false
/-- an operation that hands back a value and may change memory -/
def RunM (P : Program) (E : Env) (H : Heap) (o : Oper) (R : Value → Heap → Prop) : Prop := ∀ ρ w, Agree E ρ → w.heap = H → ∃ v w', (execOp ρ o).run P w = .ok (.value v) w' ∧ St w w'.heap w' ∧ R v w'.heap
/-- one that hands back nothing -/
def RunS (P : Program) (E : Env) (H : Heap) (o : Oper) (R : Heap → Prop) : Prop := ∀ ρ w, Agree E ρ → w.heap = H → ∃ w', (execOp ρ o).run P w = .ok .skip w' ∧ St w w'.heap w' ∧ R w'.heap
/-- a new block -/
def New (H : Heap) (cs : List Value) (t : TypeId) (H' : Heap) : Prop := Old H H' ∧ H'.size = H.size + 1 ∧ H'[H.size]? = some (.cells cs.toArray t (0, 0))
theorem New.push (H : Heap) (cs : List Value) (t : TypeId) : New H cs t (H.push (.cells cs.toArray t)) :=
  ⟨⟨by simp, fun k hk => by rw [Array.getElem?_push, if_neg (by omega)]⟩, by simp, by simp⟩
section
variable {P : Program} {n d : Nat} {W0 : World} {Q : Exit → Act → World → Prop} {ops rest : List Oper} {o : Oper} {E : Env} {H : Heap} {v : Value}
theorem KL.opM {R : Value → Heap → Prop} (hr : RunM P E H o R) (hd : o.dst = some d) (hn : Nat.blt d n = true) (hg : want ops E o.guard = some true) (h : ∀ v H', R v H' → KL P n W0 Q ops rest ((d, v) :: E) H') : KL P n W0 Q ops (o :: rest) E H := by
  intro a w ha hw
  refine wpList_step fun K hK => ?_
  rw [if_pos (want_wanted ha hg)]
  obtain ⟨v, w', hrun, hst, hR⟩ := hr a.eval w ha.agree hw.heap
  unfold Oper.wp
  rw [hrun]
  show K (a.put o.dst v) w'
  rw [hd]
  exact hK _ _ (h v _ hR _ _ (ha.put hn v) (hw.trans hst))
theorem KL.opS {R : Heap → Prop} (hr : RunS P E H o R) (hd : o.dst = none) (hg : want ops E o.guard = some true) (h : ∀ H', R H' → KL P n W0 Q ops rest E H') : KL P n W0 Q ops (o :: rest) E H := by
  intro a w ha hw
  refine wpList_step fun K hK => ?_
  rw [if_pos (want_wanted ha hg)]
  obtain ⟨w', hrun, hst, hR⟩ := hr a.eval w ha.agree hw.heap
  unfold Oper.wp
  rw [hrun]
  show K (a.put o.dst undef) w'
  rw [hd]
  exact hK _ _ (h _ hR _ _ ha (hw.trans hst))
theorem Agree.evs {ρ : Operand → Value} (ha : Agree E ρ) : ∀ {l : List Operand} {vs : List Value}, evs E l = some vs → l.map ρ = vs := by
  intro l
  induction l with
  | nil => intro vs h; simp [Go.Proofs.YtldmfchamcpmmaaDoor.evs] at h; subst h; rfl
  | cons x l ih =>
    intro vs h
    simp only [Go.Proofs.YtldmfchamcpmmaaDoor.evs] at h
    cases h1 : ev E x with
    | none => rw [h1] at h; simp at h
    | some u =>
      cases h2 : Go.Proofs.YtldmfchamcpmmaaDoor.evs E l with
      | none => rw [h1, h2] at h; simp at h
      | some ul => rw [h1, h2] at h; simp at h; subst h; simp [ha x u h1, ih h2]
/-- that a function can be entered -/
def Enters (P : Program) (f : FuncId) : Prop := ∀ args w, (callFunc f args).run P w = .ok (.enter f args) w
theorem run_call {f : FuncId} {fo : Operand} {xs : Array Operand} {ts : Array TypeId} {first cap : Array Value} {vs args : List Value} {ρ : Operand → Value} {w : World} (ha : Agree E ρ) (ho : o.op = .call { callee := .value fo, args := xs, argTypes := ts })
    (hf : ev E fo = some (.func (.func f) first cap)) (has : evs E xs.toList = some vs) (hl : first.toList ++ vs ++ cap.toList = args) (hcall : Enters P f) : (execOp ρ o).run P w = .ok (.enter f args.toArray) w := by
  have e1 : xs.map ρ = vs.toArray := by apply Array.ext'; simpa using ha.evs has
  have e2 : first ++ (vs.toArray ++ cap) = args.toArray := by apply Array.ext'; simp [← hl]
  have := hcall args.toArray w
  simp [execOp, ho, resolve, ha fo _ hf, Deferred.ofValue, invoke, e1, Sem.run_bind, Sem.run_pure, Result.andThen]
  rw [e2]; exact this
theorem KL.call {f : FuncId} {fo : Operand} {xs : Array Operand} {ts : Array TypeId} {first cap : Array Value} {vs args : List Value} {R : Value → Heap → Prop} (ho : o.op = .call { callee := .value fo, args := xs, argTypes := ts })
    (hf : ev E fo = some (.func (.func f) first cap)) (has : evs E xs.toList = some vs) (hl : first.toList ++ vs ++ cap.toList = args) (hcall : Enters P f) (hd : o.dst = some d) (hn : Nat.blt d n = true) (hg : want ops E o.guard = some true)
    (hc : Ct P f args H R) (h : ∀ v H', R v H' → KL P n W0 Q ops rest ((d, v) :: E) H') : KL P n W0 Q ops (o :: rest) E H := by
  intro a w ha hw
  refine wpList_step fun K hK => ?_
  rw [if_pos (want_wanted ha hg)]
  unfold Oper.wp
  rw [run_call ha.agree ho hf has hl hcall]
  refine (hc w hw.heap).mono ?_
  rintro e w' ⟨v, rfl, hst, hR⟩
  show K (a.put o.dst v) w'
  rw [hd]
  exact hK _ _ (h v _ hR _ _ (ha.put hn v) (hw.trans hst))
/-! ### new blocks -/
theorem M.box {T : TypeId} {x : Operand} {cs : List Value} (ho : o.op = .box T x) (hx : ev E x = some v) (hc : v.cells = cs.toArray) : RunM P E H o (fun u H' => u = .pointer (some ⟨H.size, 0, none⟩) ∧ New H cs T H') := by
  intro ρ w ha hw
  refine ⟨_, w.alloc (.cells cs.toArray T), ?_, ⟨rfl, rfl, rfl, rfl⟩, rfl, ?_⟩
  · subst hw
    simp [execOp, ho, ha x v hx, Instr.box, newVar, newRow, newObj, hc, Sem.run_bind, Sem.run_pure, Result.andThen, Sem.run]
  subst hw; exact New.push _ _ _
theorem M.alloc {T : TypeId} {z : Value} {cs : List Value} (ho : o.op = .alloc T) (hz : (P.info? T).map (·.zero) = some (some z)) (hc : z.cells = cs.toArray) : RunM P E H o (fun u H' => u = .pointer (some ⟨H.size, 0, none⟩) ∧ New H cs T H') := by
  intro ρ w ha hw
  refine ⟨_, w.alloc (.cells cs.toArray T), ?_, ⟨rfl, rfl, rfl, rfl⟩, rfl, ?_⟩
  · subst hw
    cases hq : P.info? T with
    | none => simp [hq] at hz
    | some i =>
      simp [hq] at hz
      simp [execOp, ho, Instr.alloc, zeroValue, typeInfo, program, hq, hz, newVar, newRow, newObj, hc, Sem.run_bind, Sem.run_pure, Result.andThen, Sem.run]
  subst hw; exact New.push _ _ _
def partsOf (E : Env) : List (Nat × Operand) → Option (List (Nat × Value))
  | [] => some []
  | (i, x) :: l => match ev E x, partsOf E l with
    | some v, some vs => some ((i, v) :: vs)
    | _, _ => none
theorem Agree.parts {ρ : Operand → Value} (ha : Agree E ρ) : ∀ {l : List (Nat × Operand)} {vs : List (Nat × Value)}, partsOf E l = some vs → l.map (fun p => (p.1, ρ p.2)) = vs := by
  intro l
  induction l with
  | nil => intro vs h; simp [partsOf] at h; subst h; rfl
  | cons p l ih =>
    obtain ⟨i, x⟩ := p
    intro vs h
    simp only [partsOf] at h
    cases h1 : ev E x with
    | none => rw [h1] at h; simp at h
    | some u =>
      cases h2 : partsOf E l with
      | none => rw [h1, h2] at h; simp at h
      | some ul => rw [h1, h2] at h; simp at h; subst h; simp [ha x u h1, ih h2]
/-- a slice literal whose elements are of one cell -/
theorem M.buildSlice {T e : TypeId} {len : Nat} {parts : Array (Nat × Operand)} {vs : List (Nat × Value)} {z : Value} {cs : Array Value} (ho : o.op = .buildSlice T len parts) (ht : P.underlying T = some (.slice e)) {size : Nat} (hi : (P.info? e).map (fun i => (i.zero, i.size)) = some (some z, size)) (hlen : len * size ≤ 16777216)
    (hp : partsOf E parts.toList = some vs) (hfill : Instr.fill (fun i => some (i * size, size)) ((Array.range (len * size)).map (z.cells[· % z.cells.size]!)) vs = some cs) :
    RunM P E H o (fun u H' => u = .slice (some ⟨H.size, 0, none⟩) len len ∧ New H cs.toList e H') := by
  intro ρ w ha hw
  refine ⟨_, w.alloc (.cells cs e), ?_, ⟨rfl, rfl, rfl, rfl⟩, rfl, ?_⟩
  · subst hw
    cases hq : P.info? e with
    | none => simp [hq] at hi
    | some i =>
      simp [hq] at hi
      obtain ⟨hi1, hi2⟩ := hi
      have e1 : List.map (fun p => (p.1, ρ p.2)) parts.toList = vs := ha.parts hp
      by_cases h0 : len * size = 0
      · have hf : Instr.fill (fun i => some (i * size, size)) #[] vs = some cs := by rw [h0] at hfill; simpa [Array.range_zero'] using hfill
        simp [execOp, ho, Instr.buildSlice, underlying, sizeOf, typeInfo, program, ht, hq, hi2, h0, e1, hf, newRow, newObj, Array.range_zero', Sem.run_bind, Sem.run_pure, Result.andThen, Sem.run]
      simp [execOp, ho, Instr.buildSlice, underlying, sizeOf, typeInfo, zeroValue, program, ht, hq, hi1, hi2, h0, e1, show ¬ 16777216 < len * size by omega, newRow, newObj, Sem.run_bind, Sem.run_pure, Result.andThen, Sem.run]
      simp [hfill, Sem.run_bind, Sem.run_pure, Result.andThen, Sem.run]
  subst hw
  exact New.push _ _ _
/-- the parts of a literal that gives each element, in their order -/
def evsI (E : Env) : Nat → List (Nat × Operand) → Option (List Value)
  | _, [] => some []
  | k, (i, x) :: l => bif Nat.beq i k then (match ev E x, evsI E (k + 1) l with
    | some v, some vs => some (v :: vs)
    | _, _ => none) else none
def enumV : Nat → List Value → List (Nat × Value)
  | _, [] => []
  | k, v :: l => (k, v) :: enumV (k + 1) l
theorem partsOf_evsI : ∀ {l : List (Nat × Operand)} {k : Nat} {us : List Value}, evsI E k l = some us → partsOf E l = some (enumV k us) := by
  intro l
  induction l with
  | nil => intro k us h; simp [evsI] at h; subst h; rfl
  | cons p l ih =>
    obtain ⟨i, x⟩ := p
    intro k us h
    simp only [evsI] at h
    cases hb : Nat.beq i k with
    | false => rw [hb] at h; cases h
    | true =>
      have e := Nat.eq_of_beq_eq_true hb
      subst e
      rw [hb] at h
      simp only [cond_true] at h
      cases h1 : ev E x with
      | none => rw [h1] at h; simp at h
      | some u =>
        cases h2 : evsI E (i + 1) l with
        | none => rw [h1, h2] at h; simp at h
        | some ul => rw [h1, h2] at h; simp at h; subst h; simp [partsOf, h1, ih h2, enumV]
def szd (sz : Nat) : List Value → Bool
  | [] => true
  | v :: l => Nat.beq v.cells.size sz && szd sz l
def flatV : List Value → List Value
  | [] => []
  | v :: l => v.cells.toList ++ flatV l
theorem foldl_put (vs : List Value) : ∀ (off i : Nat) (cells : Array Value), off + i + vs.length ≤ cells.size →
    ((vs.zipIdx i).foldl (fun cs (c : Value × Nat) => cs.setIfInBounds (off + c.2) c.1) cells).toList = cells.toList.take (off + i) ++ vs ++ cells.toList.drop (off + i + vs.length) := by
  induction vs with
  | nil => intro off i cells h; simp
  | cons v vs ih =>
    intro off i cells h
    simp only [List.length_cons] at h
    simp only [List.zipIdx_cons, List.foldl_cons]
    rw [ih _ _ _ (by simp; omega)]
    simp only [Array.toList_setIfInBounds, List.length_cons]
    have hlt : off + i < cells.toList.length := by simp; omega
    rw [List.set_eq_take_append_cons_drop, if_pos hlt]
    have e1 : (cells.toList.take (off + i)).length = off + i := by simp; omega
    rw [show off + (i + 1) = off + i + 1 by omega]
    have t1 : List.take (off + i + 1) (List.take (off + i) cells.toList ++ v :: List.drop (off + i + 1) cells.toList) = List.take (off + i) cells.toList ++ [v] := by
      rw [List.take_append, e1, List.take_of_length_le (by omega)]
      simp
    have t2 : List.drop (off + i + 1 + vs.length) (List.take (off + i) cells.toList ++ v :: List.drop (off + i + 1) cells.toList) = List.drop (off + i + (vs.length + 1)) cells.toList := by
      rw [List.drop_append, e1, List.drop_of_length_le (by omega)]
      rw [show off + i + 1 + vs.length - (off + i) = vs.length + 1 by omega]
      simp only [List.nil_append, List.drop_succ_cons, List.drop_drop]
      congr 1; omega
    rw [t1, t2]
    simp
theorem fill_enum {sz : Nat} : ∀ (us : List Value) (k : Nat) (cells : Array Value), szd sz us = true → (k + us.length) * sz ≤ cells.size →
    Instr.fill (fun i => some (i * sz, sz)) cells (enumV k us) = some (cells.toList.take (k * sz) ++ flatV us ++ cells.toList.drop ((k + us.length) * sz)).toArray := by
  intro us
  induction us with
  | nil => intro k cells _ _; simp [enumV, Instr.fill, flatV]
  | cons v us ih =>
    intro k cells h hle
    simp only [szd, Bool.and_eq_true] at h
    obtain ⟨h1, h2⟩ := h
    have h1 := Nat.eq_of_beq_eq_true h1
    have hk : k * sz + sz + us.length * sz = (k + (us.length + 1)) * sz := by rw [Nat.add_mul, Nat.add_mul]; omega
    simp only [List.length_cons] at hle
    rw [← hk] at hle
    simp only [enumV, Instr.fill, h1]
    rw [if_neg (by simp; omega)]
    have hf := foldl_put v.cells.toList (k * sz) 0 cells (by simp; omega)
    have e0 : (Array.foldl (fun cs (x : Value × Nat) => match x with | (c, j) => cs.setIfInBounds (k * sz + j) c) cells v.cells.zipIdx) = ((v.cells.toList.zipIdx 0).foldl (fun cs (c : Value × Nat) => cs.setIfInBounds (k * sz + c.2) c.1) cells) := by
      rw [← Array.foldl_toList]; simp
    rw [e0]
    rw [ih (k + 1) _ h2 (by
      have : ((v.cells.toList.zipIdx 0).foldl (fun cs (c : Value × Nat) => cs.setIfInBounds (k * sz + c.2) c.1) cells).size = cells.size := by
        have hz : ∀ (l : List (Value × Nat)) (c : Array Value), (l.foldl (fun cs (c : Value × Nat) => cs.setIfInBounds (k * sz + c.2) c.1) c).size = c.size := by
          intro l; induction l with
          | nil => intro c; rfl
          | cons a l ih => intro c; simp only [List.foldl_cons]; rw [ih]; simp
        exact hz _ _
      rw [this, show (k + 1 + us.length) * sz = k * sz + sz + us.length * sz by rw [Nat.add_mul, Nat.add_mul]; omega]; omega), hf]
    simp only [Nat.add_zero, Array.length_toList, h1, flatV, List.length_cons]
    have e1 : (cells.toList.take (k * sz)).length = k * sz := by simp; omega
    have e2 : (List.take (k * sz) cells.toList ++ v.cells.toList).length = k * sz + sz := by simp [h1]; omega
    congr 2
    rw [show (k + 1) * sz = k * sz + sz by rw [Nat.add_mul]; omega]
    rw [List.take_append_of_le_length (by rw [e2]; omega), List.take_of_length_le (by rw [e2]; omega)]
    rw [show (k + 1 + us.length) * sz = (k * sz + sz) + us.length * sz by rw [Nat.add_mul, Nat.add_mul]; omega]
    rw [List.drop_append, e2, List.drop_of_length_le (by rw [e2]; omega)]
    rw [← hk]
    simp only [List.nil_append, List.drop_drop, List.append_assoc]
    congr 4; omega
theorem M.lit {T e : TypeId} {len : Nat} {parts : Array (Nat × Operand)} {us : List Value} {z : Value} {size : Nat} (ho : o.op = .buildSlice T len parts) (ht : P.underlying T = some (.slice e)) (hi : (P.info? e).map (fun i => (i.zero, i.size)) = some (some z, size)) (hlen : len * size ≤ 16777216)
    (hp : evsI E 0 parts.toList = some us) (hl : us.length = len) (hs : szd size us = true) :
    RunM P E H o (fun u H' => u = .slice (some ⟨H.size, 0, none⟩) len len ∧ New H (flatV us) e H') := by
  have h1 := partsOf_evsI hp
  have hsz : ((Array.range (len * size)).map (z.cells[· % z.cells.size]!)).size = len * size := by simp
  have h2 := fill_enum us 0 ((Array.range (len * size)).map (z.cells[· % z.cells.size]!)) hs (by rw [hsz, Nat.zero_add, hl]; omega)
  have h3 := M.buildSlice (H := H) ho ht hi hlen h1 h2
  have e : (((Array.range (len * size)).map (z.cells[· % z.cells.size]!)).toList.take (0 * size) ++ flatV us ++ ((Array.range (len * size)).map (z.cells[· % z.cells.size]!)).toList.drop ((0 + us.length) * size)).toArray.toList = flatV us := by
    have hd : ((Array.range (len * size)).map (z.cells[· % z.cells.size]!)).toList.drop ((0 + us.length) * size) = [] := by
      rw [List.drop_eq_nil_iff, Array.length_toList, hsz, Nat.zero_add, hl]; omega
    simp only [Nat.zero_mul, List.take_zero, hd, List.nil_append, List.append_nil]
  rw [e] at h3
  exact h3
/-- a struct's value -/
theorem R.build {T : TypeId} {parts : Array (Nat × Operand)} {vs : List (Nat × Value)} {z : Value} {cs : Array Value} {fields : Array Field} {places : Array (Nat × Nat)} (ho : o.op = .build T parts) (ht : P.underlying T = some (.struct fields)) (hz : (P.info? T).map (·.zero) = some (some z))
    (hpl : ∀ w, (fields.mapM (m := Sem) fun f => Prod.mk f.offset <$> sizeOf f.type).run P w = .ok places w)
    (hp : partsOf E parts.toList = some vs) (hfill : Instr.fill (places[·]?) z.cells vs = some cs) : Run P E H o (.agg cs) := by
  intro ρ w ha hw
  cases hq : P.info? T with
  | none => simp [hq] at hz
  | some i =>
    simp [hq] at hz
    have e1 : List.map (fun p => (p.1, ρ p.2)) parts.toList = vs := ha.parts hp
    have h1 := hpl w
    simp [execOp, ho, Instr.build, underlying, zeroValue, typeInfo, program, ht, hq, hz, e1, Sem.run_bind, Sem.run_pure, Result.andThen, Sem.run]
    simp only [h1]
    simp [hfill, Sem.run_bind, Sem.run_pure, Result.andThen, Sem.run]
/-- a struct's cells: each from the part that gives it, or nought -/
def atOff : List (Nat × Operand) → Nat → Option Operand
  | [], _ => none
  | (o, x) :: l, k => bif Nat.beq o k then some x else atOff l k
def buildL (E : Env) : List Value → Nat → List (Nat × Operand) → Option (List Value)
  | [], _, _ => some []
  | z :: zs, k, ps => match atOff ps k with
    | none => (match buildL E zs (k + 1) ps with
      | some vs => some (z :: vs)
      | none => none)
    | some x => (match ev E x, buildL E zs (k + 1) ps with
      | some v, some vs => some (v :: vs)
      | _, _ => none)
def offsOf (fields : List Field) : List (Nat × Operand) → Option (List (Nat × Operand))
  | [] => some []
  | (i, x) :: l => match nth fields i, offsOf fields l with
    | some f, some r => some ((f.offset, x) :: r)
    | _, _ => none
/-- what each part is, of one cell -/
def OneAll (E : Env) : List (Nat × Operand) → Prop
  | [] => True
  | p :: l => (∃ v, ev E p.2 = some v ∧ v.cells = #[v]) ∧ OneAll E l
def apartB : List (Nat × Operand) → Bool
  | [] => true
  | (o, _) :: l => (l.all fun p => !Nat.beq p.1 o) && apartB l
def szOk (pl : List (Nat × Nat)) (fields : List Field) : List (Nat × Operand) → Prop
  | [] => True
  | (i, _) :: l => (∃ f, nth fields i = some f ∧ nth pl i = some (f.offset, 1)) ∧ szOk pl fields l
theorem atOff_none {ps : List (Nat × Operand)} {k : Nat} (h : ∀ p ∈ ps, p.1 ≠ k) : atOff ps k = none := by
  induction ps with
  | nil => rfl
  | cons p l ih =>
    obtain ⟨o, y⟩ := p
    simp only [atOff]
    have : Nat.beq o k = false := by
      cases hb : Nat.beq o k with
      | false => rfl
      | true => exact absurd (Nat.eq_of_beq_eq_true hb) (h (o, y) List.mem_cons_self)
    rw [this]
    exact ih fun p hp => h p (List.mem_cons_of_mem _ hp)
theorem fill_struct {fields : Array Field} {pl : List (Nat × Nat)} :
    ∀ (parts : List (Nat × Operand)) (offs : List (Nat × Operand)) (vs : List (Nat × Value)) (cells : Array Value), offsOf fields.toList parts = some offs → szOk pl fields.toList parts → OneAll E parts → partsOf E parts = some vs → apartB offs = true → (∀ p ∈ offs, p.1 < cells.size) →
      ∃ cs : Array Value, Instr.fill (pl.toArray[·]?) cells vs = some cs ∧ cs.size = cells.size ∧ ∀ k, k < cells.size → cs[k]? = (match atOff offs k with | none => cells[k]? | some x => ev E x) := by
  intro parts
  induction parts with
  | nil =>
    intro offs vs cells h1 _ _ h3 _ _
    simp only [offsOf, Option.some.injEq] at h1
    simp only [partsOf, Option.some.injEq] at h3
    subst h1; subst h3
    exact ⟨cells, rfl, rfl, fun k _ => rfl⟩
  | cons p parts ih =>
    obtain ⟨i, x⟩ := p
    intro offs vs cells h1 hsz h2 h3 h4 h5
    simp only [offsOf] at h1
    cases hn : nth fields.toList i with
    | none => rw [hn] at h1; simp at h1
    | some f =>
      cases ho : offsOf fields.toList parts with
      | none => rw [hn, ho] at h1; simp at h1
      | some r =>
        rw [hn, ho] at h1
        simp only [Option.some.injEq] at h1
        subst h1
        obtain ⟨⟨v, hv, hc⟩, h2'⟩ := h2
        simp only [partsOf] at h3
        rw [hv] at h3
        cases hp : partsOf E parts with
        | none => rw [hp] at h3; simp at h3
        | some vs' =>
          rw [hp] at h3
          simp only [Option.some.injEq] at h3
          subst h3
          obtain ⟨⟨f', hf', hs1⟩, hsz'⟩ := hsz
          rw [hn] at hf'
          simp only [Option.some.injEq] at hf'
          subst hf'
          rw [nth_eq] at hs1
          have hplace : pl.toArray[i]? = some (f.offset, 1) := by simpa using hs1
          have hlt := h5 (f.offset, x) List.mem_cons_self
          simp only [apartB, Bool.and_eq_true, List.all_eq_true, Bool.not_eq_true'] at h4
          obtain ⟨cs, k1, k2, k3⟩ := ih r vs' (cells.setIfInBounds f.offset v) ho hsz' h2' hp h4.2 (fun p hp => by simpa using h5 p (List.mem_cons_of_mem _ hp))
          refine ⟨cs, ?_, by simpa using k2, fun k hk => ?_⟩
          · simp only [Instr.fill, hplace, hc]
            rw [if_neg (by simp; exact hlt)]
            simpa using k1
          rw [k3 k (by simpa using hk)]
          simp only [atOff]
          cases hb : Nat.beq f.offset k with
          | true =>
            have e := Nat.eq_of_beq_eq_true hb
            subst e
            have : atOff r f.offset = none := atOff_none fun p hp e => by
              have := h4.1 p hp
              rw [e, Nat.beq_refl] at this; cases this
            rw [this]
            simp [hv, hk]
          | false =>
            have e : f.offset ≠ k := fun e => by rw [e, Nat.beq_refl] at hb; cases hb
            simp only [cond_false]
            cases atOff r k with
            | none => simp [Array.getElem?_setIfInBounds_ne e]
            | some y => rfl
theorem buildL_spec {ps : List (Nat × Operand)} : ∀ (zs : List Value) (k : Nat) (vs : List Value), buildL E zs k ps = some vs → vs.length = zs.length ∧ ∀ j, j < zs.length → vs[j]? = (match atOff ps (k + j) with | none => zs[j]? | some x => ev E x) := by
  intro zs
  induction zs with
  | nil => intro k vs h; simp [buildL] at h; subst h; exact ⟨rfl, fun j hj => by simp at hj⟩
  | cons z zs ih =>
    intro k vs h
    simp only [buildL] at h
    cases ha : atOff ps k with
    | none =>
      rw [ha] at h
      dsimp only at h
      cases hb : buildL E zs (k + 1) ps with
      | none => rw [hb] at h; cases h
      | some r =>
        rw [hb] at h
        simp only [Option.some.injEq] at h
        subst h
        obtain ⟨h1, h2⟩ := ih _ _ hb
        refine ⟨by simp [h1], fun j hj => ?_⟩
        cases j with
        | zero => simp [ha]
        | succ j => simp only [List.getElem?_cons_succ]; rw [h2 j (by simpa using hj)]; simp [Nat.add_assoc, Nat.add_comm 1 j]
    | some x =>
      rw [ha] at h
      dsimp only at h
      cases hv : ev E x with
      | none => rw [hv] at h; simp at h
      | some v =>
        cases hb : buildL E zs (k + 1) ps with
        | none => rw [hv, hb] at h; simp at h
        | some r =>
          rw [hv, hb] at h
          simp only [Option.some.injEq] at h
          subst h
          obtain ⟨h1, h2⟩ := ih _ _ hb
          refine ⟨by simp [h1], fun j hj => ?_⟩
          cases j with
          | zero => simp [ha, hv]
          | succ j => simp only [List.getElem?_cons_succ]; rw [h2 j (by simpa using hj)]; simp [Nat.add_assoc, Nat.add_comm 1 j]
/-- a struct's value, of parts of one cell each -/
theorem R.buildL {T : TypeId} {parts : Array (Nat × Operand)} {offs : List (Nat × Operand)} {zs us : List Value} {fields : Array Field} (ho : o.op = .build T parts) (ht : P.underlying T = some (.struct fields)) (hz : (P.info? T).map (·.zero) = some (some (.agg zs.toArray)))
    (pl : List (Nat × Nat)) (hpl : ∀ w, (fields.mapM (m := Sem) fun f => Prod.mk f.offset <$> sizeOf f.type).run P w = .ok pl.toArray w)
    (hof : offsOf fields.toList parts.toList = some offs) (hsz : szOk pl fields.toList parts.toList) (hap : apartB offs = true) (hlt : (offs.all fun p => Nat.blt p.1 zs.length) = true) (h1 : OneAll E parts.toList) (hb : Go.Proofs.YtldmfchamcpmmaaDoor.buildL E zs 0 offs = some us) : Run P E H o (.agg us.toArray) := by
  have hvs : ∃ vs, partsOf E parts.toList = some vs := by
    have key : ∀ l : List (Nat × Operand), OneAll E l → ∃ vs, partsOf E l = some vs := by
      intro l
      induction l with
      | nil => intro _; exact ⟨[], rfl⟩
      | cons p l ih =>
        obtain ⟨i, x⟩ := p
        rintro ⟨⟨v, hv, _⟩, h⟩
        obtain ⟨vs, hvs⟩ := ih h
        exact ⟨(i, v) :: vs, by simp only [partsOf, hvs]; rw [hv]⟩
    exact key _ h1
  obtain ⟨vs, hvs⟩ := hvs
  obtain ⟨cs, k1, k2, k3⟩ := fill_struct parts.toList offs vs zs.toArray hof hsz h1 hvs hap (fun p hp => by have := List.all_eq_true.1 hlt p hp; simpa using this)
  obtain ⟨b1, b2⟩ := buildL_spec _ _ _ hb
  have e : cs = us.toArray := by
    apply Array.ext_getElem?
    intro k
    by_cases hk : k < zs.length
    · rw [k3 k (by simpa using hk)]
      have := b2 k hk
      rw [Nat.zero_add] at this
      simp only [List.getElem?_toArray]
      rw [this]
    rw [Array.getElem?_eq_none (by rw [k2]; simpa using hk), Array.getElem?_eq_none (by simp [b1]; omega)]
  rw [← e]
  exact R.build ho ht hz hpl hvs k1
/-! ### stores -/
theorem S.store {T : TypeId} {x y : Operand} {g i : Nat} {cs : List Value} {t : TypeId} (ho : o.op = .store T x y) (hs : (P.info? T).map (·.size) = some 1) (hx : ev E x = some (.pointer (some ⟨g, i, none⟩))) (hy : ev E y = some v) (hv : v.cells = #[v]) (h1 : v.oneCell' = true)
    (hb : H[g]? = some (.cells cs.toArray t (0, 0))) (hi : i < cs.length) : RunS P E H o (fun H' => Upd g H H' ∧ H'[g]? = some (.cells (cs.set i v).toArray t (0, 0))) := by
  intro ρ w ha hw
  subst hw
  have hst := run_storeCells_at P g i t [v] 0 cs.toArray w hb (by simp; omega) (by simpa using h1)
  have e : (cs.toArray.toList.take (i + 0) ++ [v] ++ cs.toArray.toList.drop (i + 0 + [v].length)).toArray = (cs.set i v).toArray := by
    simp [List.set_eq_take_append_cons_drop, hi]
  rw [e] at hst
  cases hq : P.info? T with
  | none => simp [hq] at hs
  | some inf =>
    simp [hq] at hs
    refine ⟨w.setRow g (cs.set i v).toArray, ?_, ⟨rfl, rfl, rfl, rfl⟩, ⟨by simp, fun k hk => setRow_other w g k _ hk⟩, setRow_heap w g _ _ t _ hb⟩
    simp [execOp, ho, ha x _ hx, ha y _ hy, Instr.storeAt, Instr.sureAddr, storeVar, sizeOf, typeInfo, program, hq, hs, hv, hst, Sem.run_bind, Sem.run_pure, Result.andThen, Sem.run]
/-- a whole struct or array stored into the head of a block or within it -/
theorem S.storeAgg {T : TypeId} {x y : Operand} {g i m : Nat} {cs us : List Value} {t : TypeId} (ho : o.op = .store T x y) (hs : (P.info? T).map (·.size) = some m) (hx : ev E x = some (.pointer (some ⟨g, i, none⟩))) (hy : ev E y = some (.agg us.toArray)) (hm : us.length = m) (h1 : ∀ u ∈ us, u.oneCell' = true)
    (hb : H[g]? = some (.cells cs.toArray t (0, 0))) (hi : i + us.length ≤ cs.length) : RunS P E H o (fun H' => Upd g H H' ∧ H'[g]? = some (.cells (cs.take i ++ us ++ cs.drop (i + us.length)).toArray t (0, 0))) := by
  subst hm
  intro ρ w ha hw
  subst hw
  have hst := run_storeCells_at P g i t us 0 cs.toArray w hb (by simpa using hi) h1
  simp only [Nat.add_zero] at hst
  cases hq : P.info? T with
  | none => simp [hq] at hs
  | some inf =>
    simp [hq] at hs
    refine ⟨w.setRow g (cs.take i ++ us ++ cs.drop (i + us.length)).toArray, ?_, ⟨rfl, rfl, rfl, rfl⟩, ⟨by simp, fun k hk => setRow_other w g k _ hk⟩, setRow_heap w g _ _ t _ hb⟩
    simp [execOp, ho, ha x _ hx, ha y _ hy, Instr.storeAt, Instr.sureAddr, storeVar, sizeOf, typeInfo, program, hq, hs, Value.cells, hst, Sem.run_bind, Sem.run_pure, Result.andThen, Sem.run]
/-! ### regions that draw their order -/
/-- .. whose operations leave memory alone -/
def KD (P : Program) (n : Nat) (W0 : World) (Q : Exit → Act → World → Prop) (ops l : List Oper) (E : Env) (H : Heap) : Prop :=
  ∀ a, Rep n E a → wpQuiet P ops.toArray (St W0 H) (fun a' => ∀ w', St W0 H w' → Q .normal a' w') l a
theorem KC.quiet {id : Nat} {l : List Oper} (hm : P.follows .mixedOrders = true) (hB : Region.lexB .any l.toArray = true) (h : KD P n W0 Q l l E H) : KC P n W0 Q (.region id l.toArray true) E H :=
  fun a w ha hw => wp_region_quiet (C := St W0 H) hm hB ⟨hw.heap, hw.os, hw.tape, hw.output⟩ (h a ha)
theorem KD.nil (h : KQ n W0 Q .normal E H) : KD P n W0 Q ops [] E H := fun a ha => wpQuiet_nil fun w' hw' => h a w' ha hw'
theorem KD.op (hr : Run P E H o v) (hd : o.dst = some d) (hn : Nat.blt d n = true) (hg : want ops E o.guard = some true) (h : KD P n W0 Q ops rest ((d, v) :: E) H) : KD P n W0 Q ops (o :: rest) E H := by
  intro a ha
  refine wpQuiet_step fun K hK => ?_
  rw [if_pos (want_wanted ha hg)]
  refine ⟨v, fun w hw => ?_, ?_⟩
  · unfold Oper.quietAt
    rw [hr a.eval w ha.agree hw.heap]
    exact ⟨rfl, rfl⟩
  rw [hd]; exact hK _ (h _ (ha.put hn v))
theorem KD.skip (hd : o.dst = some d) (hn : Nat.blt d n = true) (hg : want ops E o.guard = some false) (h : KD P n W0 Q ops rest ((d, undef) :: E) H) : KD P n W0 Q ops (o :: rest) E H := by
  intro a ha
  refine wpQuiet_step fun K hK => ?_
  rw [if_neg (by rw [want_wanted ha hg]; simp), hd]
  exact hK _ (h _ (ha.put hn _))
theorem KD.opG {c : Bool} (hr : c = true → Run P E H o v) (hd : o.dst = some d) (hn : Nat.blt d n = true) (hg : want ops E o.guard = some c) (h : KD P n W0 Q ops rest ((d, gval c v) :: E) H) : KD P n W0 Q ops (o :: rest) E H := by
  cases c with
  | true => exact KD.op (hr rfl) hd hn hg h
  | false => exact KD.skip hd hn hg h
theorem KD.call {f : FuncId} {fo : Operand} {xs : Array Operand} {ts : Array TypeId} {first cap : Array Value} {vs args : List Value} (ho : o.op = .call { callee := .value fo, args := xs, argTypes := ts })
    (hf : ev E fo = some (.func (.func f) first cap)) (has : evs E xs.toList = some vs) (hl : first.toList ++ vs ++ cap.toList = args) (hcall : Enters P f) (hd : o.dst = some d) (hn : Nat.blt d n = true) (hg : want ops E o.guard = some true)
    (hc : Ct P f args H (fun u H' => u = v ∧ H = H')) (h : KD P n W0 Q ops rest ((d, v) :: E) H) : KD P n W0 Q ops (o :: rest) E H := by
  intro a ha
  refine wpQuiet_step fun K hK => ?_
  rw [if_pos (want_wanted ha hg)]
  refine ⟨v, fun w hw => ?_, ?_⟩
  · unfold Oper.quietAt
    rw [run_call ha.agree ho hf has hl hcall]
    refine ⟨rfl, (hc w hw.heap).mono ?_⟩
    rintro e w' ⟨u, rfl, hst, rfl, hH⟩
    exact ⟨rfl, by have := hw.trans hst; rwa [← hH] at this⟩
  rw [hd]; exact hK _ (h _ (ha.put hn v))
theorem KD.case {c : Bool} (hget : get E d = some (.bool c)) (ht : c = true → KD P n W0 Q ops rest ((d, .bool true) :: E) H) (hf : c = false → KD P n W0 Q ops rest ((d, .bool false) :: E) H) : KD P n W0 Q ops rest E H := by
  intro a ha
  cases hc : c with
  | true => exact ht hc a (ha.sub (sub_case hget true hc))
  | false => exact hf hc a (ha.sub (sub_case hget false hc))
end
/-- a contract at the end of all: true, and what was there is there -/
theorem Ct.calls {P : Program} {f : FuncId} {args : List Value} {w : World} {v : Value} (h : Ct P f args w.heap (fun u H' => u = v ∧ Old w.heap H')) : Calls P f args.toArray w fun e w' => e = .returned v ∧ Below w.heap.size w w' :=
  (h w rfl).mono fun e w' ⟨u, he, hs, hu, ho⟩ => ⟨by rw [he, hu], hs.os, hs.tape, hs.output, ho.1, ho.2⟩
end Go.Proofs.YtldmfchamcpmmaaDoor
namespace Go.Proofs.YtldmfchamcpmmaaDoor
open Go Go.RowKit Go.ChangeShapes Go.WideShapes Go.Deep
set_option linter.unusedVariables false
set_option linter.unusedSimpArgs false
theorem emptyOld (H : Heap) : Old #[] H := ⟨Nat.zero_le _, fun k hk => absurd hk (Nat.not_lt_zero k)⟩
/-- how an element's cells read -/
abbrev El (α : Type) := Heap → List Value → α → Prop
/-- a slice's head -/
def vbase : Value → Addr
  | .slice (some a) _ _ => a
  | _ => ⟨0, 0, none⟩
def vblock (v : Value) : Nat := (vbase v).block
/-- The slice value v reads as l, its elements of n cells each by E. -/
def Sl {α : Type} (n : Nat) (E : El α) (H : Heap) (v : Value) (l : List α) : Prop :=
  ∃ a cap, v = .slice a l.length cap ∧ l.length ≤ cap ∧ cap ≤ maxLen ∧ (a = none → cap = 0) ∧ (0 < l.length → ∀ p, a = some p → p.spot = none) ∧
    ∀ j x, nth l j = some x → ∃ cs, cs.length = n ∧ CellsH H ((vbase v).add (j * n)) cs ∧ E H cs x
/-- a reading that new blocks do not change -/
class Keeps {α : Type} (E : El α) : Prop where
  keep : ∀ {H H' : Heap} {cs : List Value} {x : α}, Old H H' → E H cs x → E H' cs x
section
variable {α : Type} {n : Nat} {E : El α} {H H' : Heap} {v : Value} {l : List α}
theorem Sl.old [k : Keeps E] (h : Sl n E H v l) (ho : Old H H') : Sl n E H' v l := by
  obtain ⟨a, cap, hv, h1, h2, h3, h4, h5⟩ := h
  refine ⟨a, cap, hv, h1, h2, h3, h4, fun j x hj => ?_⟩
  obtain ⟨cs, hl, hc, hx⟩ := h5 j x hj
  exact ⟨cs, hl, ho.cells hc, k.keep ho hx⟩
theorem Sl.nil (n : Nat) (E : El α) (H : Heap) : Sl n E H (.slice none 0 0) [] := ⟨none, 0, rfl, by simp, by unfold maxLen; omega, fun _ => rfl, by simp, by simp [nth]⟩
theorem Sl.val (h : Sl n E H v l) : ∃ a cap, v = .slice a l.length cap := let ⟨a, cap, hv, _⟩ := h; ⟨a, cap, hv⟩
theorem Sl.len (h : Sl n E H v l) : l.length ≤ 9223372036854775807 := by
  obtain ⟨a, cap, hv, h1, h2, _⟩ := h; unfold maxLen at h2; omega
theorem Sl.cells1 (h : Sl n E H v l) : v.cells = #[v] := by obtain ⟨a, cap, rfl⟩ := h.val; rfl
theorem Sl.one (h : Sl n E H v l) : v.oneCell' = true := by obtain ⟨a, cap, rfl⟩ := h.val; rfl
theorem Sl.addr (h : Sl n E H v l) (hl : 0 < l.length) : ∃ a cap, v = .slice (some a) l.length cap ∧ a.spot = none ∧ vbase v = a := by
  obtain ⟨a, cap, rfl, h1, h2, h3, h4, h5⟩ := h
  cases a with
  | none => have := h3 rfl; omega
  | some a => exact ⟨a, cap, rfl, h4 hl a rfl, rfl⟩
theorem nth_lt {α : Type} {l : List α} {j : Nat} {x : α} (h : nth l j = some x) : j < l.length := by rw [nth_eq] at h; exact (List.getElem?_eq_some_iff.1 h).1
theorem nth_getD {α : Type} [Inhabited α] {l : List α} {j : Nat} (h : j < l.length) : nth l j = some (l.getD j default) := by rw [nth_eq, List.getD_eq_getElem?_getD, List.getElem?_eq_getElem h]; rfl
/-- an element's cells -/
theorem Sl.at [Inhabited α] (h : Sl n E H v l) (j : Nat) (hj : j < l.length) : ∃ cs, cs.length = n ∧ CellsH H ((vbase v).add (j * n)) cs ∧ E H cs (l.getD j default) := by
  obtain ⟨a, cap, rfl, h1, h2, h3, h4, h5⟩ := h
  exact h5 j _ (nth_getD hj)
theorem add_add (p : Addr) (h : p.spot = none) (i j : Nat) : (p.add i).add j = p.add (i + j) := by
  obtain ⟨b, o, s⟩ := p
  simp at h; subst h
  unfold Addr.add
  by_cases h1 : i = 0 <;> by_cases h2 : j = 0 <;> simp [h1, h2, Nat.add_assoc]
theorem add_zero (p : Addr) : p.add 0 = p := by simp [Addr.add]
/-- one cell that is an integer -/
def EInt (k : IntKind) : El Int := fun _ cs x => cs = [.int k x] ∧ InR k x
def EBool : El Bool := fun _ cs x => cs = [.bool x]
instance keepsInt (k : IntKind) : Keeps (EInt k) := ⟨fun _ h => h⟩
instance keepsBool : Keeps EBool := ⟨fun _ h => h⟩
theorem Sl.int {k : IntKind} {l : List Int} (h : Sl 1 (EInt k) H v l) (j : Nat) (hj : j < l.length) : cellH H ((vbase v).add j) = some (.int k (l.getD j default)) ∧ InR k (l.getD j default) := by
  obtain ⟨cs, hl, hc, rfl, hr⟩ := h.at j hj
  have := hc 0 _ rfl
  rw [Nat.mul_one, add_zero] at this
  exact ⟨this, hr⟩
theorem Sl.int_range {k : IntKind} {l : List Int} (h : Sl 1 (EInt k) H v l) : ∀ x ∈ l, InR k x := by
  intro x hx
  obtain ⟨j, hj, rfl⟩ := List.getElem_of_mem hx
  have := (h.int j hj).2
  rwa [List.getD_eq_getElem?_getD, List.getElem?_eq_getElem hj] at this
end
section
variable {P : Program} {n d : Nat} {W0 : World} {Q : Exit → Act → World → Prop} {ops rest : List Oper} {o : Oper} {E : Env} {H : Heap} {v : Value}
variable {α : Type} {m : Nat} {F : El α} {l : List α} {Hx : Heap}
theorem R.lenS {T e : TypeId} {x : Operand} (ho : o.op = .call { callee := .builtin .len, args := #[x], argTypes := #[T] }) (ht : P.underlying T = some (.slice e)) (hx : ev E x = some v) (hs : Sl m F Hx v l) : Run P E H o (.int .i64 l.length) := by
  obtain ⟨a, cap, rfl⟩ := hs.val
  exact R.len (ty := 0) ho ht hx
theorem run_index {T e : TypeId} {x i : Operand} {k : IntKind} {j sz len cap : Nat} {p : Addr} {z : Int} (ho : o.op = .indexAddr T x i) (ht : P.underlying T = some (.slice e)) (hz : (P.info? e).map (·.size) = some sz)
    (hx : ev E x = some (.slice (some p) len cap)) (hi : ev E i = some (.int k z)) (hj : z = (j : Int)) (hlt : j < len) : Run P E H o (.pointer (some (p.add (j * sz)))) := by
  intro ρ w ha hw
  subst hj
  cases hq : P.info? e with
  | none => simp [hq] at hz
  | some inf =>
    simp [hq] at hz
    simp [execOp, ho, ha x _ hx, ha i _ hi, Instr.indexAt, asIntOf, underlying, program, ht, sizeOf, typeInfo, hq, hz, hlt, Sem.run_bind, Sem.run_pure, Result.andThen, Sem.run]
/-- the address of an element -/
theorem R.index {T e : TypeId} {x i : Operand} {k : IntKind} {j : Nat} {z : Int} (ho : o.op = .indexAddr T x i) (ht : P.underlying T = some (.slice e)) (hz : (P.info? e).map (·.size) = some m)
    (hx : ev E x = some v) (hi : ev E i = some (.int k z)) (hs : Sl m F Hx v l) (hj : z = (j : Int)) (hlt : j < l.length) : Run P E H o (.pointer (some ((vbase v).add (j * m)))) := by
  obtain ⟨a, cap, rfl, _, hb⟩ := hs.addr (by omega)
  rw [hb]
  exact run_index ho ht hz hx hi hj hlt
theorem R.index1 {T e : TypeId} {x i : Operand} {k : IntKind} {j : Nat} {z : Int} (ho : o.op = .indexAddr T x i) (ht : P.underlying T = some (.slice e)) (hz : (P.info? e).map (·.size) = some 1)
    (hx : ev E x = some v) (hi : ev E i = some (.int k z)) (hs : Sl 1 F Hx v l) (hj : z = (j : Int)) (hlt : j < l.length) : Run P E H o (.pointer (some ((vbase v).add j))) := by
  have := R.index (H := H) ho ht hz hx hi hs hj hlt
  rwa [Nat.mul_one] at this
/-- v[lo:hi] -/
def subV (sz : Nat) (v : Value) (lo hi : Nat) : Value := match v with
  | .slice a n c => .slice (if c = lo then a else a.map (·.add (lo * sz))) (hi - lo) (c - lo)
  | v => v
theorem Sl.sub {lo hi : Nat} (hs : Sl m F H v l) (h1 : lo ≤ hi) (h2 : hi ≤ l.length) : Sl m F H (subV m v lo hi) ((l.take hi).drop lo) := by
  obtain ⟨a, cap, rfl, k1, k2, k3, k4, k5⟩ := hs
  have hl : ((l.take hi).drop lo).length = hi - lo := by simp; omega
  refine ⟨_, _, by rw [hl]; rfl, by rw [hl]; omega, by omega, ?_, ?_, ?_⟩
  · intro h
    split at h
    · omega
    have := k3 (by simpa using h); omega
  · intro h0 p hp
    rw [hl] at h0
    have hl0 : 0 < l.length := by omega
    split at hp
    · exact k4 hl0 p hp
    cases a with
    | none => simp at hp
    | some q =>
      simp at hp
      rw [← hp]
      unfold Addr.add
      split
      · exact k4 hl0 q rfl
      rfl
  intro j x hj
  rw [nth_eq, List.getElem?_drop] at hj
  rw [List.getElem?_take] at hj
  split at hj
  · next hlt =>
    have hj' : nth l (lo + j) = some x := by rw [nth_eq]; exact hj
    obtain ⟨cs, hc1, hc2, hc3⟩ := k5 _ _ hj'
    refine ⟨cs, hc1, ?_, hc3⟩
    cases a with
    | none => have := k3 rfl; omega
    | some q =>
      simp only [subV]
      rw [if_neg (by omega)]
      simp only [Option.map_some, vbase]
      have e : (lo + j) * m = lo * m + j * m := Nat.add_mul _ _ _
      simp only [vbase] at hc2
      rw [e, ← add_add q (k4 (by omega) q rfl)] at hc2
      exact hc2
  cases hj
/-- what an operand of a slicing says -/
def bnd (E : Env) : Option Operand → Nat → Nat → Prop
  | none, dflt, r => r = dflt
  | some x, _, r => ∃ k z, ev E x = some (.int k z) ∧ z = (r : Int)
theorem bnd.mk {x : Operand} {k : IntKind} {z : Int} {df r : Nat} (h : ev E x = some (.int k z)) (e : z = (r : Int)) : bnd E (some x) df r := ⟨k, z, h, e⟩
theorem bnd.no {df : Nat} : bnd E none df df := rfl
theorem run_slice {T e : TypeId} {x : Operand} {lo hi : Option Operand} {a : Option Addr} {len cap i j sz : Nat} (ho : o.op = .slice T x lo hi none) (ht : P.underlying T = some (.slice e)) (hz : (P.info? e).map (·.size) = some sz)
    (hx : ev E x = some (.slice a len cap)) (hlo : bnd E lo 0 i) (hhi : bnd E hi len j) (h1 : i ≤ j) (h2 : j ≤ cap) : Run P E H o (subV sz (.slice a len cap) i j) := by
  intro ρ w ha hw
  have hL : Option.map ρ lo = (match lo with | none => none | some x => some (ρ x)) := by cases lo <;> rfl
  cases hq : P.info? e with
  | none => simp [hq] at hz
  | some inf =>
    simp [hq] at hz
    have key : ∀ (lo' hi' : Option Value), (lo' = none ∧ i = 0 ∨ ∃ k, lo' = some (.int k (i : Int))) → (hi' = none ∧ j = len ∨ ∃ k, hi' = some (.int k (j : Int))) →
        (Instr.sliceAt T (.slice a len cap) lo' hi' none).run P w = .ok (subV sz (.slice a len cap) i j) w := by
      intro lo' hi' hl hh
      rcases hl with ⟨rfl, rfl⟩ | ⟨k, rfl⟩ <;> rcases hh with ⟨rfl, rfl⟩ | ⟨k', rfl⟩ <;>
        simp [Instr.sliceAt, Instr.slice, Instr.sliceBounds, Instr.sliceBound, asIntOf, underlying, program, ht, sizeOf, typeInfo, hq, hz, subV, Sem.run_bind, Sem.run_pure, Result.andThen, Sem.run] <;>
        (try simp [show ((i : Int) ≤ (j : Int)) by omega]) <;> (try simp [show ((j : Int) ≤ (cap : Int)) by omega]) <;> (try simp [show ((i : Int) ≤ (j : Int)) by omega]) <;> (try simp [h1, h2, Sem.run_bind, Sem.run_pure, Result.andThen, Sem.run])
    have hl : (lo.map ρ = none ∧ i = 0 ∨ ∃ k, lo.map ρ = some (.int k (i : Int))) := by
      cases lo with
      | none => exact .inl ⟨rfl, hlo⟩
      | some y => obtain ⟨k, z, hy, rfl⟩ := hlo; exact .inr ⟨k, by simp [ha y _ hy]⟩
    have hh : (hi.map ρ = none ∧ j = len ∨ ∃ k, hi.map ρ = some (.int k (j : Int))) := by
      cases hi with
      | none => exact .inl ⟨rfl, hhi⟩
      | some y => obtain ⟨k, z, hy, rfl⟩ := hhi; exact .inr ⟨k, by simp [ha y _ hy]⟩
    have := key _ _ hl hh
    simp [execOp, ho, ha x _ hx, this, Sem.run_bind, Sem.run_pure, Result.andThen]
/-- v[lo:hi], within what is read -/
theorem R.slice {T e : TypeId} {x : Operand} {lo hi : Option Operand} {i j : Nat} (ho : o.op = .slice T x lo hi none) (ht : P.underlying T = some (.slice e)) (hz : (P.info? e).map (·.size) = some m)
    (hx : ev E x = some v) (hs : Sl m F Hx v l) (hlo : bnd E lo 0 i) (hhi : bnd E hi l.length j) (h1 : i ≤ j) (h2 : j ≤ l.length) : Run P E H o (subV m v i j) := by
  obtain ⟨a, cap, rfl, k1, _⟩ := hs
  exact run_slice ho ht hz hx hlo hhi h1 (by omega)
end
/-! ### rows of the call's own -/
/-- the slice value v, of n elements of size cells, owns the cells xs; its block is one from B on -/
def OwnH (B : Nat) (e : TypeId) (size : Nat) (H : Heap) (v : Value) (n : Nat) (xs : List Value) : Prop :=
  xs.length = n * size ∧ ((v = .slice none 0 0 ∧ n = 0) ∨
   ∃ g cap cur, v = .slice (some ⟨g, 0, none⟩) n cap ∧ B ≤ g ∧ H[g]? = some (.cells cur e (0, 0)) ∧ n ≤ cap ∧ cap ≤ maxLen ∧ cur.size = cap * size ∧ cur.toList.take (n * size) = xs)
theorem ownH_w {B : Nat} {e : TypeId} {size : Nat} {w : World} {v : Value} {n : Nat} {xs : List Value} : w.ownsRow B e size v n xs ↔ OwnH B e size w.heap v n xs := Iff.rfl
/-- v owns a row that reads as l; what the elements point to lies in H0 -/
def Own {α : Type} (n : Nat) (E : El α) (e : TypeId) (H0 : Heap) (B : Nat) (H : Heap) (v : Value) (l : List α) : Prop :=
  ∃ flat, OwnH B e n H v l.length flat ∧ ∀ j x, nth l j = some x → E H0 ((flat.drop (j * n)).take n) x
section
variable {α : Type} {n : Nat} {E : El α} {e : TypeId} {H0 H H' : Heap} {B : Nat} {v : Value} {l : List α}
theorem Own.nil (n : Nat) (E : El α) (e : TypeId) (H0 : Heap) (B : Nat) (H : Heap) : Own n E e H0 B H (.slice none 0 0) ([] : List α) := ⟨[], ⟨by simp, .inl ⟨rfl, rfl⟩⟩, by simp [nth]⟩
theorem Own.val (h : Own n E e H0 B H v l) : ∃ a cap, v = .slice a l.length cap ∧ l.length ≤ cap ∧ cap ≤ maxLen ∧ (a = none → cap = 0) := by
  obtain ⟨flat, ⟨h0, h1⟩, h2⟩ := h
  rcases h1 with ⟨rfl, h3⟩ | ⟨g, cap, cur, rfl, _, _, h4, h5, _⟩
  · exact ⟨none, 0, by rw [h3], by omega, by unfold maxLen; omega, fun _ => rfl⟩
  exact ⟨_, cap, rfl, h4, h5, by simp⟩
theorem Own.len (h : Own n E e H0 B H v l) : l.length ≤ 9223372036854775807 := by
  obtain ⟨a, cap, hv, h1, h2, _⟩ := h.val; unfold maxLen at h2; omega
theorem Own.cells1 (h : Own n E e H0 B H v l) : v.cells = #[v] := by obtain ⟨a, cap, rfl, _⟩ := h.val; rfl
theorem Own.one (h : Own n E e H0 B H v l) : v.oneCell' = true := by obtain ⟨a, cap, rfl, _⟩ := h.val; rfl
theorem Own.keep (h : Own n E e H0 B H v l) (hk : H'[vblock v]? = H[vblock v]?) : Own n E e H0 B H' v l := by
  obtain ⟨flat, ⟨h0, h1⟩, h2⟩ := h
  refine ⟨flat, ⟨h0, ?_⟩, h2⟩
  rcases h1 with h1 | ⟨g, cap, cur, rfl, hB, hg, r⟩
  · exact .inl h1
  exact .inr ⟨g, cap, cur, rfl, hB, by simp only [vblock, vbase] at hk; rw [hk]; exact hg, r⟩
theorem Own.lt (h : Own n E e H0 B H v l) : v = .slice none 0 0 ∨ (B ≤ vblock v ∧ vblock v < H.size) := by
  obtain ⟨flat, ⟨h0, h1⟩, h2⟩ := h
  rcases h1 with h1 | ⟨g, cap, cur, rfl, hB, hg, r⟩
  · exact .inl h1.1
  exact .inr ⟨hB, blk_lt hg⟩
theorem Own.old (h : Own n E e H0 B H v l) (ho : Old H H') : Own n E e H0 B H' v l := by
  obtain ⟨flat, ⟨h0, h1⟩, h2⟩ := h
  refine ⟨flat, ⟨h0, ?_⟩, h2⟩
  rcases h1 with h1 | ⟨g, cap, cur, rfl, hB, hg, r⟩
  · exact .inl h1
  exact .inr ⟨g, cap, cur, rfl, hB, ho.blk hg, r⟩
theorem Own.upd {g : Nat} (h : Own n E e H0 B H v l) (hu : Upd g H H') (hne : v = .slice none 0 0 ∨ vblock v ≠ g) : Own n E e H0 B H' v l := by
  obtain ⟨flat, ⟨h0, h1⟩, h2⟩ := h
  refine ⟨flat, ⟨h0, ?_⟩, h2⟩
  rcases h1 with h1 | ⟨g', cap, cur, rfl, hB, hg, r⟩
  · exact .inl h1
  refine .inr ⟨g', cap, cur, rfl, hB, ?_, r⟩
  rw [hu.2 g' (by rcases hne with h | h; cases h; exact h)]; exact hg
theorem Own.weak {B' : Nat} (h : Own n E e H0 B H v l) (hB : B' ≤ B) : Own n E e H0 B' H v l := by
  obtain ⟨flat, ⟨h0, h1⟩, h2⟩ := h
  refine ⟨flat, ⟨h0, ?_⟩, h2⟩
  rcases h1 with h1 | ⟨g, cap, cur, hv, hB', r⟩
  · exact .inl h1
  exact .inr ⟨g, cap, cur, hv, by omega, r⟩
theorem Own.sl [k : Keeps E] (h : Own n E e H0 B H v l) (ho : Old H0 H) (hn : 0 < n) : Sl n E H v l := by
  obtain ⟨flat, ⟨h0, h1⟩, h2⟩ := h
  rcases h1 with ⟨rfl, h3⟩ | ⟨g, cap, cur, rfl, hB, hg, h4, h5, h6, h7⟩
  · have : l = [] := List.eq_nil_of_length_eq_zero h3
    subst this; exact Sl.nil _ _ _
  refine ⟨some ⟨g, 0, none⟩, cap, rfl, h4, h5, by simp, fun _ p hp => by cases hp; rfl, fun j x hj => ?_⟩
  have hjl := nth_lt hj
  have hle : j * n + n ≤ l.length * n := by
    have : (j + 1) * n ≤ l.length * n := Nat.mul_le_mul_right n hjl
    rw [Nat.add_mul, Nat.one_mul] at this; exact this
  refine ⟨(flat.drop (j * n)).take n, by simp; omega, fun i u hu => ?_, k.keep ho (h2 j x hj)⟩
  rw [nth_eq, List.getElem?_take] at hu
  split at hu
  · next hi =>
    rw [List.getElem?_drop] at hu
    simp only [vbase]
    rw [add_add _ rfl]
    have e : (Addr.mk g 0 none).add (j * n + i) = ⟨g, j * n + i, none⟩ := by unfold Addr.add; split <;> simp_all
    rw [e]
    rw [← h7, List.getElem?_take] at hu
    split at hu
    · simp only [cellH, hg]
      simpa using hu
    cases hu
  cases hu
end
/-- a literal of one-cell elements -/
theorem Own.lit {α : Type} {E : El α} {e : TypeId} {H0 H H' : Heap} {B : Nat} {cs : List Value} {l : List α} {m : Nat} (hn : New H cs e H') (hB : B ≤ H.size) (hm : m = l.length) (hmx : m ≤ maxLen) (hc : cs.length = l.length) (hE : ∀ j x u, nth l j = some x → nth cs j = some u → E H0 [u] x) :
    Own 1 E e H0 B H' (.slice (some ⟨H.size, 0, none⟩) m m) l := by
  subst hm
  refine ⟨cs, ⟨by simp [hc], .inr ⟨H.size, l.length, cs.toArray, rfl, hB, hn.2.2, Nat.le_refl _, hmx, by simp [hc], by simp [← hc]⟩⟩, fun j x hj => ?_⟩
  have hlt := nth_lt hj
  have hu : cs[j]? = some cs[j] := List.getElem?_eq_getElem (by omega)
  have : (cs.drop (j * 1)).take 1 = [cs[j]] := by
    rw [Nat.mul_one, List.drop_eq_getElem_cons (by omega)]; rfl
  rw [this]
  exact hE j x _ hj (by rw [nth_eq]; exact hu)
/-- a literal of elements of more cells -/
theorem Own.litN {α : Type} {n : Nat} {E : El α} {e : TypeId} {H0 H H' : Heap} {B : Nat} {cs : List Value} {l : List α} {m : Nat} (hn : New H cs e H') (hB : B ≤ H.size) (hm : m = l.length) (hmx : m ≤ maxLen) (hc : cs.length = l.length * n) (hE : ∀ j x, nth l j = some x → E H0 ((cs.drop (j * n)).take n) x) :
    Own n E e H0 B H' (.slice (some ⟨H.size, 0, none⟩) m m) l := by
  subst hm
  exact ⟨cs, ⟨hc, .inr ⟨H.size, l.length, cs.toArray, rfl, hB, hn.2.2, Nat.le_refl _, hmx, by simp [hc], by simp [← hc]⟩⟩, hE⟩
theorem Sl.lit1N {α : Type} {n : Nat} {E : El α} [Keeps E] {H H' : Heap} {e : TypeId} {cs : List Value} {x : α} (hn : New H cs e H') (hc : cs.length = n) (hpos : 0 < n) (hE : E H' cs x) : Sl n E H' (.slice (some ⟨H.size, 0, none⟩) 1 1) [x] := by
  refine (Own.litN (E := E) (H0 := H') (B := 0) (l := [x]) hn (Nat.zero_le _) rfl (by unfold maxLen; simp) (by simp [hc]) ?_).sl (Old.refl _) hpos
  intro j y hj
  match j, hj with
  | 0, hj =>
    cases hj
    have : (cs.drop (0 * n)).take n = cs := by rw [Nat.zero_mul, List.drop_zero, List.take_of_length_le (by omega)]
    rw [this]; exact hE
theorem Sl.lits {k : IntKind} {H H' : Heap} {e : TypeId} {l : List Int} {m : Nat} (hn : New H (l.map (Value.int k)) e H') (hm : m = l.length) (hmx : m ≤ 1000000000) (h : ∀ x ∈ l, InR k x) : Sl 1 (EInt k) H' (.slice (some ⟨H.size, 0, none⟩) m m) l := by
  refine (Own.lit (E := EInt k) (H0 := H') (B := 0) hn (Nat.zero_le _) hm (by unfold maxLen; omega) (by simp) ?_).sl (Old.refl _) (by omega)
  intro j x u hj hu
  rw [nth_eq] at hj hu
  rw [List.getElem?_map, hj] at hu
  cases hu
  exact ⟨rfl, h x (List.mem_of_getElem? hj)⟩
theorem Sl.empty {α : Type} {n : Nat} {E : El α} {H : Heap} {v : Value} (h : Sl n E H v []) (H' : Heap) : Sl n E H' v [] := by
  obtain ⟨a, cap, hv, h1, h2, h3, h4, h5⟩ := h
  exact ⟨a, cap, hv, h1, h2, h3, h4, by simp [nth]⟩
section
variable {P : Program} {n d : Nat} {W0 : World} {Q : Exit → Act → World → Prop} {ops rest : List Oper} {o : Oper} {E : Env} {H H0 : Heap} {v : Value}
variable {α : Type} {F : El α} {l : List α} {B : Nat} {e : TypeId}
theorem R.lenO {T t : TypeId} {x : Operand} (ho : o.op = .call { callee := .builtin .len, args := #[x], argTypes := #[T] }) (ht : P.underlying T = some (.slice t)) (hx : ev E x = some v) {Hx : Heap} (hs : Own n F e H0 B Hx v l) : Run P E H o (.int .i64 l.length) := by
  obtain ⟨a, cap, rfl, _⟩ := hs.val
  exact R.len (ty := 0) ho ht hx
theorem Own.addr {Hx : Heap} (hs : Own n F e H0 B Hx v l) (hl : 0 < l.length) : ∃ g cap, v = .slice (some ⟨g, 0, none⟩) l.length cap ∧ vbase v = ⟨g, 0, none⟩ ∧ vblock v = g ∧ B ≤ g := by
  obtain ⟨flat, ⟨h0, h1⟩, h2⟩ := hs
  rcases h1 with ⟨rfl, h3⟩ | ⟨g, cap, cur, rfl, hB, _⟩
  · omega
  exact ⟨g, cap, rfl, rfl, rfl, hB⟩
theorem R.indexO1 {T t : TypeId} {x i : Operand} {k : IntKind} {j : Nat} {z : Int} (ho : o.op = .indexAddr T x i) (ht : P.underlying T = some (.slice t)) (hz : (P.info? t).map (·.size) = some 1)
    (hx : ev E x = some v) (hi : ev E i = some (.int k z)) {Hx : Heap} (hs : Own 1 F e H0 B Hx v l) (hj : z = (j : Int)) (hlt : j < l.length) : Run P E H o (.pointer (some ((vbase v).add j))) := by
  obtain ⟨g, cap, rfl, hb, _⟩ := hs.addr (by omega)
  rw [hb]
  have := run_index (H := H) ho ht hz hx hi hj hlt
  rwa [Nat.mul_one] at this
/-- v[:hi] of a row of the call's own -/
def toV (v : Value) (hi : Nat) : Value := match v with
  | .slice a n c => .slice a hi c
  | v => v
theorem R.sliceTo {T t : TypeId} {x y : Operand} {k : IntKind} {z : Int} {sz j : Nat} (ho : o.op = .slice T x none (some y) none) (ht : P.underlying T = some (.slice t)) (hz : (P.info? t).map (·.size) = some sz)
    (hx : ev E x = some v) (hy : ev E y = some (.int k z)) {Hx : Heap} (hs : Own n F e H0 B Hx v l) (hj : z = (j : Int)) (hlt : j ≤ l.length) : Run P E H o (toV v j) := by
  obtain ⟨a, cap, rfl, h1, _, h3⟩ := hs.val
  have := run_slice (H := H) (lo := none) (hi := some y) ho ht hz hx bnd.no (bnd.mk hy hj) (by omega) (by omega)
  have e : subV sz (.slice a l.length cap) 0 j = toV (.slice a l.length cap) j := by
    simp only [subV, toV, Nat.sub_zero, Nat.zero_mul]
    split
    · rfl
    cases a <;> simp [Addr.add]
  rwa [e] at this
theorem Own.to {Hx : Heap} {j : Nat} (hs : Own n F e H0 B Hx v l) (hj : j ≤ l.length) : Own n F e H0 B Hx (toV v j) (l.take j) ∧ vblock (toV v j) = vblock v := by
  obtain ⟨flat, ⟨h0, h1⟩, h2⟩ := hs
  have hl : (l.take j).length = j := by simp; omega
  have hle : j * n ≤ l.length * n := Nat.mul_le_mul_right n hj
  refine ⟨⟨flat.take (j * n), ⟨by rw [hl]; simp; omega, ?_⟩, ?_⟩, ?_⟩
  · rcases h1 with ⟨rfl, h3⟩ | ⟨g, cap, cur, rfl, hB, hg, h4, h5, h6, h7⟩
    · left; rw [hl]; exact ⟨by simp [toV]; omega, by omega⟩
    right
    rw [hl]
    refine ⟨g, cap, cur, rfl, hB, hg, by omega, h5, h6, ?_⟩
    rw [← h7, List.take_take, Nat.min_eq_left hle]
  · intro i x hi
    have hil := nth_lt hi
    rw [hl] at hil
    rw [nth_eq, List.getElem?_take, if_pos hil] at hi
    have := h2 i x (by rw [nth_eq]; exact hi)
    rw [List.drop_take, List.take_take]
    have hle2 : i * n + n ≤ j * n := by
      have : (i + 1) * n ≤ j * n := Nat.mul_le_mul_right n hil
      rw [Nat.add_mul, Nat.one_mul] at this; exact this
    rw [Nat.min_eq_left (by omega)]; exact this
  rcases h1 with ⟨rfl, h3⟩ | ⟨g, cap, cur, rfl, hB, hg, _⟩ <;> rfl
theorem Own.int {k : IntKind} {l : List Int} (h : Own 1 (EInt k) e H0 B H v l) (j : Nat) (hj : j < l.length) : cellH H ((vbase v).add j) = some (.int k (l.getD j default)) ∧ InR k (l.getD j default) := by
  have h' : Own 1 (EInt k) e #[] B H v l := by
    obtain ⟨flat, h1, h2⟩ := h
    exact ⟨flat, h1, h2⟩
  have hs := h'.sl (k := keepsInt k) (emptyOld H) (by omega)
  exact hs.int j hj
theorem list_set_flat1 {flat : List Value} {j : Nat} {u : Value} (hj : j < flat.length) (i : Nat) : (((flat.set j u).drop (i * 1)).take 1) = if i = j then [u] else ((flat.drop (i * 1)).take 1) := by
  simp only [Nat.mul_one]
  by_cases h : i = j
  · subst h
    rw [if_pos rfl, List.drop_eq_getElem_cons (by simpa using hj)]
    simp
  rw [if_neg h]
  apply List.ext_getElem?
  intro k
  rw [List.getElem?_take, List.getElem?_take]
  split
  · rw [List.getElem?_drop, List.getElem?_drop, List.getElem?_set_ne (by omega)]
  rfl
/-- one element, of one cell, stored -/
theorem S.own1 {T : TypeId} {x y : Operand} {u : Value} {j : Nat} {a : α} (ho : o.op = .store T x y) (hs : (P.info? T).map (·.size) = some 1) (hx : ev E x = some (.pointer (some ((vbase v).add j)))) (hy : ev E y = some u) (hv : u.cells = #[u]) (h1 : u.oneCell' = true)
    (hown : Own 1 F e H0 B H v l) (hj : j < l.length) (hF : F H0 [u] a) : RunS P E H o (fun H' => Upd (vblock v) H H' ∧ Own 1 F e H0 B H' v (l.set j a)) := by
  obtain ⟨flat, ⟨h0, hcase⟩, hel⟩ := hown
  rcases hcase with ⟨rfl, h3⟩ | ⟨g, cap, cur, rfl, hB, hg, h4, h5, h6, h7⟩
  · omega
  have ep : ((vbase (.slice (some ⟨g, 0, none⟩) l.length cap)).add j) = ⟨g, j, none⟩ := by simp only [vbase]; unfold Addr.add; split <;> simp_all
  rw [ep] at hx
  have hst := S.store (P := P) (E := E) (H := H) (cs := cur.toList) ho hs hx hy hv h1 (by simpa using hg) (by simp; omega)
  intro ρ w ha hw
  obtain ⟨w', hr, hst', hu, hb⟩ := hst ρ w ha hw
  refine ⟨w', hr, hst', hu, flat.set j u, ⟨by simp [h0], .inr ⟨g, cap, (cur.toList.set j u).toArray, by simp, hB, hb, by simp; omega, h5, by simp [h6], ?_⟩⟩, ?_⟩
  · simp only [List.length_set]
    rw [← h7]
    simp [List.take_set]
  intro i b hi
  rw [list_set_flat1 (by omega)]
  rw [nth_eq, List.getElem?_set] at hi
  by_cases hij : i = j
  · subst hij
    simp [hj] at hi; subst hi
    rw [if_pos rfl]; exact hF
  rw [if_neg hij]
  rw [if_neg (fun h => hij h.symm)] at hi
  exact hel i b (by rw [nth_eq]; exact hi)
/-- what is made by an append: a row of v's own block or a new one -/
def Grown (v : Value) (H H' : Heap) : Prop := H.size ≤ H'.size ∧ ∀ k, k < H.size → (v = .slice none 0 0 ∨ k ≠ vblock v) → H'[k]? = H[k]?
theorem Grown.oldB {H H' : Heap} (hg : Grown v H H') (hown : Own n F e H0 B H v l) (hB : B ≤ H.size) : OldB B H H' := by
  refine ⟨hg.1, fun k hk => hg.2 k (by omega) ?_⟩
  rcases hown.lt with h | h
  · exact .inl h
  exact .inr (by omega)
/-- each of an element's cells is one cell's worth -/
class One {α : Type} (E : El α) : Prop where
  one : ∀ {H : Heap} {cs : List Value} {x : α}, E H cs x → ∀ u ∈ cs, u.oneCell' = true
instance oneInt (k : IntKind) : One (EInt k) := ⟨fun h u hu => by obtain ⟨rfl, _⟩ := h; simp at hu; subst hu; rfl⟩
instance oneBool : One EBool := ⟨fun h u hu => by cases h; simp at hu; subst hu; rfl⟩
theorem flat_at {n : Nat} (F : Nat → List Value) (k : Nat) (hF : ∀ j, j < k → (F j).length = n) (j : Nat) (hj : j < k) :
    ((((List.range (k * n)).map (fun q => (F (q / n)).getD (q % n) undef)).drop (j * n)).take n) = F j := by
  have hl := hF j hj
  apply List.ext_getElem?
  intro i
  by_cases hi : i < n
  · have hlt : j * n + i < k * n := by
      have : (j + 1) * n ≤ k * n := Nat.mul_le_mul_right n hj
      rw [Nat.add_mul, Nat.one_mul] at this; omega
    rw [List.getElem?_take, if_pos hi, List.getElem?_drop, List.getElem?_map, List.getElem?_range hlt]
    have e1 : (j * n + i) / n = j := by rw [Nat.mul_comm, Nat.mul_add_div (by omega), Nat.div_eq_of_lt hi]; omega
    have e2 : (j * n + i) % n = i := by rw [Nat.mul_comm, Nat.mul_add_mod, Nat.mod_eq_of_lt hi]
    simp only [Option.map_some, e1, e2]
    rw [List.getElem?_eq_getElem (by omega), List.getD_eq_getElem?_getD, List.getElem?_eq_getElem (by omega)]
    rfl
  rw [List.getElem?_eq_none (by simp; omega), List.getElem?_eq_none (by omega)]
/-- a slice's cells, one behind the other -/
theorem Sl.flat [Inhabited α] (h : Sl n F H v l) (hl : 0 < l.length) : ∃ flat : List Value, flat.length = l.length * n ∧ (∀ q u, flat[q]? = some u → cellH H ((vbase v).add q) = some u) ∧ ∀ j x, nth l j = some x → F H ((flat.drop (j * n)).take n) x := by
  obtain ⟨a, cap, hv, hsp, hb⟩ := h.addr hl
  have hex : ∀ j, j < l.length → ∃ cs : List Value, cs.length = n ∧ (∀ i u, nth cs i = some u → cellH H ((vbase v).add (j * n + i)) = some u) ∧ F H cs (l.getD j default) := by
    intro j hj
    obtain ⟨cs, h1, h2, h3⟩ := h.at j hj
    refine ⟨cs, h1, fun i u hu => ?_, h3⟩
    rw [← add_add _ (by rw [hb]; exact hsp)]; exact h2 i u hu
  obtain ⟨G, hG⟩ := choose_lt hex
  refine ⟨(List.range (l.length * n)).map (fun q => (G (q / n)).getD (q % n) undef), by simp, ?_, ?_⟩
  · intro q u hq
    simp only [List.getElem?_map, Option.map_eq_some_iff] at hq
    obtain ⟨p, hp, rfl⟩ := hq
    obtain ⟨hp1, hp2⟩ := List.getElem?_eq_some_iff.1 hp
    simp at hp1 hp2
    subst hp2
    have hn : 0 < n := by
      rcases Nat.eq_zero_or_pos n with h | h
      · subst h; omega
      exact h
    have hd : q / n < l.length := (Nat.div_lt_iff_lt_mul hn).2 hp1
    have hm := Nat.mod_lt q hn
    obtain ⟨hl, hc, _⟩ := hG (q / n) hd
    have := hc (q % n) ((G (q / n)).getD (q % n) undef) (by rw [nth_eq, List.getD_eq_getElem?_getD, List.getElem?_eq_getElem (by omega)]; rfl)
    rwa [Nat.mul_comm, Nat.div_add_mod] at this
  intro j x hj
  have hlt := nth_lt hj
  rw [flat_at G l.length (fun j h => (hG j h).1) j hlt]
  have := (hG j hlt).2.2
  rw [nth_getD hlt] at hj
  injection hj with hj
  rwa [hj] at this
/-- append of all of a slice to a row of the call's own -/
theorem M.append [Inhabited α] [k1 : One F] {T : TypeId} {s x : Operand} {u : Value} {m : List α} {z : Value} {by' : Nat} (ho : o.op = .call { callee := .builtin .append, args := #[s, x], argTypes := #[T, T] }) (ht : P.underlying T = some (.slice e)) (hi : (P.info? e).map (fun i => (i.zero, i.size, i.bytes)) = some (some z, n, by')) (hz : z.cells.size = n) (hn : 0 < n)
    (hs : ev E s = some v) (hx : ev E x = some u) (hown : Own n F e H0 B H v l) (hm : Sl n F H u m) (hE : ∀ cs y, F H cs y → y ∈ m → F H0 cs y) (hB : B ≤ H.size) (hsz : (l.length + m.length) * by' ≤ 140737488355328) (hlen : l.length + m.length ≤ maxLen) :
    RunM P E H o (fun v' H' => Own n F e H0 B H' v' (l ++ m) ∧ Grown v H H') := by
  intro ρ w ha hw
  obtain ⟨i, hi', hz0, hz1, hz2⟩ : ∃ i, P.info? e = some i ∧ i.zero = some z ∧ i.size = n ∧ i.bytes = by' := by
    cases hq : P.info? e with
    | none => simp [hq] at hi
    | some i => simp [hq] at hi; exact ⟨i, rfl, hi⟩
  by_cases hl : m.length = 0
  · have h2 : m = [] := List.eq_nil_of_length_eq_zero hl
    subst h2
    obtain ⟨a, cap, hu, hc1, hc2, hc3, hc4, _⟩ := hm
    subst hu
    simp only [List.append_nil]
    obtain ⟨flat, hrow, hel⟩ := hown
    cases a with
    | none =>
      have hc0 := hc3 rfl
      subst hc0
      have hrun := run_append_owned_none (P := P) (w := w) B T o.type e i n ht hi' v l.length flat (by rw [ownH_w, hw]; exact hrow)
      refine ⟨v, w, ?_, St.refl w, by rw [hw]; exact ⟨flat, hrow, hel⟩, by rw [hw]; exact ⟨Nat.le_refl _, fun _ _ _ => rfl⟩⟩
      simp [execOp, ho, resolve, invoke, builtin, ha s _ hs, ha x _ hx, hrun, Sem.run_bind, Sem.run_pure, Result.andThen]
    | some ad =>
      obtain ⟨v', w', hr, h2, h3, h4⟩ := run_append_own (P := P) w B T o.type e i z n by' ht hi' hz0 hz1 hz2 hz hn v l.length flat (by rw [ownH_w, hw]; exact hrow) ad 0 cap [] (by simp) (by simp) (by simp) (by simpa using hlen) (by simpa using hsz) (by rw [hw]; exact hB)
      refine ⟨v', w', ?_, ⟨rfl, h3.os, h3.tape, h3.output⟩, ⟨flat, by simpa [ownH_w] using h2, hel⟩, by rw [← hw]; exact h3.size, fun k hk hne => ?_⟩
      · simp [execOp, ho, resolve, invoke, builtin, ha s _ hs, ha x _ hx, Sem.run_bind, Sem.run_pure, Result.andThen]
        simp [hr]
      rw [← hw] at hk ⊢
      refine h3.block k hk (fun hkv => ?_)
      have hkk : v = .slice none 0 0 ∨ vblock v = k := by
        rcases hrow.2 with ⟨rfl, _⟩ | ⟨g, cp, cr, rfl, _⟩
        · exact .inl rfl
        right; simp [Value.ownBlock] at hkv; simp [vblock, vbase, hkv]
      rcases hne with rfl | hne
      · simp [Value.ownBlock] at hkv
      rcases hkk with rfl | hkk
      · simp [Value.ownBlock] at hkv
      exact hne hkk.symm
  obtain ⟨ad, cap, hu, hsp, hb⟩ := hm.addr (by omega)
  obtain ⟨fm, hfl, hfc, hfe⟩ := hm.flat (by omega)
  obtain ⟨flat, hrow, hel⟩ := hown
  rw [hb] at hfc
  have h1 : ∀ q ∈ fm, q.oneCell' = true := by
    intro q hq
    obtain ⟨k, hk1, hk2⟩ := List.getElem_of_mem hq
    have hd : k / n < m.length := (Nat.div_lt_iff_lt_mul hn).2 (by omega)
    refine k1.one (hfe (k / n) _ (nth_getD hd)) q ?_
    rw [List.mem_iff_getElem?]
    refine ⟨k % n, ?_⟩
    rw [List.getElem?_take, if_pos (Nat.mod_lt _ hn), List.getElem?_drop, Nat.mul_comm, Nat.div_add_mod, List.getElem?_eq_getElem hk1, hk2]
  obtain ⟨v', w', hr, h2, h3, h4⟩ := run_append_own (P := P) w B T o.type e i z n by' ht hi' hz0 hz1 hz2 hz hn v l.length flat (by rw [ownH_w, hw]; exact hrow) ad m.length cap fm hfl (fun j q hj => by rw [cell_w hw]; exact hfc j q hj) h1 hlen hsz (by rw [hw]; exact hB)
  refine ⟨v', w', ?_, ⟨rfl, h3.os, h3.tape, h3.output⟩, ⟨flat ++ fm, by simpa [ownH_w] using h2, ?_⟩, by rw [← hw]; exact h3.size, fun k hk hne => ?_⟩
  · subst hu
    simp [execOp, ho, resolve, invoke, builtin, ha s _ hs, ha x _ hx, Sem.run_bind, Sem.run_pure, Result.andThen]
    simp [hr]
  · intro j x hj
    have hlen' := hrow.1
    rw [nth_eq] at hj
    by_cases hjl : j < l.length
    · rw [List.getElem?_append_left hjl] at hj
      have hle : j * n + n ≤ flat.length := by
        rw [hlen']
        have : (j + 1) * n ≤ l.length * n := Nat.mul_le_mul_right n hjl
        rw [Nat.add_mul, Nat.one_mul] at this; exact this
      rw [List.drop_append_of_le_length (by omega), List.take_append_of_le_length (by simp; omega)]
      exact hel j x (by rw [nth_eq]; exact hj)
    rw [List.getElem?_append_right (by omega)] at hj
    have hge : j * n = flat.length + (j - l.length) * n := by
      rw [hlen', ← Nat.add_mul]; congr 1; omega
    rw [hge, List.drop_append]
    simp only [Nat.le_add_right, List.drop_eq_nil_of_le, List.nil_append, Nat.add_sub_cancel_left]
    exact hE _ _ (hfe _ x (by rw [nth_eq]; exact hj)) (List.mem_of_getElem? hj)
  rw [← hw] at hk ⊢
  refine h3.block k hk (fun hkv => ?_)
  have hkk : v = .slice none 0 0 ∨ vblock v = k := by
    rcases hrow.2 with ⟨rfl, _⟩ | ⟨g, cp, cr, rfl, _⟩
    · exact .inl rfl
    right; simp [Value.ownBlock] at hkv; simp [vblock, vbase, hkv]
  rcases hne with rfl | hne
  · simp [Value.ownBlock] at hkv
  rcases hkk with rfl | hkk
  · simp [Value.ownBlock] at hkv
  exact hne hkk.symm
end
end Go.Proofs.YtldmfchamcpmmaaDoor
namespace Go.Proofs.YtldmfchamcpmmaaDoor
open Go Go.RowKit Go.ChangeShapes Go.WideShapes Go.Deep
set_option linter.unusedVariables false
set_option linter.unusedSimpArgs false
theorem Upd.refl (g : Nat) (H : Heap) : Upd g H H := ⟨rfl, fun _ _ => rfl⟩
theorem Upd.trans {g : Nat} {A B C : Heap} (h : Upd g A B) (k : Upd g B C) : Upd g A C := ⟨k.1.trans h.1, fun i hi => (k.2 i hi).trans (h.2 i hi)⟩
/-- only block g, v's own, and new ones may have been changed -/
def Fr (g : Nat) (v : Value) (H H' : Heap) : Prop := H.size ≤ H'.size ∧ ∀ k, k < H.size → k ≠ g → (v = .slice none 0 0 ∨ k ≠ vblock v) → H'[k]? = H[k]?
theorem Fr.refl (g : Nat) (v : Value) (H : Heap) : Fr g v H H := ⟨Nat.le_refl _, fun _ _ _ _ => rfl⟩
theorem Fr.ofOld {g : Nat} {v : Value} {H H' : Heap} (h : Old H H') : Fr g v H H' := ⟨h.1, fun k hk _ _ => h.2 k hk⟩
theorem Fr.ofUpd {g : Nat} {v : Value} {H H' : Heap} (hn : v ≠ .slice none 0 0) (h : Upd (vblock v) H H') : Fr g v H H' := ⟨Nat.le_of_eq h.1.symm, fun k _ _ h2 => h.2 k (h2.resolve_left hn)⟩
theorem Fr.oldB {g B : Nat} {v : Value} {H H' : Heap} (h : Fr g v H H') (hB : B ≤ H.size) (hg : B ≤ g) (hv : v = .slice none 0 0 ∨ B ≤ vblock v) : OldB B H H' :=
  ⟨h.1, fun k hk => h.2 k (by omega) (by omega) (hv.imp id (fun h => by omega))⟩
section
variable {P : Program} {E : Env} {H : Heap} {o : Oper} {v : Value} {e : TypeId} {H0 : Heap} {B : Nat} {α : Type} {F : El α} {l : List α}
/-- the row behind an append: v's own, or a new one -/
def Nx (H : Heap) (v v' : Value) : Prop := v' = .slice none 0 0 ∨ (v ≠ .slice none 0 0 ∧ vblock v' = vblock v) ∨ H.size ≤ vblock v'
/-! ### arrays -/
/-- an array's literal -/
theorem R.buildArr {T e' : TypeId} {n sz : Nat} {parts : Array (Nat × Operand)} {vs : List (Nat × Value)} {z : Value} {cs : Array Value} (ho : o.op = .build T parts) (ht : P.underlying T = some (.array n e')) (hz : (P.info? T).map (·.zero) = some (some z)) (hs : (P.info? e').map (·.size) = some sz)
    (hp : partsOf E parts.toList = some vs) (hfill : Instr.fill (fun i => some (i * sz, sz)) z.cells vs = some cs) : Run P E H o (.agg cs) := by
  intro ρ w ha hw
  cases hq : P.info? T with
  | none => simp [hq] at hz
  | some i =>
    simp [hq] at hz
    cases hq2 : P.info? e' with
    | none => simp [hq2] at hs
    | some i2 =>
      simp [hq2] at hs
      have e1 : List.map (fun p => (p.1, ρ p.2)) parts.toList = vs := ha.parts hp
      simp [execOp, ho, Instr.build, underlying, zeroValue, sizeOf, typeInfo, program, ht, hq, hq2, hz, hs, e1, Sem.run_bind, Sem.run_pure, Result.andThen, Sem.run]
      simp [hfill, Sem.run_bind, Sem.run_pure, Result.andThen, Sem.run]
/-- the address of an element of an array -/
theorem R.indexAddrArr {T e' : TypeId} {n j sz : Nat} {x i : Operand} {k : IntKind} {z : Int} {p : Addr} (ho : o.op = .indexAddr T x i) (ht : P.underlying T = some (.array n e')) (hs : (P.info? e').map (·.size) = some sz)
    (hx : ev E x = some (.pointer (some p))) (hi : ev E i = some (.int k z)) (hj : z = (j : Int)) (hlt : j < n) : Run P E H o (.pointer (some (p.add (j * sz)))) := by
  intro ρ w ha hw
  subst hj
  cases hq : P.info? e' with
  | none => simp [hq] at hs
  | some inf =>
    simp [hq] at hs
    simp [execOp, ho, ha x _ hx, ha i _ hi, Instr.indexAt, Instr.sureAddr, asIntOf, underlying, sizeOf, typeInfo, program, ht, hq, hs, hlt, Sem.run_bind, Sem.run_pure, Result.andThen, Sem.run]
end
end Go.Proofs.YtldmfchamcpmmaaDoor
namespace Go.Proofs.YtldmfchamcpmmaaDoor
open Go Go.RowKit Go.ChangeShapes Go.WideShapes Go.Deep
set_option linter.unusedVariables false
set_option linter.unusedSimpArgs false
section
variable {P : Program} {E : Env} {H H' : Heap} {o : Oper} {v v' : Value} {e : TypeId} {H0 : Heap} {B : Nat} {α : Type} {F : El α} {l : List α} {n : Nat}
theorem nx_of {B e n m k : Nat} {xs ys : List Value} (h : OwnH B e n H v m xs) (h' : OwnH B e n H' v' k ys) (hb : v'.ownBlock = v.ownBlock ∨ v'.ownBlock = some H.size) : Nx H v v' := by
  rcases h'.2 with ⟨rfl, _⟩ | ⟨g, cp, cr, rfl, _⟩
  · exact .inl rfl
  have e1 : Value.ownBlock (.slice (some ⟨g, 0, none⟩) k cp) = some g := by simp [Value.ownBlock]
  rw [e1] at hb
  rcases hb with hb | hb
  · rcases h.2 with ⟨rfl, _⟩ | ⟨g2, cp2, cr2, rfl, _⟩
    · simp [Value.ownBlock] at hb
    simp [Value.ownBlock] at hb
    exact .inr (.inl ⟨by simp, by simp [vblock, vbase, hb]⟩)
  injection hb with hb
  exact .inr (.inr (by simp [vblock, vbase, hb]))
theorem M.appendN [Inhabited α] [k1 : One F] {T : TypeId} {s x : Operand} {u : Value} {m : List α} {z : Value} {by' : Nat} (ho : o.op = .call { callee := .builtin .append, args := #[s, x], argTypes := #[T, T] }) (ht : P.underlying T = some (.slice e)) (hi : (P.info? e).map (fun i => (i.zero, i.size, i.bytes)) = some (some z, n, by')) (hz : z.cells.size = n) (hn : 0 < n)
    (hs : ev E s = some v) (hx : ev E x = some u) (hown : Own n F e H0 B H v l) (hm : Sl n F H u m) (hE : ∀ cs y, F H cs y → y ∈ m → F H0 cs y) (hB : B ≤ H.size) (hsz : (l.length + m.length) * by' ≤ 140737488355328) (hlen : l.length + m.length ≤ maxLen) :
    RunM P E H o (fun v' H' => Own n F e H0 B H' v' (l ++ m) ∧ Grown v H H' ∧ Nx H v v') := by
  intro ρ w ha hw
  obtain ⟨i, hi', hz0, hz1, hz2⟩ : ∃ i, P.info? e = some i ∧ i.zero = some z ∧ i.size = n ∧ i.bytes = by' := by
    cases hq : P.info? e with
    | none => simp [hq] at hi
    | some i => simp [hq] at hi; exact ⟨i, rfl, hi⟩
  by_cases hl : m.length = 0
  · have h2 : m = [] := List.eq_nil_of_length_eq_zero hl
    subst h2
    obtain ⟨a, cap, hu, hc1, hc2, hc3, hc4, _⟩ := hm
    subst hu
    simp only [List.append_nil]
    obtain ⟨flat, hrow, hel⟩ := hown
    cases a with
    | none =>
      have hc0 := hc3 rfl
      subst hc0
      have hrun := run_append_owned_none (P := P) (w := w) B T o.type e i n ht hi' v l.length flat (by rw [ownH_w, hw]; exact hrow)
      refine ⟨v, w, ?_, St.refl w, by rw [hw]; exact ⟨flat, hrow, hel⟩, by rw [hw]; exact ⟨Nat.le_refl _, fun _ _ _ => rfl⟩, nx_of hrow hrow (.inl rfl)⟩
      simp [execOp, ho, resolve, invoke, builtin, ha s _ hs, ha x _ hx, hrun, Sem.run_bind, Sem.run_pure, Result.andThen]
    | some ad =>
      obtain ⟨v', w', hr, h2, h3, h4, h5⟩ := run_append_own_at (P := P) w B T o.type e i z n by' ht hi' hz0 hz1 hz2 hz hn v l.length flat (by rw [ownH_w, hw]; exact hrow) ad 0 cap [] (by simp) (by simp) (by simp) (by simpa using hlen) (by simpa using hsz) (by rw [hw]; exact hB)
      refine ⟨v', w', ?_, ⟨rfl, h3.os, h3.tape, h3.output⟩, ⟨flat, by simpa [ownH_w] using h2, hel⟩, ⟨by rw [← hw]; exact h3.size, fun k hk hne => ?_⟩, nx_of hrow (by simpa [ownH_w] using h2) (by rw [← hw]; exact h5)⟩
      · simp [execOp, ho, resolve, invoke, builtin, ha s _ hs, ha x _ hx, Sem.run_bind, Sem.run_pure, Result.andThen]
        simp [hr]
      rw [← hw] at hk ⊢
      refine h3.block k hk (fun hkv => ?_)
      have hkk : v = .slice none 0 0 ∨ vblock v = k := by
        rcases hrow.2 with ⟨rfl, _⟩ | ⟨g, cp, cr, rfl, _⟩
        · exact .inl rfl
        right; simp [Value.ownBlock] at hkv; simp [vblock, vbase, hkv]
      rcases hne with rfl | hne
      · simp [Value.ownBlock] at hkv
      rcases hkk with rfl | hkk
      · simp [Value.ownBlock] at hkv
      exact hne hkk.symm
  obtain ⟨ad, cap, hu, hsp, hb⟩ := hm.addr (by omega)
  obtain ⟨fm, hfl, hfc, hfe⟩ := hm.flat (by omega)
  obtain ⟨flat, hrow, hel⟩ := hown
  rw [hb] at hfc
  have h1 : ∀ q ∈ fm, q.oneCell' = true := by
    intro q hq
    obtain ⟨k, hk1, hk2⟩ := List.getElem_of_mem hq
    have hd : k / n < m.length := (Nat.div_lt_iff_lt_mul hn).2 (by omega)
    refine k1.one (hfe (k / n) _ (nth_getD hd)) q ?_
    rw [List.mem_iff_getElem?]
    refine ⟨k % n, ?_⟩
    rw [List.getElem?_take, if_pos (Nat.mod_lt _ hn), List.getElem?_drop, Nat.mul_comm, Nat.div_add_mod, List.getElem?_eq_getElem hk1, hk2]
  obtain ⟨v', w', hr, h2, h3, h4, h5⟩ := run_append_own_at (P := P) w B T o.type e i z n by' ht hi' hz0 hz1 hz2 hz hn v l.length flat (by rw [ownH_w, hw]; exact hrow) ad m.length cap fm hfl (fun j q hj => by rw [cell_w hw]; exact hfc j q hj) h1 hlen hsz (by rw [hw]; exact hB)
  refine ⟨v', w', ?_, ⟨rfl, h3.os, h3.tape, h3.output⟩, ⟨flat ++ fm, by simpa [ownH_w] using h2, ?_⟩, ⟨by rw [← hw]; exact h3.size, fun k hk hne => ?_⟩, nx_of hrow (by simpa [ownH_w] using h2) (by rw [← hw]; exact h5)⟩
  · subst hu
    simp [execOp, ho, resolve, invoke, builtin, ha s _ hs, ha x _ hx, Sem.run_bind, Sem.run_pure, Result.andThen]
    simp [hr]
  · intro j x hj
    have hlen' := hrow.1
    rw [nth_eq] at hj
    by_cases hjl : j < l.length
    · rw [List.getElem?_append_left hjl] at hj
      have hle : j * n + n ≤ flat.length := by
        rw [hlen']
        have : (j + 1) * n ≤ l.length * n := Nat.mul_le_mul_right n hjl
        rw [Nat.add_mul, Nat.one_mul] at this; exact this
      rw [List.drop_append_of_le_length (by omega), List.take_append_of_le_length (by simp; omega)]
      exact hel j x (by rw [nth_eq]; exact hj)
    rw [List.getElem?_append_right (by omega)] at hj
    have hge : j * n = flat.length + (j - l.length) * n := by
      rw [hlen', ← Nat.add_mul]; congr 1; omega
    rw [hge, List.drop_append]
    simp only [Nat.le_add_right, List.drop_eq_nil_of_le, List.nil_append, Nat.add_sub_cancel_left]
    exact hE _ _ (hfe _ x (by rw [nth_eq]; exact hj)) (List.mem_of_getElem? hj)
  rw [← hw] at hk ⊢
  refine h3.block k hk (fun hkv => ?_)
  have hkk : v = .slice none 0 0 ∨ vblock v = k := by
    rcases hrow.2 with ⟨rfl, _⟩ | ⟨g, cp, cr, rfl, _⟩
    · exact .inl rfl
    right; simp [Value.ownBlock] at hkv; simp [vblock, vbase, hkv]
  rcases hne with rfl | hne
  · simp [Value.ownBlock] at hkv
  rcases hkk with rfl | hkk
  · simp [Value.ownBlock] at hkv
  exact hne hkk.symm
end
section
variable {P : Program} {E : Env} {H H' : Heap} {o : Oper} {v v' : Value} {e : TypeId} {H0 : Heap} {B : Nat} {α : Type} {F : El α} {l : List α} {n : Nat}
end
/-! ### what may have been changed -/
theorem Fr.trans {g : Nat} {v v' : Value} {A B C : Heap} (f : Fr g v A B) (nx : Nx A v v') (f2 : Fr g v' B C) : Fr g v A C :=
  ⟨Nat.le_trans f.1 f2.1, fun k hk h1 h2 => (f2.2 k (by have := f.1; omega) h1 (by
    rcases nx with n | ⟨n1, n2⟩ | n
    · exact .inl n
    · rw [n2]; exact .inr (h2.resolve_left n1)
    exact .inr (by omega))).trans (f.2 k hk h1 h2)⟩
theorem Fr.upd {g : Nat} {v : Value} {A B C : Heap} (f : Fr g v A B) (u : Upd g B C) : Fr g v A C := ⟨by rw [u.1]; exact f.1, fun k hk h1 h2 => (u.2 k h1).trans (f.2 k hk h1 h2)⟩
theorem Fr.old {g : Nat} {v : Value} {A B C : Heap} (f : Fr g v A B) (o : Old B C) : Fr g v A C := ⟨Nat.le_trans f.1 o.1, fun k hk h1 h2 => (o.2 k (by have := f.1; omega)).trans (f.2 k hk h1 h2)⟩
theorem Fr.grown {g : Nat} {v v' : Value} {A B C : Heap} (f : Fr g v A B) (nx : Nx A v v') (gr : Grown v' B C) : Fr g v A C :=
  f.trans nx ⟨gr.1, fun k hk _ h2 => gr.2 k hk h2⟩
theorem Nx.refl (H : Heap) (v : Value) : Nx H v v := by
  by_cases h : v = .slice none 0 0
  · exact .inl h
  exact .inr (.inl ⟨h, rfl⟩)
theorem Nx.trans {A B : Heap} {v v' v'' : Value} (h : Nx A v v') (hs : A.size ≤ B.size) (k : Nx B v' v'') : Nx A v v'' := by
  rcases k with k | ⟨k1, k2⟩ | k
  · exact .inl k
  · rcases h with h | ⟨h1, h2⟩ | h
    · exact absurd h k1
    · exact .inr (.inl ⟨h1, k2.trans h2⟩)
    exact .inr (.inr (by omega))
  exact .inr (.inr (by omega))
/-! ### rows of integers in a block -/
section
variable {P : Program} {E : Env} {H : Heap} {o : Oper} {v : Value}
theorem add1 (g i j : Nat) : (⟨g, i, none⟩ : Addr).add (j * 1) = ⟨g, i + j, none⟩ := by
  unfold Addr.add
  split
  · next h => have : j = 0 := by omega
              subst this; rfl
  simp
end
section
variable {P : Program} {E : Env} {H : Heap} {o : Oper} {v : Value}
end
/-! ### results in memory -/
section
variable {n : Nat} {P : Program} {E : Env} {H : Heap} {W0 : World}
end
end Go.Proofs.YtldmfchamcpmmaaDoor
namespace Go.Proofs.YtldmfchamcpmmaaDoor
open Go Go.RowKit
set_option linter.unusedVariables false
set_option linter.unusedSimpArgs false
/-- all blocks that there were but gs are as they were -/
def KeepX (gs : List Nat) (H H2 : Heap) : Prop := H.size ≤ H2.size ∧ ∀ k, k < H.size → k ∉ gs → H2[k]? = H[k]?
theorem KeepX.refl (gs : List Nat) (H : Heap) : KeepX gs H H := ⟨Nat.le_refl _, fun _ _ _ => rfl⟩
theorem KeepX.old {gs : List Nat} {A B C : Heap} (o : Old A B) (h : KeepX gs B C) : KeepX gs A C := ⟨Nat.le_trans o.1 h.1, fun k hk hg => (h.2 k (by have := o.1; omega) hg).trans (o.2 k hk)⟩
theorem KeepX.upd {g : Nat} {gs : List Nat} {A B C : Heap} (u : Upd g A B) (hg : g ∈ gs) (h : KeepX gs B C) : KeepX gs A C :=
  ⟨by have := u.1; have := h.1; omega, fun k hk hn => (h.2 k (by have := u.1; omega) hn).trans (u.2 k (fun e => hn (e ▸ hg)))⟩
/-- what reads so while gs may change -/
def FK {α : Type} (E : El α) (H : Heap) (gs : List Nat) : El α := fun _ cs x => ∀ H2, KeepX gs H H2 → E H2 cs x
instance keepsFK {α : Type} {E : El α} {H : Heap} {gs : List Nat} : Keeps (FK E H gs) := ⟨fun _ h => h⟩
instance oneFK {α : Type} {E : El α} [k : One E] {H : Heap} {gs : List Nat} : One (FK E H gs) := ⟨fun h => k.one (h H (KeepX.refl gs H))⟩
/-- v owns a row whose elements hang on no block of gs, and not on the row itself -/
def OwnE {α : Type} (n : Nat) (E : El α) (e : TypeId) (B : Nat) (H : Heap) (v : Value) (gs : List Nat) (l : List α) : Prop := Own n (FK E H (vblock v :: gs)) e #[] B H v l
section
variable {α : Type} {n : Nat} {E F : El α} {e : TypeId} {H0 H H' : Heap} {B : Nat} {v : Value} {l : List α} {gs : List Nat}
theorem Own.mapE {H0' : Heap} (h : Own n E e H0 B H v l) (hm : ∀ cs x, E H0 cs x → F H0' cs x) : Own n F e H0' B H v l := by
  obtain ⟨flat, h1, h2⟩ := h
  exact ⟨flat, h1, fun j x hj => hm _ _ (h2 j x hj)⟩
theorem Sl.mapE (h : Sl n E H v l) (hm : ∀ cs x, E H cs x → F H cs x) : Sl n F H v l := by
  obtain ⟨a, cap, hv, h1, h2, h3, h4, h5⟩ := h
  refine ⟨a, cap, hv, h1, h2, h3, h4, fun j x hj => ?_⟩
  obtain ⟨cs, hl, hc, hx⟩ := h5 j x hj
  exact ⟨cs, hl, hc, hm _ _ hx⟩
theorem OwnE.nil (n : Nat) (E : El α) (e : TypeId) (B : Nat) (H : Heap) (gs : List Nat) : OwnE n E e B H (.slice none 0 0) gs ([] : List α) := Own.nil _ _ _ _ _ _
theorem OwnE.own (h : OwnE n E e B H v gs l) : Own n (FK E H (vblock v :: gs)) e #[] B H v l := h
theorem OwnE.lt (h : OwnE n E e B H v gs l) : v = .slice none 0 0 ∨ (B ≤ vblock v ∧ vblock v < H.size) := Own.lt h
theorem OwnE.old (h : OwnE n E e B H v gs l) (o : Old H H') : OwnE n E e B H' v gs l := (Own.old h o).mapE fun cs x hf H2 k => hf H2 (k.old o)
theorem OwnE.upd {g : Nat} (h : OwnE n E e B H v gs l) (u : Upd g H H') (hg : g ∈ gs) (hne : v = .slice none 0 0 ∨ vblock v ≠ g) : OwnE n E e B H' v gs l :=
  (Own.upd h u hne).mapE fun cs x hf H2 k => hf H2 (k.upd u (List.mem_cons_of_mem _ hg))
theorem OwnE.sl (h : OwnE n E e B H v gs l) (hn : 0 < n) : Sl n E H v l := (Own.sl h (emptyOld H) hn).mapE fun cs x hf => hf H (KeepX.refl _ H)
theorem Grown.oldBE (hg : Grown v H H') (hown : OwnE n E e B H v gs l) (hB : B ≤ H.size) : OldB B H H' := Grown.oldB hg (OwnE.own hown) hB
theorem Own.keepN (h : Own n E e H0 B H v l) (hk : v = .slice none 0 0 ∨ H'[vblock v]? = H[vblock v]?) : Own n E e H0 B H' v l := by
  rcases hk with hk | hk
  · subst hk
    obtain ⟨flat, ⟨h0, h1⟩, h2⟩ := h
    rcases h1 with h1 | ⟨g, cap, cur, hv, r⟩
    · exact ⟨flat, ⟨h0, .inl h1⟩, h2⟩
    cases hv
  exact h.keep hk
/-- a row made lately hangs on no older block -/
theorem fk_own {k : IntKind} {bs : List Int} {c : Value} (h : Own 1 (EInt k) e H0 B H c bs) (hg : ∀ g ∈ gs, g < B) : ∀ H2, KeepX gs H H2 → Sl 1 (EInt k) H2 c bs := by
  intro H2 kx
  have h2 : Own 1 (EInt k) e #[] B H c bs := h.mapE fun cs x hx => hx
  refine (h2.keepN ?_ : Own 1 (EInt k) e #[] B H2 c bs).sl (emptyOld _) (by omega)
  rcases h.lt with hl | hl
  · exact .inl hl
  exact .inr (kx.2 _ hl.2 (fun hm => by have := hg _ hm; omega))
end
section
variable {P : Program} {En : Env} {H : Heap} {o : Oper} {v : Value} {e : TypeId} {B : Nat} {α : Type} {F : El α} {l : List α} {n : Nat} {gs : List Nat}
theorem M.appendE [Inhabited α] [k1 : One F] {T : TypeId} {s x : Operand} {u : Value} {m : List α} {z : Value} {by' : Nat} (ho : o.op = .call { callee := .builtin .append, args := #[s, x], argTypes := #[T, T] }) (ht : P.underlying T = some (.slice e)) (hi : (P.info? e).map (fun i => (i.zero, i.size, i.bytes)) = some (some z, n, by')) (hz : z.cells.size = n) (hn : 0 < n)
    (hs : ev En s = some v) (hx : ev En x = some u) (hown : OwnE n F e B H v gs l) (hm : Sl n (FK F H (vblock v :: gs)) H u m) (hB : B ≤ H.size) (hsz : (l.length + m.length) * by' ≤ 140737488355328) (hlen : l.length + m.length ≤ maxLen) :
    RunM P En H o (fun v' H' => OwnE n F e B H' v' gs (l ++ m) ∧ Grown v H H' ∧ Nx H v v') := by
  intro ρ w ha hw
  obtain ⟨v', w', h1, h2, h3, h4, h5⟩ := M.appendN (k1 := oneFK) ho ht hi hz hn hs hx (OwnE.own hown) hm (fun _ _ h _ => h) hB hsz hlen ρ w ha hw
  by_cases hn' : v' = .slice none 0 0
  · subst hn'
    have hz0 : l ++ m = [] := by
      obtain ⟨flat, ⟨_, hr⟩, _⟩ := h3
      rcases hr with ⟨_, hr⟩ | ⟨g, cap, cur, hv, _⟩
      · exact List.eq_nil_of_length_eq_zero hr
      cases hv
    rw [hz0] at h3 ⊢
    exact ⟨_, w', h1, h2, OwnE.nil _ _ _ _ _ _, h4, h5⟩
  refine ⟨v', w', h1, h2, h3.mapE fun cs x hf H2 k => hf H2 ?_, h4, h5⟩
  refine ⟨Nat.le_trans h4.1 k.1, fun j hj hg => ?_⟩
  have hj2 : j ≠ vblock v := fun e => hg (e ▸ List.mem_cons_self ..)
  rw [k.2 j (by have := h4.1; omega) ?_, h4.2 j hj (.inr hj2)]
  intro hm2
  rcases List.mem_cons.1 hm2 with e | e
  · rcases h5 with n1 | ⟨_, n2⟩ | n3
    · exact hn' n1
    · exact hj2 (e.trans n2)
    omega
  exact hg (List.mem_cons_of_mem _ e)
end
theorem Own.litI {k : IntKind} {H H' : Heap} {e : TypeId} {B : Nat} {l : List Int} {m : Nat} (hn : New H (l.map (Value.int k)) e H') (hB : B ≤ H.size) (hm : m = l.length) (hmx : m ≤ 1000000000) (h : ∀ x ∈ l, InR k x) : Own 1 (EInt k) e #[] B H' (.slice (some ⟨H.size, 0, none⟩) m m) l :=
  Own.lit (E := EInt k) (H0 := #[]) hn hB hm (by unfold maxLen; omega) (by simp) (fun j x u hj hu => by
    rw [nth_eq, List.getElem?_map] at hu
    rw [nth_eq] at hj
    rw [hj] at hu
    cases hu
    exact ⟨rfl, h x (List.mem_of_getElem? hj)⟩)
theorem OwnE.blt {α : Type} {n : Nat} {E : El α} {e : TypeId} {H : Heap} {B : Nat} {v : Value} {l : List α} {gs : List Nat} (h : OwnE n E e B H v gs l) (h0 : 0 < H.size) : vblock v < H.size := by
  rcases h.lt with h | h
  · subst h; exact h0
  exact h.2
end Go.Proofs.YtldmfchamcpmmaaDoor
namespace Go.Proofs.YtldmfchamcpmmaaDoor
open Go Go.RowKit Go.ChangeShapes Go.WideShapes Go.Deep
set_option linter.unusedVariables false
set_option linter.unusedSimpArgs false
/-- bytes as a string -/
def bstr (ns : List Int) : ByteArray := ns.foldl (fun r n => r.push (UInt8.ofNat n.toNat)) ByteArray.empty
section
variable {P : Program} {E : Env} {H Hx : Heap} {o : Oper} {v : Value}
/-- string(b) -/
theorem R.convBS {S D e : TypeId} {x : Operand} {l : List Int} (ho : o.op = .convert S D x) (hs : P.underlying S = some (.slice e)) (he : P.underlying e = some (.int .u8)) (hd : P.underlying D = some .string)
    (hx : ev E x = some v) (hl : Sl 1 (EInt .u8) H v l) : Run P E H o (.string (bstr l)) := by
  intro ρ w ha hw
  subst hw
  by_cases h0 : l.length = 0
  · have hl0 : l = [] := List.eq_nil_of_length_eq_zero h0
    subst hl0
    obtain ⟨a, c, rfl⟩ := hl.val
    have hr := run_convert_bytes_string (P := P) w S D e a 0 c hs he hd
    have hb : (Conv.bytesToString (.slice a 0 c)).run P w = .ok (.string (bstr [])) w := by
      cases a with
      | none => rfl
      | some p =>
        have := run_bytesToString (P := P) w p 0 c [] (by simpa using run_loadCells_list (P := P) w p [] (by simp))
        exact this
    have hx' := ha x _ hx
    simp only [List.length_nil] at hx'
    simp [execOp, ho, hx', Sem.run_bind, Sem.run_pure, Result.andThen]
    rw [hr, hb]
  obtain ⟨p, cap, hv, hsp, hb⟩ := hl.addr (by omega)
  subst hv
  have hr := run_convert_bytes_string (P := P) w S D e (some p) l.length cap hs he hd
  have hc := run_loadCells_list (P := P) w p (l.map (Value.int .u8)) (by
    intro j u hj
    simp only [List.getElem?_map, Option.map_eq_some_iff] at hj
    obtain ⟨z, hz, rfl⟩ := hj
    obtain ⟨hlt, hze⟩ := List.getElem?_eq_some_iff.1 hz
    have := (hl.int j hlt).1
    rw [hb, List.getD_eq_getElem?_getD, hz] at this
    rw [cell_w rfl]
    exact this)
  have hbs := run_bytesToString (P := P) w p l.length cap l (by simpa using hc)
  have hx' := ha x _ hx
  simp [execOp, ho, hx', Sem.run_bind, Sem.run_pure, Result.andThen]
  rw [hr, hbs]
  rfl
/-- a literal's own row, marked (the conversion of a constant string) -/
theorem M.mark {T e : TypeId} {x : Operand} {g n c : Nat} {cs : List Value} (ho : o.op = .convert T T x) (ht : P.underlying T = some (.slice e)) (he : P.underlying e = some (.int .u8))
    (hx : ev E x = some (.slice (some ⟨g, 0, none⟩) n c)) (hb : H[g]? = some (.cells cs.toArray e (0, 0))) :
    RunM P E H o (fun u H' => u = .slice (some ⟨g, 0, none⟩) n c ∧ Upd g H H' ∧ H'[g]? = some (.cells cs.toArray e (cs.length, cs.length + 1))) := by
  intro ρ w ha hw
  subst hw
  have hsh : w.shape? g = some (e, cs.length) := by unfold World.shape?; rw [hb]; simp
  have hx' := ha x _ hx
  refine ⟨.slice (some ⟨g, 0, none⟩) n c, w.freeze ⟨g, cs.length, none⟩ 1, ?_, ?_, rfl, ?_, ?_⟩
  · simp [execOp, ho, hx', convert, run_underlying ht, run_underlying he, markStringish, hsh, Sem.run_bind, Sem.run_pure, Result.andThen]
  · unfold World.freeze
    rw [if_neg (by decide)]
    exact ⟨rfl, rfl, rfl, rfl⟩
  · unfold World.freeze
    rw [if_neg (by decide)]
    refine ⟨by simp, fun k hk => ?_⟩
    simp [Array.getElem?_modify, Ne.symm hk]
  unfold World.freeze
  rw [if_neg (by decide)]
  simp [Array.getElem?_modify, hb]
end
theorem Sl.ofCells {k : IntKind} {H : Heap} {g : Nat} {e : TypeId} {l : List Int} {z : Nat × Nat} (hb : H[g]? = some (.cells (l.map (Value.int k)).toArray e z)) (hl : l.length ≤ 1000000000) (hr : ∀ x ∈ l, InR k x) : Sl 1 (EInt k) H (.slice (some ⟨g, 0, none⟩) l.length l.length) l := by
  refine ⟨some ⟨g, 0, none⟩, l.length, rfl, Nat.le_refl _, by unfold maxLen; omega, by simp, fun _ p hp => by cases hp; rfl, fun j x hj => ?_⟩
  have hlt := nth_lt hj
  rw [nth_eq] at hj
  refine ⟨[.int k x], rfl, ?_, rfl, hr x (List.mem_of_getElem? hj)⟩
  intro i u hu
  have hi : i = 0 ∧ u = .int k x := by
    cases i with
    | zero => injection hu with hu; exact ⟨rfl, hu.symm⟩
    | succ i => cases hu
  obtain ⟨rfl, rfl⟩ := hi
  simp only [vbase]
  rw [add_add _ rfl]
  have e : (Addr.mk g 0 none).add (j * 1 + 0) = ⟨g, j, none⟩ := by unfold Addr.add; split <;> simp_all
  rw [e]
  exact cell_of hb (by rw [nth_eq]; simp [hj])
end Go.Proofs.YtldmfchamcpmmaaDoor
namespace Go.Proofs.YtldmfchamcpmmaaDoor
open Go Go.RowKit Go.Deep
set_option linter.unusedVariables false
set_option linter.unusedSimpArgs false
/-- a string's bytes -/
def ints (s : ByteArray) : List Int := s.data.toList.map fun b => (b.toNat : Int)
theorem ints_length (s : ByteArray) : (ints s).length = s.size := by simp [ints]
theorem ints_range {s : ByteArray} : ∀ x ∈ ints s, InR .u8 x := by
  intro x hx
  simp only [ints, List.mem_map] at hx
  obtain ⟨b, _, rfl⟩ := hx
  have := UInt8.toNat_lt b
  dsimp only [InR]; omega
theorem bytes_back {l : List Int} (h : ∀ x ∈ l, InR .u8 x) : (l.map Lib.byteOf).map (fun b => (b.toNat : Int)) = l := by
  induction l with
  | nil => rfl
  | cons x l ih =>
    simp only [List.map_cons]
    rw [ih (fun y hy => h y (List.mem_cons_of_mem _ hy)), Lib.byteOf_toNat (h x (List.mem_cons_self ..))]
theorem bstr_map (l : List UInt8) : bstr (l.map fun b => (b.toNat : Int)) = ⟨l.toArray⟩ := by
  unfold bstr
  rw [foldl_push_byteCells]
  show ByteArray.mk (#[] ++ l.toArray) = _
  simp
theorem ints_bstr {l : List Int} (h : ∀ x ∈ l, InR .u8 x) : ints (bstr l) = l := by
  have e := bytes_back h
  rw [← e, bstr_map]; rfl
theorem bstr_size {l : List Int} (h : ∀ x ∈ l, InR .u8 x) : (bstr l).size = l.length := by rw [← ints_length, ints_bstr h]
section
variable {P : Program} {E : Env} {H Hx : Heap} {o : Oper} {v : Value}
theorem R.addStr {T T' : TypeId} {x y : Operand} {a b : ByteArray} (ho : o.op = .binOp .add T x y T') (hx : ev E x = some (.string a)) (hy : ev E y = some (.string b)) (h : a.size + b.size ≤ 1000000000000) : Run P E H o (.string (a ++ b)) :=
  bin_run2 ho hx hy (fun w => by simp [eqGuard, Sem.run_pure]) fun w => by
    have : ¬ (((a.size + b.size : Nat) : Int) > IntKind.i64.max) := by simp [IntKind.max, IntKind.bits, IntKind.signed]; omega
    simp only [binOp, Op.stringOp]
    rw [if_neg this]
    simp [Sem.run_pure]
/-- []byte(s) -/
theorem M.toBytes {S D e : TypeId} {x : Operand} {s : ByteArray} (ho : o.op = .convert S D x) (hs : P.underlying S = some .string) (hd : P.underlying D = some (.slice e)) (he : P.underlying e = some (.int .u8)) (hx : ev E x = some (.string s)) (hmx : s.size ≤ 1000000000) :
    RunM P E H o (fun u H' => Sl 1 (EInt .u8) H' u (ints s) ∧ vblock u = H.size ∧ Old H H' ∧ H'.size = H.size + 1) := by
  intro ρ w ha hw
  subst hw
  have hr := run_bytes_of_string (P := P) w S D e s hs hd he
  have hge := grownCap_ge w s.size 0 e
  have hcm : grownCap w s.size 0 e ≤ maxLen := grownCap_le_maxLen w s.size 0 e (by unfold maxLen; omega)
  refine ⟨.slice (some ⟨w.heap.size, 0, none⟩) s.size (grownCap w s.size 0 e), w.drew.alloc (.cells (bytesRow s (grownCap w s.size 0 e)) e ((bytesRow s (grownCap w s.size 0 e)).size, (bytesRow s (grownCap w s.size 0 e)).size + 1)), by simp [execOp, ho, ha x _ hx, hr, Sem.run_bind, Sem.run_pure, Result.andThen], ⟨rfl, rfl, rfl, rfl⟩, ?_, rfl, ?_, by simp⟩
  · refine ⟨some ⟨w.heap.size, 0, none⟩, _, by rw [ints_length], by rw [ints_length]; exact hge, hcm, by simp, fun _ p hp => by cases hp; rfl, fun j x hj => ?_⟩
    have hlt := nth_lt hj
    rw [nth_eq] at hj
    refine ⟨[.int .u8 x], rfl, ?_, rfl, ints_range x (List.mem_of_getElem? hj)⟩
    intro i u hu
    have hi : i = 0 ∧ u = .int .u8 x := by
      cases i with
      | zero => injection hu with hu; exact ⟨rfl, hu.symm⟩
      | succ i => cases hu
    obtain ⟨rfl, rfl⟩ := hi
    simp only [vbase]
    rw [add_add _ rfl]
    have e0 : (Addr.mk w.heap.size 0 none).add (j * 1 + 0) = ⟨w.heap.size, j, none⟩ := by unfold Addr.add; split <;> simp_all
    rw [e0]
    have hb : (w.drew.alloc (.cells (bytesRow s (grownCap w s.size 0 e)) e ((bytesRow s (grownCap w s.size 0 e)).size, (bytesRow s (grownCap w s.size 0 e)).size + 1))).heap[w.heap.size]? = some (.cells (bytesRow s (grownCap w s.size 0 e)).toList.toArray e ((bytesRow s (grownCap w s.size 0 e)).size, (bytesRow s (grownCap w s.size 0 e)).size + 1)) := by
      show (w.heap.push _)[w.heap.size]? = _
      simp
    refine cell_of hb ?_
    rw [nth_eq]
    have e1 : (bytesRow s (grownCap w s.size 0 e)).toList = (ints s).map (Value.int .u8) ++ List.replicate (grownCap w s.size 0 e - s.size) (.int .u8 0) := by
      simp [bytesRow, ints]
    rw [e1, List.getElem?_append_left (by simpa using hlt), List.getElem?_map, hj]; rfl
  refine ⟨by simp, fun k hk => ?_⟩
  show (w.heap.push _)[k]? = _
  rw [Array.getElem?_push]
  simp [Nat.ne_of_lt hk]
end
section
variable {P : Program} {E : Env} {H H0 : Heap} {o : Oper} {v : Value} {B : Nat} {e : TypeId}
/-- append of a string to a row of bytes of the call's own -/
theorem M.appendStr {T T2 : TypeId} {sx x : Operand} {s : ByteArray} {l : List Int} (ho : o.op = .call { callee := .builtin .append, args := #[sx, x], argTypes := #[T, T2] }) (ht : P.underlying T = some (.slice e)) (ht2 : P.underlying T2 = some .string) (hi : (P.info? e).map (fun i => (i.zero, i.size, i.bytes)) = some (some (.int .u8 0), 1, 1))
    (hs : ev E sx = some v) (hx : ev E x = some (.string s)) (hown : Own 1 (EInt .u8) e H0 B H v l) (hB : B ≤ H.size) (hsz : l.length + s.size ≤ 140737488355328) :
    RunM P E H o (fun v' H' => Own 1 (EInt .u8) e H0 B H' v' (l ++ ints s) ∧ Grown v H H') := by
  intro ρ w ha hw
  obtain ⟨i, hi', hz0, hz1, hz2⟩ : ∃ i, P.info? e = some i ∧ i.zero = some (.int .u8 0) ∧ i.size = 1 ∧ i.bytes = 1 := by
    cases hq : P.info? e with
    | none => simp [hq] at hi
    | some i => simp [hq] at hi; exact ⟨i, rfl, hi⟩
  obtain ⟨flat, hrow, hel⟩ := hown
  obtain ⟨v', w', hr, h2, h3, _⟩ := Lib.run_append_own_string (P := P) w B T T2 o.type e i ht ht2 hi' hz0 hz1 hz2 v l.length flat (by rw [ownH_w, hw]; exact hrow) s (by unfold maxLen; omega) hsz (by rw [hw]; exact hB)
  have hcell : Lib.strCells s = (ints s).map (Value.int .u8) := by simp [Lib.strCells, ints]
  refine ⟨v', w', ?_, ⟨rfl, h3.os, h3.tape, h3.output⟩, ⟨flat ++ Lib.strCells s, by rw [List.length_append, ints_length]; simpa [ownH_w] using h2, ?_⟩, by rw [← hw]; exact h3.size, fun k hk hne => ?_⟩
  · simp [execOp, ho, resolve, invoke, builtin, ha sx _ hs, ha x _ hx, Sem.run_bind, Sem.run_pure, Result.andThen]
    simp [hr]
  · intro j x hj
    have hlen' := hrow.1
    rw [nth_eq] at hj
    by_cases hjl : j < l.length
    · rw [List.getElem?_append_left hjl] at hj
      rw [List.drop_append_of_le_length (by omega), List.take_append_of_le_length (by simp; omega)]
      exact hel j x (by rw [nth_eq]; exact hj)
    rw [List.getElem?_append_right (by omega)] at hj
    rw [List.drop_append, List.drop_of_length_le (by omega), List.nil_append, hcell]
    have hlt := (List.getElem?_eq_some_iff.1 hj).1
    rw [show j * 1 - flat.length = j - l.length by omega]
    rw [← List.map_drop, List.drop_eq_getElem_cons hlt]
    refine ⟨?_, ints_range x (List.mem_of_getElem? hj)⟩
    have : (ints s)[j - l.length] = x := (List.getElem?_eq_some_iff.1 hj).2
    simp [this]
  rw [← hw] at hk ⊢
  refine h3.block k hk (fun hkv => ?_)
  have hkk : v = .slice none 0 0 ∨ vblock v = k := by
    rcases hrow.2 with ⟨rfl, _⟩ | ⟨g, cp, cr, rfl, _⟩
    · exact .inl rfl
    right; simp [Value.ownBlock] at hkv; simp [vblock, vbase, hkv]
  rcases hne with rfl | hne
  · simp [Value.ownBlock] at hkv
  rcases hkk with rfl | hkk
  · simp [Value.ownBlock] at hkv
  exact hne hkk.symm
end
/-! ### v[lo:hi:max] -/
def sub3 (sz : Nat) (v : Value) (lo hi mx : Nat) : Value := match v with
  | .slice a _ _ => .slice (if mx = lo then a else a.map (·.add (lo * sz))) (hi - lo) (mx - lo)
  | v => v
section
variable {P : Program} {E : Env} {H Hx : Heap} {o : Oper} {v : Value} {α : Type} {m : Nat} {F : El α} {l : List α}
theorem Sl.sub3 {lo hi : Nat} (hs : Sl m F H v l) (h1 : lo ≤ hi) (h2 : hi ≤ l.length) : Sl m F H (sub3 m v lo hi hi) ((l.take hi).drop lo) := by
  obtain ⟨a, cap, rfl, k1, k2, k3, k4, k5⟩ := hs
  have hl : ((l.take hi).drop lo).length = hi - lo := by simp; omega
  refine ⟨_, _, by rw [hl]; rfl, by rw [hl]; omega, by omega, ?_, ?_, ?_⟩
  · intro h
    split at h
    · omega
    have := k3 (by simpa using h); omega
  · intro h0 p hp
    rw [hl] at h0
    have hl0 : 0 < l.length := by omega
    split at hp
    · exact k4 hl0 p hp
    cases a with
    | none => simp at hp
    | some q =>
      simp at hp
      rw [← hp]
      unfold Addr.add
      split
      · exact k4 hl0 q rfl
      rfl
  intro j x hj
  rw [nth_eq, List.getElem?_drop] at hj
  rw [List.getElem?_take] at hj
  split at hj
  · next hlt =>
    have hj' : nth l (lo + j) = some x := by rw [nth_eq]; exact hj
    obtain ⟨cs, hc1, hc2, hc3⟩ := k5 _ _ hj'
    refine ⟨cs, hc1, ?_, hc3⟩
    cases a with
    | none => have := k3 rfl; omega
    | some q =>
      simp only [Go.Proofs.YtldmfchamcpmmaaDoor.sub3]
      rw [if_neg (by omega)]
      simp only [Option.map_some, vbase]
      have e : (lo + j) * m = lo * m + j * m := Nat.add_mul _ _ _
      simp only [vbase] at hc2
      rw [e, ← add_add q (k4 (by omega) q rfl)] at hc2
      exact hc2
  cases hj
theorem R.slice3 {T e : TypeId} {x y z : Operand} {lo : Option Operand} {i j : Nat} {k k' : IntKind} {zj zk : Int} (ho : o.op = .slice T x lo (some y) (some z)) (ht : P.underlying T = some (.slice e)) (hz : (P.info? e).map (·.size) = some m)
    (hx : ev E x = some v) (hs : Sl m F Hx v l) (hlo : bnd E lo 0 i) (hy : ev E y = some (.int k zj)) (hz' : ev E z = some (.int k' zk)) (ej : zj = (j : Int)) (ek : zk = (j : Int)) (h1 : i ≤ j) (h2 : j ≤ l.length) : Run P E H o (sub3 m v i j j) := by
  obtain ⟨a, cap, rfl, k1, _⟩ := hs
  subst ej; subst ek
  intro ρ w ha hw
  cases hq : P.info? e with
  | none => simp [hq] at hz
  | some inf =>
    simp [hq] at hz
    have key : ∀ (lo' : Option Value), (lo' = none ∧ i = 0 ∨ ∃ k, lo' = some (.int k (i : Int))) →
        (Instr.sliceAt T (.slice a l.length cap) lo' (some (.int k (j : Int))) (some (.int k' (j : Int)))).run P w = .ok (sub3 m (.slice a l.length cap) i j j) w := by
      intro lo' hl
      rcases hl with ⟨rfl, rfl⟩ | ⟨k, rfl⟩ <;>
        simp [Instr.sliceAt, Instr.slice, Instr.sliceBounds, Instr.sliceBound, asIntOf, underlying, program, ht, sizeOf, typeInfo, hq, hz, Go.Proofs.YtldmfchamcpmmaaDoor.sub3, Sem.run_bind, Sem.run_pure, Result.andThen, Sem.run] <;>
        (try simp [show j ≤ cap by omega, h1])
    have hl : (lo.map ρ = none ∧ i = 0 ∨ ∃ k, lo.map ρ = some (.int k (i : Int))) := by
      cases lo with
      | none => exact .inl ⟨rfl, hlo⟩
      | some y => obtain ⟨k, z, hy, rfl⟩ := hlo; exact .inr ⟨k, by simp [ha y _ hy]⟩
    have := key _ hl
    simp [execOp, ho, ha x _ hx, ha y _ hy, ha z _ hz', this, Sem.run_bind, Sem.run_pure, Result.andThen]
end
end Go.Proofs.YtldmfchamcpmmaaDoor
namespace Go.Proofs.YtldmfchamcpmmaaDoor
open Go.RowKit
theorem fin3 {a b : Value} (h : a = b) : Ending.returned a = Ending.returned b := congrArg _ h
theorem retI {x y : Int} {k : IntKind} (h : x = y) : Ending.returned (.int k x) = Ending.returned (.int k y) := by rw [h]
/-- a byte's cell -/
def B8 (c : UInt8) : Value := .int .u8 (c.toNat : Int)
/-- The slice at a, of capacity cap, reads as the bytes l (its length is l's). -/
structure Bs (w : World) (a : Option Addr) (cap : Nat) (l : List UInt8) : Prop where
  fits : l.length ≤ cap
  max : cap ≤ maxLen
  none : a = Option.none → cap = 0
  cell : ∀ j c, l[j]? = some c → ∃ b off, a = some ⟨b, off, Option.none⟩ ∧ w.cell? ⟨b, off + j, Option.none⟩ = some (.int .u8 (c.toNat : Int))
/-- A value that is a slice which reads as l. -/
def IsBs (w : World) (v : Value) (l : List UInt8) : Prop := ∃ a cap, v = .slice a l.length cap ∧ Bs w a cap l
section
variable {w w' : World} {a : Option Addr} {cap : Nat} {l : List UInt8} {B : Nat} {v : Value}
theorem Bs.len (h : Bs w a cap l) : l.length ≤ 9223372036854775807 := by
  have h1 := h.fits; have h2 := h.max; unfold maxLen at h2; omega
/-- what is read at a place -/
theorem Bs.at (h : Bs w a cap l) (k : Nat) (hk : k < l.length) :
    ∃ b off c, a = some ⟨b, off, Option.none⟩ ∧ Hid (l[k]? = some c) ∧ c.toNat < 256 ∧ w.cell? ⟨b, off + k, Option.none⟩ = some (.int .u8 (c.toNat : Int)) := by
  obtain ⟨b, off, ha, hc⟩ := h.cell k l[k] (by simp [hk])
  exact ⟨b, off, l[k], ha, Lib.hid (by simp [hk]), UInt8.toNat_lt _, hc⟩
/-- a nil slice -/
theorem Bs.nil (w : World) : Bs w Option.none 0 [] := ⟨by simp, by unfold maxLen; omega, fun _ => rfl, by simp⟩
theorem IsBs.nil (w : World) : IsBs w (.slice Option.none 0 0) [] := ⟨_, _, rfl, Bs.nil w⟩
/-- what a row of the call's own holds, read -/
theorem IsBs.own {n : Nat} {e : TypeId} (h : w.ownsRow B e 1 v n (l.map B8)) : IsBs w v l := by
  have hl : n = l.length := by have := h.1; simp at this; omega
  subst hl
  rcases h.2 with ⟨rfl, h0⟩ | ⟨g, c, cur, rfl, _, hg, h1, h2, _, _⟩
  · have : l = [] := List.eq_nil_of_length_eq_zero h0
    subst this; exact IsBs.nil w
  refine ⟨_, _, rfl, h1, h2, by simp, fun j c hj => ⟨g, 0, rfl, ?_⟩⟩
  have := h.cells (g := g) rfl j (B8 c) (by simp [hj])
  simp only [Addr.add_lit] at this
  exact this
/-- a beginning of what is read -/
theorem Bs.take (h : Bs w a cap l) (k : Nat) : Bs w a cap (l.take k) :=
  ⟨by have := h.fits; simp; omega, h.max, h.none, fun j c hj => h.cell j c (by rw [List.getElem?_take] at hj; split at hj; exact hj; cases hj)⟩
/-- what is left behind a cut, as the model has it -/
theorem Bs.drop (h : Bs w a cap l) (k : Nat) (hk : k ≤ l.length) : Bs w (if cap = k then a else a.map (·.add k)) (cap - k) (l.drop k) := by
  have h1 := h.fits
  have h2 := h.max
  refine ⟨by simp; omega, by omega, ?_, ?_⟩
  · intro hn
    split at hn
    · omega
    have := h.none (by simpa using hn); omega
  intro j c hj
  rw [List.getElem?_drop] at hj
  obtain ⟨b, off, rfl, hc⟩ := h.cell (k + j) c hj
  have hlt : k + j < l.length := (List.getElem?_eq_some_iff.1 hj).1
  rw [if_neg (by omega)]
  refine ⟨b, off + k, ?_, by rw [Nat.add_assoc]; exact hc⟩
  simp only [Option.map_some, Addr.add]
  split
  · next h0 => simp [h0]
  rfl
end
theorem ownNil (w : World) (B : Nat) : w.ownsRow B 5 1 (.slice none 0 0) 0 (([] : List UInt8).map B8) := World.ownsRow_nil w B _ 1
theorem info8 : (Tryd.prog.info? 5).map (fun i => (i.zero, i.size, i.bytes)) = some (some (.int .u8 0), 1, 1) := by kernel_rfl
theorem grown_trans {w1 w2 w3 : World} {row : Option Nat} (h : w1.grownBy w2 row) (k : w2.grownBy w3 row) (_ : ∀ b, row = some b → b < w1.heap.size) : w1.grownBy w3 row :=
  ⟨k.os.trans h.os, k.tape.trans h.tape, k.output.trans h.output, Nat.le_trans h.size k.size, fun b hb hr => (k.block b (Nat.lt_of_lt_of_le hb h.size) hr).trans (h.block b hb hr)⟩
/-- below its base a world is as before an append to a row of the call's own -/
theorem below_grown {W w w' : World} {B e size n : Nat} {v : Value} {xs : List Value} (h : Below B W w) (hg : w.grownBy w' v.ownBlock) (hown : w.ownsRow B e size v n xs) (hB : B ≤ w.heap.size) : Below B W w' :=
  h.grown hg hB fun k hk => (hown.lt k hk).1
/-- append of one byte, just laid in a new block, to a row of the call's own -/
theorem app1 {w : World} {ops : Array Oper} {rest : List Oper} {o : Oper} {a : Act} {Q : Exit → Act → World → Prop} (hgd : o.guard = none) (s x : Operand)
    (ho : o.op = .call { callee := .builtin .append, args := #[s, x], argTypes := #[36, 36] })
    (B : Nat) (v : Value) (n : Nat) (l : List UInt8) (hs : a.eval s = v) (hown : w.ownsRow B 5 1 v n (l.map B8)) (y : Int) (c : UInt8) (hy : y = (c.toNat : Int))
    (hx : a.eval x = .slice (some ⟨w.heap.size, 0, none⟩) 1 1) (hn : n < 140737488355000) (hB : B ≤ w.heap.size)
    (h : ∀ v' w', w'.ownsRow B 5 1 v' (n + 1) ((l ++ [c]).map B8) → w.grownBy w' v.ownBlock → wpList Tryd.prog ops Q rest (a.put o.dst v') w') :
    wpList Tryd.prog ops Q (o :: rest) a (w.alloc (.cells #[.int .u8 y] 5)) := by
  subst hy
  obtain ⟨i0, hi, hz0, hz1, hz2⟩ := info_parts info8
  refine wpList_append_own _ hgd s x 36 ho B 5 i0 (.int .u8 0) 1 1 Tryd.underlying36 hi hz0 hz1 hz2 rfl (by decide) v n (l.map B8) hs (hown.alloc _)
    ⟨w.heap.size, 0, none⟩ 1 1 [.int .u8 (c.toNat : Int)] hx rfl ?_ ?_ ?_ ?_ ?_ ?_
  · intro j u hj
    match j, hj with
    | 0, hj => simp at hj; subst hj; simp [Addr.add]
  · intro u hu; simp at hu; subst hu; rfl
  · unfold maxLen; omega
  · omega
  · simp; omega
  intro v' w' h1 h2 _
  refine h v' w' (by simpa [B8] using h1) (grown_trans (World.grownBy_alloc w _ _) h2 (fun k hk => by have := hown.lt k hk; omega))
/-- append of all of a slice that is read to a row of the call's own -/
theorem appS {w : World} {ops : Array Oper} {rest : List Oper} {o : Oper} {a : Act} {Q : Exit → Act → World → Prop} (hgd : o.guard = none) (s x : Operand)
    (ho : o.op = .call { callee := .builtin .append, args := #[s, x], argTypes := #[36, 36] })
    (B : Nat) (v : Value) (n : Nat) (l : List UInt8) (hs : a.eval s = v) (hown : w.ownsRow B 5 1 v n (l.map B8)) (u : Value) (m : List UInt8)
    (hx : a.eval x = u) (hm : IsBs w u m) (hn : n + m.length < 140737488355000) (hB : B ≤ w.heap.size)
    (h : ∀ v' w', w'.ownsRow B 5 1 v' (n + m.length) ((l ++ m).map B8) → w.grownBy w' v.ownBlock → wpList Tryd.prog ops Q rest (a.put o.dst v') w') :
    wpList Tryd.prog ops Q (o :: rest) a w := by
  obtain ⟨i0, hi, hz0, hz1, hz2⟩ := info_parts info8
  obtain ⟨ad, cap, rfl, hb⟩ := hm
  rcases ad with _ | ad
  · have h0 := hb.none rfl
    have h1 := hb.fits
    have h2 : m = [] := List.eq_nil_of_length_eq_zero (by omega)
    subst h2; subst h0
    refine wpList_append_own_none hgd s x 36 ho B 5 i0 1 Tryd.underlying36 hi v n (l.map B8) hs hown hx ?_
    exact h v w (by simpa using hown) (World.grownBy.refl _ _)
  refine wpList_append_own _ hgd s x 36 ho B 5 i0 (.int .u8 0) 1 1 Tryd.underlying36 hi hz0 hz1 hz2 rfl (by decide) v n (l.map B8) hs hown
    ad m.length cap (m.map B8) hx (by simp) ?_ ?_ ?_ ?_ ?_ ?_
  · intro j u hj
    simp only [List.getElem?_map, Option.map_eq_some_iff] at hj
    obtain ⟨c, hj, rfl⟩ := hj
    obtain ⟨b, off, hp, hc⟩ := hb.cell j c hj
    obtain rfl := Option.some.inj hp
    simp only [Addr.add_lit]
    exact hc
  · intro u hu; simp only [List.mem_map] at hu; obtain ⟨c, _, rfl⟩ := hu; rfl
  · unfold maxLen; omega
  · omega
  · exact hB
  intro v' w' h1 h2 _
  exact h v' w' (by simpa using h1) h2
end Go.Proofs.YtldmfchamcpmmaaDoor
namespace Go.Proofs.YtldmfchamcpmmaaDoor.Leb
/-- the bytes' low seven bits, the first one lowest -/
def val : List UInt8 → Nat
  | [] => 0
  | c :: r => c.toNat % 128 + 128 * val r
/-- of how many bytes is the number with which l begins; 0: it does not end -/
def run : List UInt8 → Nat
  | [] => 0
  | c :: r => if c.toNat < 128 then 1 else if run r = 0 then 0 else run r + 1
def high (l : List UInt8) (k : Nat) : Prop := ∀ j c, j < k → l[j]? = some c → 128 ≤ c.toNat
theorem high_zero (l : List UInt8) : high l 0 := fun j c h _ => by omega
theorem high_succ {l : List UInt8} {k : Nat} {c : UInt8} (h : high l k) (hc : l[k]? = some c) (h1 : 128 ≤ c.toNat) : high l (k + 1) := by
  intro j d hj hd
  by_cases e : j = k
  · subst e; rw [hc] at hd; cases hd; exact h1
  exact h j d (by omega) hd
theorem high_cons {l : List UInt8} {k : Nat} {c : UInt8} : high (c :: l) (k + 1) ↔ 128 ≤ c.toNat ∧ high l k := by
  constructor
  · intro h
    exact ⟨h 0 c (by omega) rfl, fun j d hj hd => h (j + 1) d (by omega) (by simpa using hd)⟩
  intro ⟨h1, h2⟩ j d hj hd
  cases j with
  | zero => simp at hd; subst hd; exact h1
  | succ j => exact h2 j d (by omega) (by simpa using hd)
theorem run_eq {l : List UInt8} {k : Nat} {c : UInt8} (h : high l k) (hc : l[k]? = some c) (h1 : c.toNat < 128) : run l = k + 1 := by
  induction l generalizing k with
  | nil => simp at hc
  | cons d l ih =>
    cases k with
    | zero => simp at hc; subst hc; simp [run, h1]
    | succ k =>
      obtain ⟨h2, h3⟩ := high_cons.1 h
      have := ih h3 (by simpa using hc)
      simp only [run]; rw [if_neg (by omega), if_neg (by omega), this]
theorem run_end {l : List UInt8} (h : high l l.length) : run l = 0 := by
  induction l with
  | nil => rfl
  | cons d l ih =>
    obtain ⟨h2, h3⟩ := high_cons.1 h
    have := ih h3
    simp only [run]; rw [if_neg (by omega), if_pos this]
theorem run_le (l : List UInt8) : run l ≤ l.length := by
  induction l with
  | nil => simp [run]
  | cons d l ih => simp only [run, List.length_cons]; split <;> (try split) <;> omega
theorem val_lt (l : List UInt8) : val l < 128 ^ l.length := by
  induction l with
  | nil => simp [val]
  | cons c l ih => simp only [val, List.length_cons, Nat.pow_succ]; omega
/-- the number that bytes are -/
def num (sg : Bool) (l : List UInt8) : Int := if sg = true ∧ 128 ^ l.length ≤ 2 * val l then (val l : Int) - 128 ^ l.length else val l
/-- the number fits so many bytes -/
def fit7 (sg : Bool) (L : Nat) (z : Int) : Prop := if sg = true then -(128 ^ L : Int) ≤ 2 * z ∧ 2 * z < 128 ^ L else 0 ≤ z ∧ z < 128 ^ L
theorem cast_pow (L : Nat) : ((128 ^ L : Nat) : Int) = (128 : Int) ^ L := by simp
theorem num_fit (sg : Bool) (l : List UInt8) : fit7 sg l.length (num sg l) := by
  have h := val_lt l
  have e := cast_pow l.length
  unfold fit7 num
  generalize (128 : Int) ^ l.length = p at *
  generalize 128 ^ l.length = q at *
  cases sg
  · simp; omega
  simp only [true_and, if_true]
  split <;> omega
theorem fit7_succ (sg : Bool) (L : Nat) (z : Int) (hL : 1 ≤ L) : fit7 sg (L + 1) z ↔ fit7 sg L (z / 128) := by
  unfold fit7
  have e : (128 : Int) ^ (L + 1) = 128 * 128 ^ L := by rw [Int.pow_succ, Int.mul_comm]
  rw [e]
  have ev : sg = true → L ≠ 0 → ∃ r : Int, (128 : Int) ^ L = 2 * r := by
    intro _ h
    obtain ⟨k, rfl⟩ : ∃ k, L = k + 1 := ⟨L - 1, by omega⟩
    exact ⟨64 * 128 ^ k, by rw [Int.pow_succ, Int.mul_comm]; omega⟩
  cases sg
  · simp only [Bool.false_eq_true, if_false]
    generalize (128 : Int) ^ L = p at *
    omega
  simp only [if_true]
  obtain ⟨r, hr⟩ := ev rfl (by omega)
  rw [hr]; omega
theorem fit7_one (sg : Bool) (z : Int) : fit7 sg 1 z ↔ if sg = true then -64 ≤ z ∧ z < 64 else 0 ≤ z ∧ z < 128 := by
  unfold fit7; cases sg <;> simp <;> omega
/-- the number of bytes behind a first one -/
theorem num_cons (sg : Bool) (c : UInt8) (l : List UInt8) (hl : l ≠ []) : num sg (c :: l) = (c.toNat % 128 : Nat) + 128 * num sg l := by
  have e : 128 ^ (l.length + 1) = 128 * 128 ^ l.length := by rw [Nat.pow_succ, Nat.mul_comm]
  have e' := cast_pow l.length
  have e2 : (128 : Int) ^ (l.length + 1) = 128 * 128 ^ l.length := by rw [Int.pow_succ, Int.mul_comm]
  have h := val_lt l
  have hp : l.length ≠ 0 := by simpa using hl
  obtain ⟨k, hk⟩ : ∃ k, l.length = k + 1 := ⟨l.length - 1, by omega⟩
  have e3 : 128 ^ l.length = 2 * (64 * 128 ^ k) := by rw [hk, Nat.pow_succ]; omega
  unfold num
  simp only [val, List.length_cons, e, e2]
  generalize (128 : Int) ^ l.length = p at *
  generalize 128 ^ l.length = q at *
  generalize 64 * 128 ^ k = r at *
  by_cases hs : sg = true
  · simp only [hs, true_and]
    by_cases h2 : q ≤ 2 * val l
    · rw [if_pos (by omega), if_pos h2]; omega
    rw [if_neg (by omega), if_neg h2]; omega
  simp only [hs, Bool.false_eq_true, false_and, if_false]; omega
theorem num_one (sg : Bool) (c : UInt8) : num sg [c] = if sg = true ∧ 64 ≤ c.toNat % 128 then ((c.toNat % 128 : Nat) : Int) - 128 else (c.toNat % 128 : Nat) := by
  unfold num
  cases sg
  · simp [val]
  simp only [val, List.length_cons, List.length_nil, true_and]
  by_cases h : 64 ≤ c.toNat % 128
  · rw [if_pos (by omega), if_pos h]; omega
  rw [if_neg (by omega), if_neg h]; omega
/-- so many bytes of a number, the lowest first -/
def digs : Nat → Int → List UInt8
  | 0, _ => []
  | 1, z => [UInt8.ofNat (z % 128).toNat]
  | n + 2, z => UInt8.ofNat ((z % 128).toNat + 128) :: digs (n + 1) (z / 128)
theorem digs_length (n : Nat) : ∀ z, (digs n z).length = n := by
  induction n with
  | zero => intro z; rfl
  | succ n ih =>
    intro z
    cases n with
    | zero => rfl
    | succ n => simp [digs, ih]
theorem toNat_lo (z : Int) : (UInt8.ofNat (z % 128).toNat).toNat = (z % 128).toNat := by
  simp; omega
theorem toNat_hi (z : Int) : (UInt8.ofNat ((z % 128).toNat + 128)).toNat = (z % 128).toNat + 128 := by
  simp; omega
theorem digs_run (n : Nat) : ∀ (z : Int) (r : List UInt8), run (digs (n + 1) z ++ r) = n + 1 := by
  induction n with
  | zero => intro z r; simp only [digs, List.cons_append, List.nil_append, run, toNat_lo]; rw [if_pos (by omega)]
  | succ n ih => intro z r; simp only [digs, List.cons_append, run, toNat_hi, ih]; rw [if_neg (by omega), if_neg (by omega)]
theorem digs_num (sg : Bool) (n : Nat) : ∀ z, fit7 sg (n + 1) z → num sg (digs (n + 1) z) = z := by
  induction n with
  | zero =>
    intro z h
    rw [fit7_one] at h
    simp only [digs, num_one, toNat_lo]
    cases sg
    · simp at h ⊢; omega
    simp at h ⊢; split <;> omega
  | succ n ih =>
    intro z h
    rw [fit7_succ _ _ _ (by omega)] at h
    have hne : digs (n + 1) (z / 128) ≠ [] := by intro e; have := digs_length (n + 1) (z / 128); rw [e] at this; simp at this
    simp only [digs]
    rw [num_cons _ _ _ hne, ih _ h, toNat_hi]
    omega
/-- small enough for one byte -/
def small (sg : Bool) (z : Int) : Bool := if sg then decide (-64 ≤ z ∧ z < 64) else decide (z < 128)
/-- the fewest bytes of a number (at most so many) -/
def ap (sg : Bool) : Nat → Int → List UInt8
  | 0, _ => []
  | f + 1, z => if small sg z then [UInt8.ofNat (z % 128).toNat] else UInt8.ofNat ((z % 128).toNat + 128) :: ap sg f (z / 128)
/-- how many these are -/
def need (sg : Bool) : Nat → Int → Nat
  | 0, _ => 0
  | f + 1, z => if small sg z then 1 else need sg f (z / 128) + 1
theorem small_iff {sg : Bool} {z : Int} (h : sg = true ∨ 0 ≤ z) : small sg z = true ↔ fit7 sg 1 z := by
  rw [fit7_one]; unfold small; cases sg
  · simp at h ⊢; omega
  simp
theorem need_pos (sg : Bool) (f : Nat) (z : Int) : 1 ≤ need sg (f + 1) z := by simp only [need]; split <;> omega
theorem need_le (sg : Bool) (f : Nat) : ∀ z, need sg f z ≤ f := by
  induction f with
  | zero => intro z; simp [need]
  | succ f ih => intro z; simp only [need]; have := ih (z / 128); split <;> omega
theorem fit7_nonneg {sg : Bool} {L : Nat} {z : Int} (h : fit7 sg L z) : sg = true ∨ 0 ≤ z := by
  unfold fit7 at h; cases sg
  · right; simp at h; omega
  left; rfl
theorem ap_digs (sg : Bool) (f : Nat) : ∀ z, fit7 sg (f + 1) z → ap sg (f + 1) z = digs (need sg (f + 1) z) z := by
  induction f with
  | zero =>
    intro z h
    have hs := (small_iff (fit7_nonneg h)).2 h
    simp only [ap, need, hs, if_true, digs]
  | succ f ih =>
    intro z h
    rw [fit7_succ _ _ _ (by omega)] at h
    rw [ap, need]
    split
    · rfl
    rw [ih _ h]
    obtain ⟨k, hk⟩ : ∃ k, need sg (f + 1) (z / 128) = k + 1 := ⟨need sg (f + 1) (z / 128) - 1, by have := need_pos sg f (z / 128); omega⟩
    rw [hk]; rfl
theorem need_fit (sg : Bool) (f : Nat) : ∀ z, fit7 sg (f + 1) z → fit7 sg (need sg (f + 1) z) z := by
  induction f with
  | zero =>
    intro z h
    have hs := (small_iff (fit7_nonneg h)).2 h
    simpa only [need, hs, if_true] using h
  | succ f ih =>
    intro z h
    have hn := fit7_nonneg h
    rw [fit7_succ _ _ _ (by omega)] at h
    rw [need]
    split
    · exact (small_iff hn).1 ‹_›
    rw [fit7_succ _ _ _ (need_pos _ _ _)]; exact ih _ h
theorem need_min (sg : Bool) (f : Nat) : ∀ (n : Nat) z, (sg = true ∨ 0 ≤ z) → 1 ≤ n → n < need sg f z → ¬ fit7 sg n z := by
  induction f with
  | zero => intro n z _ h1 h2; simp [need] at h2
  | succ f ih =>
    intro n z hz h1 h2
    rw [need] at h2
    split at h2
    · omega
    intro hf
    have hs : ¬ fit7 sg 1 z := fun h => ‹¬ small sg z = true› ((small_iff hz).2 h)
    by_cases e : n = 1
    · subst e; exact hs hf
    obtain ⟨k, rfl⟩ : ∃ k, n = k + 1 := ⟨n - 1, by omega⟩
    rw [fit7_succ _ _ _ (by omega)] at hf
    exact ih k _ (by rcases hz with h | h; exact .inl h; right; omega) (by omega) (by omega) hf
/-- a number of so many bits -/
def fits (sg : Bool) (b : Nat) (z : Int) : Bool := if sg then decide (-(2 ^ b : Int) ≤ 2 * z ∧ 2 * z < 2 ^ b) else decide (z < 2 ^ b)
/-- THE NUMBER with which bytes begin, of so many bits, and its bytes -/
def tk (sg : Bool) (l : List UInt8) (bits : Int) : Option (Int × Nat) :=
  if bits < 1 ∨ 64 < bits ∨ run l = 0 ∨ (bits + 6) / 7 < run l then none
  else if fits sg bits.toNat (num sg (l.take (run l))) then some (num sg (l.take (run l)), run l) else none
theorem pow128 (k : Nat) : (128 : Int) ^ k = 2 ^ (7 * k) := by rw [Int.pow_mul]; rfl
theorem pow9 {k : Nat} (h : k ≤ 9) : 128 ^ k ≤ 9223372036854775808 := by
  have : 128 ^ k ≤ 128 ^ 9 := Nat.pow_le_pow_right (by omega) h
  have e : 128 ^ 9 = 9223372036854775808 := by decide
  omega
end Go.Proofs.YtldmfchamcpmmaaDoor.Leb
namespace Go.Proofs.YtldmfchamcpmmaaDoor
open Go.RowKit
theorem or128 (z : Int) : bits BinOp.or IntKind.u8 (z % 256) 128 = ((UInt8.ofNat ((z % 128).toNat + 128)).toNat : Int) := by
  obtain ⟨m, hm⟩ : ∃ m : Nat, z % 256 = m := ⟨(z % 256).toNat, by omega⟩
  rw [Leb.toNat_hi, hm, show (128 : Int) = ((128 : Nat) : Int) from rfl, u8_or_nat m 128 (by omega) (by omega)]
  have h : ∀ m, m < 256 → m ||| 128 = m % 128 + 128 := by decide +kernel
  rw [h m (by omega)]; omega
theorem and127 (z : Int) : bits BinOp.and IntKind.u8 (z % 256) 127 = ((UInt8.ofNat (z % 128).toNat).toNat : Int) := by
  obtain ⟨m, hm⟩ : ∃ m : Nat, z % 256 = m := ⟨(z % 256).toNat, by omega⟩
  rw [Leb.toNat_lo, hm, show (127 : Int) = ((127 : Nat) : Int) from rfl, u8_and_nat m 127 (by omega) (by omega), nat_mask7]; omega
theorem low7 (z : Int) (h : 0 ≤ z) (h1 : z < 128) : z = ((UInt8.ofNat (z % 128).toNat).toNat : Int) := by rw [Leb.toNat_lo]; omega
theorem ap_step {sg : Bool} {f : Nat} {z : Int} (h : Leb.small sg z = false) : Leb.ap sg (f + 1) z = UInt8.ofNat ((z % 128).toNat + 128) :: Leb.ap sg f (z / 128) := by rw [Leb.ap, if_neg (by simp [h])]
theorem ap_last {sg : Bool} {f : Nat} {z : Int} (h : Leb.small sg z = true) : Leb.ap sg (f + 1) z = [UInt8.ofNat (z % 128).toNat] := by rw [Leb.ap, if_pos h]
/-- what has been laid, and what is left to lay -/
def Laying (sg : Bool) (l : List UInt8) (z : Int) (k : Nat) (y : Int) (l' : List UInt8) : Prop :=
  k ≤ 9 ∧ Leb.fit7 sg (10 - k) y ∧ l' ++ Leb.ap sg (10 - k) y = l ++ Leb.ap sg 10 z ∧ l'.length = l.length + k
theorem Laying.step {sg : Bool} {l : List UInt8} {z : Int} {k : Nat} {y : Int} {l' : List UInt8} (h : Laying sg l z k y l') (hs : Leb.small sg y = false) :
    Laying sg l z (k + 1) (y / 128) (l' ++ [UInt8.ofNat ((y % 128).toNat + 128)]) := by
  obtain ⟨h1, h2, h3, h4⟩ := h
  obtain ⟨f, hf⟩ : ∃ f, 10 - k = f + 1 := ⟨9 - k, by omega⟩
  rw [hf] at h2 h3
  have h5 : f ≠ 0 := by
    intro e; subst e
    rw [(Leb.small_iff (Leb.fit7_nonneg h2)).2 h2] at hs; cases hs
  rw [ap_step hs] at h3
  rw [Leb.fit7_succ _ _ _ (by omega)] at h2
  refine ⟨by omega, ?_, ?_, by simp; omega⟩
  · rw [show 10 - (k + 1) = f from by omega]; exact h2
  rw [show 10 - (k + 1) = f from by omega, List.append_assoc]; exact h3
theorem Laying.last {sg : Bool} {l : List UInt8} {z : Int} {k : Nat} {y : Int} {l' : List UInt8} (h : Laying sg l z k y l') (hs : Leb.small sg y = true) :
    l' ++ [UInt8.ofNat (y % 128).toNat] = l ++ Leb.ap sg 10 z := by
  obtain ⟨h1, h2, h3, h4⟩ := h
  obtain ⟨f, hf⟩ : ∃ f, 10 - k = f + 1 := ⟨9 - k, by omega⟩
  rw [hf, ap_last hs] at h3; exact h3
/-- a new slice that reads as l, of the call's own -/
def Fresh (w w' : World) (v : Value) (l : List UInt8) : Prop := w'.ownsRow w.heap.size 5 1 v l.length (l.map B8) ∧ Below w.heap.size w w'
theorem Fresh.is {w w' : World} {v : Value} {l : List UInt8} (h : Fresh w w' v l) : IsBs w' v l := IsBs.own h.1
theorem AppendU_any (v : Value) (l : List UInt8) (z : Int) (w : World) (hv : IsBs w v l) (hl : l.length ≤ 1000000) (h0 : 0 ≤ z) (h1 : z < 18446744073709551616) :
    Calls Tryd.prog 39 #[v, .int .u64 z] w fun e w' => ∃ v', e = .returned v' ∧ Fresh w w' v' (l ++ Leb.ap false 10 z) := by
  have hst : Laying false l z 0 z l := ⟨by omega, by simp [Leb.fit7]; omega, rfl, rfl⟩
  have HS := Lib.hid hst; clear hst h1
  go_enter Tryd.func39, Tryd.ntmps39
  go_wp2_with (at_builtin; refine appS rfl _ _ rfl w.heap.size _ _ [] rfl (ownNil w _) v l rfl hv (by omega) (by omega) ?_; intro v1 w1 hown1 hgrow1)
  go_loopw [1, 5] (fun n' v' wr => ∃ (k : Nat) (y : Int) (l' : List UInt8), 0 ≤ y ∧ n' = .int .u64 y ∧ wr.ownsRow w.heap.size 5 1 v' l'.length (l'.map B8) ∧ Laying false l z k y l' ∧ Below w.heap.size w wr)
    (fun n' _ _ => (intOf n').toNat)
  case atStart => exact ⟨0, z, l, h0, rfl, by simpa using hown1, HS.out, below_grown (Below.refl _ _) hgrow1 (ownNil w _) (by omega)⟩
  case round =>
    obtain ⟨k, y, l', hy, rfl, hown, hlay, hb⟩ := hrel
    have HA := Lib.hid hlay; clear hlay
    have hsz := hb.size
    have hll : l'.length ≤ 1000010 := by have := HA.out.2.2.2; have := HA.out.1; omega
    by_cases hlt : y < 128
    · have HO := Lib.hid (low7 y hy hlt)
      go_wp2_with (at_builtin; refine app1 rfl _ _ rfl w.heap.size _ _ l' rfl hown _ (UInt8.ofNat (y % 128).toNat) HO.out rfl (by omega) hsz ?_; intro v1 w1 hown1 hgrow1)
      go_ret
      refine ⟨_, rfl, ?_, below_grown hb hgrow1 hown hsz⟩
      rw [← HA.out.last (by simp [Leb.small, hlt])]; simpa using hown1
    have HO := Lib.hid (or128 y)
    go_wp2_with (at_builtin; refine app1 rfl _ _ rfl w.heap.size _ _ l' rfl hown _ (UInt8.ofNat ((y % 128).toNat + 128)) HO.out rfl (by omega) hsz ?_; intro v1 w1 hown1 hgrow1)
    go_roundw
    case rel => exact ⟨k + 1, y / 128, _, by omega, rfl, by simpa using hown1, HA.out.step (by simp [Leb.small, hlt]), below_grown hb hgrow1 hown hsz⟩
    case measure => simp [intOf]; omega
theorem AppendS_any (v : Value) (l : List UInt8) (z : Int) (w : World) (hv : IsBs w v l) (hl : l.length ≤ 1000000) (h0 : -9223372036854775808 ≤ z) (h1 : z < 9223372036854775808) :
    Calls Tryd.prog 155 #[v, .int .i64 z] w fun e w' => ∃ v', e = .returned v' ∧ Fresh w w' v' (l ++ Leb.ap true 10 z) := by
  have hst : Laying true l z 0 z l := ⟨by omega, by simp [Leb.fit7]; omega, rfl, rfl⟩
  have HS := Lib.hid hst; clear hst h1 h0
  go_enter Tryd.func155, Tryd.ntmps155
  go_wp2_with (at_builtin; refine appS rfl _ _ rfl w.heap.size _ _ [] rfl (ownNil w _) v l rfl hv (by omega) (by omega) ?_; intro v1 w1 hown1 hgrow1)
  go_loopw [1, 5] (fun n' v' wr => ∃ (k : Nat) (y : Int) (l' : List UInt8), n' = .int .i64 y ∧ wr.ownsRow w.heap.size 5 1 v' l'.length (l'.map B8) ∧ Laying true l z k y l' ∧ Below w.heap.size w wr)
    (fun n' _ _ => (intOf n').natAbs)
  case atStart => exact ⟨0, z, l, rfl, by simpa using hown1, HS.out, below_grown (Below.refl _ _) hgrow1 (ownNil w _) (by omega)⟩
  case round =>
    obtain ⟨k, y, l', rfl, hown, hlay, hb⟩ := hrel
    have HA := Lib.hid hlay; clear hlay
    have hsz := hb.size
    have hll : l'.length ≤ 1000010 := by have := HA.out.2.2.2; have := HA.out.1; omega
    by_cases hlt : -64 ≤ y
    · by_cases hlt2 : y ≤ 63
      · have HO := Lib.hid (and127 y)
        go_wp2_with (at_builtin; refine app1 rfl _ _ rfl w.heap.size _ _ l' rfl hown _ (UInt8.ofNat (y % 128).toNat) HO.out rfl (by omega) hsz ?_; intro v1 w1 hown1 hgrow1)
        go_ret
        refine ⟨_, rfl, ?_, below_grown hb hgrow1 hown hsz⟩
        rw [← HA.out.last (by simp [Leb.small]; omega)]; simpa using hown1
      have HO := Lib.hid (or128 y)
      go_wp2_with (at_builtin; refine app1 rfl _ _ rfl w.heap.size _ _ l' rfl hown _ (UInt8.ofNat ((y % 128).toNat + 128)) HO.out rfl (by omega) hsz ?_; intro v1 w1 hown1 hgrow1)
      go_roundw
      case rel => exact ⟨k + 1, y / 128, _, rfl, by simpa using hown1, HA.out.step (by simp [Leb.small]; omega), below_grown hb hgrow1 hown hsz⟩
      case measure => simp [intOf]; omega
    have HO := Lib.hid (or128 y)
    go_wp2_with (at_builtin; refine app1 rfl _ _ rfl w.heap.size _ _ l' rfl hown _ (UInt8.ofNat ((y % 128).toNat + 128)) HO.out rfl (by omega) hsz ?_; intro v1 w1 hown1 hgrow1)
    go_roundw
    case rel => exact ⟨k + 1, y / 128, _, rfl, by simpa using hown1, HA.out.step (by simp [Leb.small]; omega), below_grown hb hgrow1 hown hsz⟩
    case measure => simp [intOf]; omega
end Go.Proofs.YtldmfchamcpmmaaDoor
namespace Go.Proofs.YtldmfchamcpmmaaDoor.Leb
/-- a number's bit, from the lowest one on -/
def zbit (z : Int) (at_ : Nat) : Int := z / 2 ^ at_ % 2
theorem zbit_01 (z : Int) (n : Nat) : zbit z n = 0 ∨ zbit z n = 1 := by unfold zbit; omega
theorem zbit_low (z : Int) (c : Nat) (n : Nat) (hn : n < 7) (h : z % 128 = ((c % 128 : Nat) : Int)) : zbit z n = ((c / 2 ^ n % 2 : Nat) : Int) := by
  unfold zbit
  match n, hn with
  | 0, _ => simp; omega
  | 1, _ => simp; omega
  | 2, _ => simp; omega
  | 3, _ => simp; omega
  | 4, _ => simp; omega
  | 5, _ => simp; omega
  | 6, _ => simp; omega
theorem num_mod (sg : Bool) (c : UInt8) (l : List UInt8) : num sg (c :: l) % 128 = ((c.toNat % 128 : Nat) : Int) := by
  by_cases hl : l = []
  · subst hl; rw [num_one]; split <;> omega
  rw [num_cons sg c l hl]; omega
theorem num_div (sg : Bool) (c : UInt8) (l : List UInt8) (hl : l ≠ []) : num sg (c :: l) / 128 = num sg l := by
  rw [num_cons sg c l hl]; omega
theorem zbit_seven (z : Int) (n : Nat) : zbit z (n + 7) = zbit (z / 128) n := by
  unfold zbit
  have : (2 : Int) ^ (n + 7) = 128 * 2 ^ n := by rw [Int.pow_add, Int.mul_comm]; rfl
  rw [this, ← Int.ediv_ediv_of_nonneg (by omega)]
/-- the bit of a byte is the number's -/
theorem zbit_at (sg : Bool) (l : List UInt8) : ∀ (n : Nat) (c : UInt8), l[n / 7]? = some c → zbit (num sg l) n = ((c.toNat / 2 ^ (n % 7) % 2 : Nat) : Int) := by
  induction l with
  | nil => intro n c h; simp at h
  | cons d l ih =>
    intro n c h
    by_cases hn : n < 7
    · rw [Nat.div_eq_of_lt hn] at h
      simp at h; subst h
      rw [Nat.mod_eq_of_lt hn]
      exact zbit_low _ _ _ hn (num_mod sg d l)
    obtain ⟨m, rfl⟩ : ∃ m, n = m + 7 := ⟨n - 7, by omega⟩
    rw [Nat.add_div_right m (by omega)] at h
    have h' : l[m / 7]? = some c := by simpa using h
    have hl : l ≠ [] := by intro e; subst e; simp at h'
    rw [zbit_seven, num_div sg d l hl, ih m c h', Nat.add_mod_right]
theorem small_div {z p : Int} (h0 : -p ≤ z) (h1 : z < p) : z / p = if 0 ≤ z then 0 else -1 := by
  split
  · exact Int.ediv_eq_zero_of_lt (by omega) h1
  have e : z = (z + p) + p * (-1) := by omega
  rw [e, Int.add_mul_ediv_left _ _ (by omega), Int.ediv_eq_zero_of_lt (by omega) (by omega)]; rfl
theorem pow_le {a b : Nat} (h : a ≤ b) : (2 : Int) ^ a ≤ 2 ^ b := by
  have h1 : 2 ^ a ≤ 2 ^ b := Nat.pow_le_pow_right (by omega) h
  have c1 : ((2 ^ a : Nat) : Int) = 2 ^ a := by simp
  have c2 : ((2 ^ b : Nat) : Int) = 2 ^ b := by simp
  omega
/-- above all bits of a number they are as its sign -/
theorem zbit_high {z : Int} {m n : Nat} (h0 : -(2 ^ m : Int) ≤ z) (h1 : z < 2 ^ m) (hn : m ≤ n) : zbit z n = if 0 ≤ z then 0 else 1 := by
  have := pow_le hn
  unfold zbit
  rw [small_div (by omega) (by omega)]
  split <;> rfl
theorem fit7_pow {L : Nat} {z : Int} (hL : 1 ≤ L) : fit7 true L z ↔ -(2 ^ (7 * L - 1) : Int) ≤ z ∧ z < 2 ^ (7 * L - 1) := by
  unfold fit7
  obtain ⟨m, hm⟩ : ∃ m, 7 * L = m + 1 := ⟨7 * L - 1, by omega⟩
  rw [pow128, hm, Int.pow_succ]
  simp; omega
theorem zbit_out {sg : Bool} {l : List UInt8} {n : Nat} (hl : l ≠ []) (hn : 7 * l.length ≤ n) : zbit (num sg l) n = if sg = true then zbit (num sg l) (7 * l.length - 1) else 0 := by
  have hp : 1 ≤ l.length := by have : l.length ≠ 0 := by simpa using hl
                               omega
  have hf := num_fit sg l
  cases sg
  · unfold fit7 at hf
    simp only [Bool.false_eq_true, if_false] at hf ⊢
    rw [pow128] at hf
    rw [zbit_high (m := 7 * l.length) (by omega) hf.2 hn, if_pos hf.1]
  rw [fit7_pow hp] at hf
  simp only [if_true]
  rw [zbit_high hf.1 hf.2 (by omega), zbit_high hf.1 hf.2 (Nat.le_refl _)]
/-- the bit that is asked of one that is too much -/
def good (sg : Bool) (b : Nat) (z : Int) (n : Nat) : Prop := zbit z n = if sg = true then zbit z (b - 1) else 0
theorem half2 (z : Int) (j : Nat) : z / 2 ^ (j + 1) = z / 2 ^ j / 2 := by
  rw [Int.pow_succ, ← Int.ediv_ediv_of_nonneg (Int.le_of_lt (Int.pow_pos (by omega)))]
theorem half (z : Int) (j : Nat) : z / 2 ^ j = 2 * (z / 2 ^ (j + 1)) + zbit z j := by
  rw [half2]; unfold zbit; omega
theorem bounds_of_div {z p : Int} (hp : 0 < p) (h : z / p = 0 ∨ z / p = -1) : -p ≤ z ∧ z < p := by
  have h1 := Int.lt_ediv_add_one_mul_self z hp
  have h2 := Int.ediv_mul_le z (show p ≠ 0 by omega)
  rcases h with h | h <;> rw [h] at h1 h2 <;> omega
/-- THE REFERENCE's CHECK -/
theorem fits_iff {sg : Bool} {n b : Nat} {z : Int} (hn : 1 ≤ n) (hb : 1 ≤ b) (hf : fit7 sg n z) : fits sg b z = true ↔ ∀ at_, b ≤ at_ → at_ < 7 * n → good sg b z at_ := by
  obtain ⟨c, rfl⟩ : ∃ c, b = c + 1 := ⟨b - 1, by omega⟩
  cases sg
  · unfold fit7 at hf
    rw [pow128] at hf
    simp only [Bool.false_eq_true, if_false] at hf
    unfold fits good
    simp only [Bool.false_eq_true, if_false, decide_eq_true_eq]
    constructor
    · intro h at_ h1 _
      rw [zbit_high (m := c + 1) (by omega) h h1, if_pos hf.1]
    intro h
    by_cases hle : 7 * n ≤ c + 1
    · have := pow_le hle; omega
    have key : ∀ d, d ≤ 7 * n - (c + 1) → z / 2 ^ (7 * n - d) = 0 := by
      intro d
      induction d with
      | zero => intro _; exact Int.ediv_eq_zero_of_lt hf.1 hf.2
      | succ d ih =>
        intro hd
        have h1 := ih (by omega)
        have h2 := h (7 * n - (d + 1)) (by omega) (by omega)
        have h3 := half z (7 * n - (d + 1))
        rw [show 7 * n - (d + 1) + 1 = 7 * n - d by omega, h1, h2] at h3
        exact h3
    have h1 := key (7 * n - (c + 1)) (Nat.le_refl _)
    rw [show 7 * n - (7 * n - (c + 1)) = c + 1 by omega] at h1
    have hp : (0 : Int) < 2 ^ (c + 1) := Int.pow_pos (by omega)
    exact (bounds_of_div hp (.inl h1)).2
  rw [fit7_pow hn] at hf
  unfold fits good
  simp only [if_true, decide_eq_true_eq, Nat.add_sub_cancel]
  have hpc : (2 : Int) ^ (c + 1) = 2 * 2 ^ c := by rw [Int.pow_succ, Int.mul_comm]
  constructor
  · intro h at_ h1 _
    rw [zbit_high (m := c) (by omega) (by omega) (by omega), zbit_high (m := c) (by omega) (by omega) (Nat.le_refl _)]
  intro h
  by_cases hle : 7 * n ≤ c + 1
  · have := pow_le (show 7 * n - 1 ≤ c by omega); omega
  have key : ∀ d, d ≤ 7 * n - 1 - c → z / 2 ^ (7 * n - 1 - d) = 0 ∨ z / 2 ^ (7 * n - 1 - d) = -1 := by
    intro d
    induction d with
    | zero =>
      intro _
      rw [Nat.sub_zero, small_div hf.1 hf.2]; split <;> simp
    | succ d ih =>
      intro hd
      have h1 := ih (by omega)
      have h2 := h (7 * n - 1 - d) (by omega) (by omega)
      have h4 : zbit z (7 * n - 1 - (d + 1)) = zbit z c := by
        by_cases e : 7 * n - 1 - (d + 1) = c
        · rw [e]
        exact h _ (by omega) (by omega)
      have h3 := half z (7 * n - 1 - (d + 1))
      rw [show 7 * n - 1 - (d + 1) + 1 = 7 * n - 1 - d by omega, h4, ← h2] at h3
      unfold zbit at h3
      rcases h1 with h1 | h1 <;> rw [h1] at h3 <;> omega
  have h1 := key (7 * n - 1 - c) (Nat.le_refl _)
  rw [show 7 * n - 1 - (7 * n - 1 - c) = c by omega] at h1
  have hp : (0 : Int) < 2 ^ c := Int.pow_pos (by omega)
  have := bounds_of_div hp h1
  omega
/-- one bit more -/
theorem horner (z : Int) (j m : Nat) : z / 2 ^ j % 2 ^ (m + 1) = 2 * (z / 2 ^ (j + 1) % 2 ^ m) + zbit z j := by
  rw [half2]; unfold zbit
  generalize z / 2 ^ j = q
  have hp : (0 : Int) < 2 ^ m := Int.pow_pos (by omega)
  rw [Int.pow_succ]
  have e : q = 2 * (q / 2) + q % 2 := by omega
  have h1 := Int.emod_nonneg (q / 2) (show (2 ^ m : Int) ≠ 0 by omega)
  have h2 := Int.emod_lt_of_pos (q / 2) hp
  have h3 := Int.mul_ediv_add_emod (q / 2) (2 ^ m)
  have e2 : q = (2 * (q / 2 % 2 ^ m) + q % 2) + (2 ^ m * 2) * (q / 2 / 2 ^ m) := by
    have : 2 ^ m * 2 * (q / 2 / 2 ^ m) = 2 * (2 ^ m * (q / 2 / 2 ^ m)) := by rw [Int.mul_comm (2 ^ m) 2, Int.mul_assoc]
    omega
  conv => lhs; rw [e2]
  rw [Int.add_mul_emod_self_left]
  exact Int.emod_eq_of_lt (by omega) (by omega)
end Go.Proofs.YtldmfchamcpmmaaDoor.Leb
namespace Go.Proofs.YtldmfchamcpmmaaDoor
open Go.RowKit
set_option linter.unusedVariables false
theorem most_any (n : Int) (w : World) (h0 : 1 ≤ n) (h1 : n ≤ 1000000) :
    Calls Tryd.prog 148 #[.int .i64 n] w fun e w' => e = .returned (.int .i64 ((n + 6) / 7)) ∧ w = w' := by
  go_enter Tryd.func148, Tryd.ntmps148
  go_wp2
  go_ret
  exact ⟨rfl, rfl⟩
theorem run_any (v : Value) (l : List UInt8) (w : World) (hv : IsBs w v l) :
    Calls Tryd.prog 147 #[v] w fun e w' => e = .returned (.int .i64 (Leb.run l)) ∧ w = w' := by
  obtain ⟨a, cap, rfl, hs⟩ := hv
  have hlen := hs.len
  go_enter Tryd.func147, Tryd.ntmps147
  go_wp2
  go_loop [3] (fun i => ∃ k : Nat, k ≤ l.length ∧ i = .int .i64 k ∧ Leb.high l k) (fun i => l.length - (intOf i).toNat)
  case atStart => exact ⟨0, by omega, rfl, Leb.high_zero _⟩
  case round =>
    obtain ⟨k, hk, rfl, hh⟩ := hrel
    have HH := Lib.hid hh; clear hh
    by_cases hlt : k < l.length
    · obtain ⟨b, off, c, rfl, hc, hc2, hcell⟩ := hs.at k hlt
      by_cases hb : c.toNat < 128
      · go_wp2
        go_ret
        exact ⟨retI (by rw [Leb.run_eq HH.out hc.out hb]; simp), rfl⟩
      go_wp2
      go_round
      case rel => exact ⟨k + 1, hlt, by go_num, Leb.high_succ HH.out hc.out (by omega)⟩
      case measure => simp [intOf]; omega
    go_wp2
    go_ret
    have e : k = l.length := by omega
    subst e
    exact ⟨retI (by rw [Leb.run_end HH.out]; rfl), rfl⟩
theorem halves (c : Nat) (j : Nat) : ((c / 2 ^ j : Nat) : Int) / 2 = ((c / 2 ^ (j + 1) : Nat) : Int) := by
  rw [Nat.pow_succ, ← Nat.div_div_eq_div_mul]; omega
theorem bit_end (sg : Bool) (l : List UInt8) (n : Nat) (c : UInt8) (h : l[n / 7]? = some c) (k : Nat) (hk : k = n % 7) : ((c.toNat / 2 ^ k : Nat) : Int) % 2 = Leb.zbit (Leb.num sg l) n := by
  subst hk; rw [Leb.zbit_at sg l n c h]; omega
theorem bit_any (v : Value) (l : List UInt8) (n : Nat) (sg : Bool) (w : World) (hv : IsBs w v l) (hl : l ≠ []) (hl2 : l.length ≤ 1000000) (hn : n ≤ 100000000) :
    Calls Tryd.prog 149 #[v, .int .i64 (n : Int), .bool sg] w fun e w' => e = .returned (.int .i64 (Leb.zbit (Leb.num sg l) n)) ∧ w = w' := by
  obtain ⟨a, cap, rfl, hs⟩ := hv
  have hlp : 0 < l.length := by have : l.length ≠ 0 := by simpa using hl
                                omega
  by_cases hb : n < 7 * l.length
  · obtain ⟨b, off, c, rfl, hc, hc2, hcell⟩ := hs.at (n / 7) (by omega)
    have fin := bit_end sg l n c hc.out
    have FIN := Lib.hid fin; clear fin hl
    go_enter Tryd.func149, Tryd.ntmps149
    go_wp2
    go_loop [7, 8] (fun x i => ∃ k : Nat, k ≤ n % 7 ∧ i = .int .i64 k ∧ x = .int .i64 ((c.toNat / 2 ^ k : Nat) : Int)) (fun _ i => n % 7 - (intOf i).toNat)
    case atStart => exact ⟨0, by omega, rfl, by simp⟩
    case round =>
      obtain ⟨k, hk, rfl, rfl⟩ := hrel
      have hh := halves c.toNat k
      have hx : c.toNat / 2 ^ k ≤ 255 := Nat.le_trans (Nat.div_le_self _ _) (by omega)
      have he := FIN.out k
      generalize c.toNat / 2 ^ k = x at *
      have HH := Lib.hid hh; clear hh
      have HE := Lib.hid he; clear he
      by_cases hlt : k < n % 7
      · go_wp2
        go_round
        case rel => exact ⟨k + 1, hlt, by go_num, congrArg _ HH.out⟩
        case measure => simp [intOf]; omega
      go_wp2
      go_ret
      exact ⟨retI (HE.out (by omega)), rfl⟩
  cases sg
  · have fin := Leb.zbit_out (sg := false) hl (by omega : 7 * l.length ≤ n)
    have FIN := Lib.hid fin; clear fin hl
    go_enter Tryd.func149, Tryd.ntmps149
    go_wp2
    go_ret
    exact ⟨retI (by rw [FIN.out]; rfl), rfl⟩
  obtain ⟨b, off, c, rfl, hc, hc2, hcell⟩ := hs.at ((7 * l.length - 1) / 7) (by omega)
  have fin := bit_end true l (7 * l.length - 1) c hc.out
  have fin2 := Leb.zbit_out (sg := true) hl (by omega : 7 * l.length ≤ n)
  have FIN := Lib.hid fin; clear fin
  have FIN2 := Lib.hid fin2; clear fin2 hl
  go_enter Tryd.func149, Tryd.ntmps149
  go_wp2
  go_loop [7, 8] (fun x i => ∃ k : Nat, k ≤ 6 ∧ i = .int .i64 k ∧ x = .int .i64 ((c.toNat / 2 ^ k : Nat) : Int)) (fun _ i => 6 - (intOf i).toNat)
  case atStart => exact ⟨0, by omega, rfl, by simp⟩
  case round =>
    obtain ⟨k, hk, rfl, rfl⟩ := hrel
    have hh := halves c.toNat k
    have hx : c.toNat / 2 ^ k ≤ 255 := Nat.le_trans (Nat.div_le_self _ _) (by omega)
    have he := FIN.out k
    generalize c.toNat / 2 ^ k = x at *
    have HH := Lib.hid hh; clear hh
    have HE := Lib.hid he; clear he
    by_cases hlt : k < 6
    · go_wp2
      go_round
      case rel => exact ⟨k + 1, hlt, by go_num, congrArg _ HH.out⟩
      case measure => simp [intOf]; omega
    go_wp2
    go_ret
    exact ⟨retI ((HE.out (by omega)).trans (by rw [FIN2.out]; simp)), rfl⟩
/-- what the reference answers -/
def rfT (o : Option (Int × Nat)) : Value := match o with | some (z, k) => .tuple #[.int .u64 (z % 18446744073709551616), .int .i64 k] | none => .tuple #[.int .u64 0, .int .i64 0]
theorem tk_no {sg : Bool} {l : List UInt8} {z : Int} (h : z < 1 ∨ 64 < z ∨ Leb.run l = 0 ∨ (z + 6) / 7 < Leb.run l) : Leb.tk sg l z = none := by
  unfold Leb.tk; rw [if_pos h]
theorem tk_yes {sg : Bool} {l : List UInt8} {z : Int} (h : ¬ (z < 1 ∨ 64 < z ∨ Leb.run l = 0 ∨ (z + 6) / 7 < Leb.run l)) :
    Leb.tk sg l z = if Leb.fits sg z.toNat (Leb.num sg (l.take (Leb.run l))) then some (Leb.num sg (l.take (Leb.run l)), Leb.run l) else none := by
  unfold Leb.tk; rw [if_neg h]
/-- where there is no number at all -/
theorem Take_no (v : Value) (l : List UInt8) (z : Int) (sg : Bool) (w : World) (hv : IsBs w v l) (h : z < 1 ∨ 64 < z ∨ Leb.run l = 0 ∨ (z + 6) / 7 < Leb.run l) :
    Calls Tryd.prog 125 #[v, .int .i64 z, .bool sg] w fun e w' => e = .returned (rfT (Leb.tk sg l z)) ∧ w = w' := by
  rw [tk_no h]
  obtain ⟨n, hn⟩ : ∃ n, n = Leb.run l := ⟨_, rfl⟩
  have hle := Leb.run_le l
  obtain ⟨a, cap, rfl, hs⟩ := hv
  have hlen := hs.len
  rw [← hn] at hle h
  have HN := Lib.hid hn; clear hn
  have H := Lib.hid h; clear h
  by_cases h1 : z < 1
  · go_enter Tryd.func125, Tryd.ntmps125
    go_wp2_with (first | (go_at_call 147; refine (run_any _ l _ ⟨a, cap, rfl, hs⟩).mono ?_; rw [← HN.out]; rintro e w' ⟨rfl, rfl⟩))
    go_ret2
    exact ⟨rfl, rfl⟩
  by_cases h2 : 64 < z
  · go_enter Tryd.func125, Tryd.ntmps125
    go_wp2_with (first | (go_at_call 147; refine (run_any _ l _ ⟨a, cap, rfl, hs⟩).mono ?_; rw [← HN.out]; rintro e w' ⟨rfl, rfl⟩))
    go_ret2
    exact ⟨rfl, rfl⟩
  by_cases h3 : n = 0
  · have h3' : ((n : Int) == 0) = true := by simp; omega
    clear h3
    go_enter Tryd.func125, Tryd.ntmps125
    go_wp2_with (first | (go_at_call 147; refine (run_any _ l _ ⟨a, cap, rfl, hs⟩).mono ?_; rw [← HN.out]; rintro e w' ⟨rfl, rfl⟩))
    go_ret2
    exact ⟨rfl, rfl⟩
  have h4 : (z + 6) / 7 < n := by have := H.out; omega
  have h3' : ((n : Int) == 0) = false := by simp; omega
  go_enter Tryd.func125, Tryd.ntmps125
  go_wp2_with (first | (go_at_call 147; refine (run_any _ l _ ⟨a, cap, rfl, hs⟩).mono ?_; rw [← HN.out]; rintro e w' ⟨rfl, rfl⟩) | (go_at_call 148; refine (most_any _ _ (by omega) (by omega)).mono ?_; rintro e w' ⟨rfl, rfl⟩))
  go_ret2
  exact ⟨rfl, rfl⟩
theorem good_next {sg : Bool} {b k : Nat} {z : Int} (h : Hid (∀ j, b ≤ j → j < k → Leb.good sg b z j)) (hk : Leb.good sg b z k) : ∀ j, b ≤ j → j < k + 1 → Leb.good sg b z j := by
  intro j h1 h2
  by_cases e : j = k
  · subst e; exact hk
  exact h.out j h1 (by omega)
theorem Take_yes (v : Value) (l : List UInt8) (b : Nat) (sg : Bool) (w : World) (hv : IsBs w v l) (hb : b ≤ 63) (hr : Leb.run l ≠ 0) (hr2 : 7 * Leb.run l ≤ b + 7) :
    Calls Tryd.prog 125 #[v, .int .i64 (b + 1), .bool sg] w fun e w' => e = .returned (rfT (Leb.tk sg l (b + 1))) ∧ w = w' := by
  have ht := tk_yes (sg := sg) (l := l) (z := b + 1) (by omega)
  rw [show ((b : Int) + 1).toNat = b + 1 by omega] at ht
  have hle := Leb.run_le l
  generalize hn : Leb.run l = n at *
  obtain ⟨a, cap, rfl, hs⟩ := hv
  have hlen := hs.len
  have hfit := hs.fits
  have hs' := hs.take n
  have hll : (l.take n).length = n := by simp; omega
  have hf := Leb.num_fit sg (l.take n)
  rw [hll] at hf
  generalize l.take n = l' at *
  have hv' : IsBs w (.slice a n cap) l' := ⟨a, cap, by rw [hll], hs'⟩
  have hne : l' ≠ [] := by intro e; subst e; simp at hll; omega
  have hlm : l'.length ≤ 1000000 := by omega
  have hfi := Leb.fits_iff (sg := sg) (n := n) (b := b + 1) (z := Leb.num sg l') (by omega) (by omega) hf
  have HT := Lib.hid ht; clear ht
  have HN := Lib.hid hn; clear hn
  have HFI := Lib.hid hfi; clear hfi hf hll hs'
  have HNE := Lib.hid hne; clear hne
  have h3' : ((n : Int) == 0) = false := by simp; omega
  have HS := Lib.hid hs; clear hs
  clear hr
  go_enter Tryd.func125, Tryd.ntmps125
  go_wp2_with (first | (go_at_call 147; refine (run_any _ l _ ⟨a, cap, rfl, HS.out⟩).mono ?_; rw [HN.out]; rintro e w' ⟨rfl, rfl⟩) | (go_at_call 148; refine (most_any _ _ (by omega) (by omega)).mono ?_; rintro e w' ⟨rfl, rfl⟩))
  go_loop [10] (fun i => ∃ k : Nat, b + 1 ≤ k ∧ k ≤ 1000 ∧ i = .int .i64 k ∧ ∀ j, b + 1 ≤ j → j < k → Leb.good sg (b + 1) (Leb.num sg l') j) (fun i => 7 * n - (intOf i).toNat)
  case atStart => exact ⟨b + 1, by omega, by omega, by simp, fun j _ _ => by omega⟩
  case round =>
    obtain ⟨k, hk, hk2, rfl, hg⟩ := hrel
    have HG := Lib.hid hg; clear hg
    by_cases hlt : k < 7 * n
    · cases sg
      · by_cases hgd : Leb.zbit (Leb.num false l') k = 0
        · go_wp2_with (first | (go_at_call 149; refine (bit_any _ l' _ _ _ hv' HNE.out hlm (by omega)).mono ?_; rintro e w' ⟨rfl, rfl⟩))
          go_round
          case rel => exact ⟨k + 1, by omega, by omega, by go_num, good_next HG hgd⟩
          case measure => simp [intOf]; omega
        go_wp2_with (first | (go_at_call 149; refine (bit_any _ l' _ _ _ hv' HNE.out hlm (by omega)).mono ?_; rintro e w' ⟨rfl, rfl⟩))
        go_ret2
        exact ⟨fin3 (by rw [HT.out, if_neg (fun h => hgd (HFI.out.1 h k hk hlt))]; rfl), rfl⟩
      by_cases hgd : Leb.zbit (Leb.num true l') k = Leb.zbit (Leb.num true l') b
      · go_wp2_with (first | (go_at_call 149; refine (bit_any _ l' _ _ _ hv' HNE.out hlm (by omega)).mono ?_; rintro e w' ⟨rfl, rfl⟩))
        go_round
        case rel => exact ⟨k + 1, by omega, by omega, by go_num, good_next HG hgd⟩
        case measure => simp [intOf]; omega
      go_wp2_with (first | (go_at_call 149; refine (bit_any _ l' _ _ _ hv' HNE.out hlm (by omega)).mono ?_; rintro e w' ⟨rfl, rfl⟩))
      go_ret2
      exact ⟨fin3 (by rw [HT.out, if_neg (fun h => hgd (HFI.out.1 h k hk hlt))]; rfl), rfl⟩
    have hyes : Leb.fits sg (b + 1) (Leb.num sg l') = true := HFI.out.2 fun j h1 h2 => HG.out j h1 (by omega)
    have ht2 := HT.out
    rw [if_pos hyes] at ht2
    have HT2 := Lib.hid ht2
    clear ht2 hyes HG HFI HT HN HS
    generalize hZ : Leb.num sg l' = Z at *
    have HZ := Lib.hid hZ; clear hZ
    go_wp2
    go_loop [11, 12] (fun v i => ∃ (k : Nat) (y x : Int), k ≤ 64 ∧ y + 1 = k ∧ i = .int .i64 y ∧ v = .int .u64 x ∧ x = Z / 2 ^ k % 2 ^ (64 - k)) (fun _ i => (intOf i + 1).toNat)
    case atStart => exact ⟨64, 63, 0, by omega, by omega, rfl, rfl, by simp [Int.emod_one]⟩
    case round =>
      obtain ⟨k, y, x, hk, hy, rfl, rfl, hx⟩ := hrel
      cases k with
      | zero =>
        obtain rfl : y = -1 := by omega
        have HX := Lib.hid hx; clear hx
        go_wp2
        go_ret2
        exact ⟨fin3 (by rw [HT2.out, HX.out]; simp [rfT]), rfl⟩
      | succ j =>
        obtain rfl : y = (j : Int) := by omega
        have hb := bit_any _ l' j sg w hv' HNE.out hlm (by omega)
        have hn := Leb.horner Z j (63 - j)
        have h0 : 0 ≤ x := by rw [hx]; exact Int.emod_nonneg _ (by have := Int.pow_pos (n := 2) (m := 64 - (j + 1)) (by omega); omega)
        have h1 : x < 9223372036854775808 := by
          have a1 := Int.emod_lt_of_pos (Z / 2 ^ (j + 1)) (Int.pow_pos (n := 2) (m := 64 - (j + 1)) (by omega))
          have a2 := Leb.pow_le (show 64 - (j + 1) ≤ 63 by omega)
          rw [← hx] at a1
          have a3 : (2 : Int) ^ 63 = 9223372036854775808 := by decide
          omega
        rw [HZ.out] at hb
        rw [show 63 - j + 1 = 64 - j by omega, show 63 - j = 64 - (j + 1) by omega, ← hx] at hn
        have ht : Leb.zbit Z j = 0 ∨ Leb.zbit Z j = 1 := Leb.zbit_01 _ _
        generalize Leb.zbit Z j = t at *
        have ht0 : 0 ≤ t := by omega
        have ht1 : t ≤ 1 := by omega
        clear ht
        have HB := Lib.hid hb; clear hb
        have HX := Lib.hid hx; clear hx
        have HH := Lib.hid hn; clear hn hy
        go_wp2_with (first | (go_at_call 149; refine HB.out.mono ?_; rintro e w' ⟨rfl, rfl⟩))
        go_round
        case rel => exact ⟨j, (j : Int) - 1, 2 * x + t, by omega, by omega, rfl, by go_num, HH.out.symm⟩
        case measure => simp [intOf]
theorem Take_any (v : Value) (l : List UInt8) (z : Int) (sg : Bool) (w : World) (hv : IsBs w v l) :
    Calls Tryd.prog 125 #[v, .int .i64 z, .bool sg] w fun e w' => e = .returned (rfT (Leb.tk sg l z)) ∧ w = w' := by
  by_cases h : z < 1 ∨ 64 < z ∨ Leb.run l = 0 ∨ (z + 6) / 7 < Leb.run l
  · exact Take_no v l z sg w hv h
  obtain ⟨b, rfl⟩ : ∃ b : Nat, z = b + 1 := ⟨(z - 1).toNat, by omega⟩
  exact Take_yes v l b sg w hv (by omega) (by omega) (by omega)
end Go.Proofs.YtldmfchamcpmmaaDoor
namespace Go.Proofs.YtldmfchamcpmmaaDoor
open Go.RowKit
set_option linter.unusedVariables false
/-- the number z, as an unsigned one below p -/
def Uns (sg : Bool) (p x z : Int) : Prop := 0 ≤ x ∧ x < p ∧ z = if sg = true ∧ p ≤ 2 * x then x - p else x
theorem Uns.step {sg : Bool} {r x z : Int} (h : Uns sg (256 * r) x z) : Uns sg (2 * r) (x / 128) (z / 128) ∧ z % 128 = x % 128 := by
  obtain ⟨h0, h1, h2⟩ := h
  unfold Uns
  cases sg
  · simp at h2; subst h2; simp; omega
  simp only [true_and] at h2 ⊢
  split at h2
  · rw [if_pos (by omega)]; omega
  rw [if_neg (by omega)]; omega
theorem pow7 (k : Nat) (hk : k ≤ 8) : (2 : Int) ^ (64 - 7 * k) = 256 * 2 ^ (56 - 7 * k) ∧ (2 : Int) ^ (64 - 7 * (k + 1)) = 2 * 2 ^ (56 - 7 * k) := by
  constructor
  · rw [show 64 - 7 * k = (56 - 7 * k) + 8 by omega, Int.pow_add, Int.mul_comm]; rfl
  rw [show 64 - 7 * (k + 1) = (56 - 7 * k) + 1 by omega, Int.pow_add, Int.mul_comm]; rfl
/-- what has been laid of n bytes, and what is left -/
def Alls (sg : Bool) (n : Nat) (z : Int) (k : Nat) (x : Int) (l' : List UInt8) : Prop :=
  k ≤ n ∧ n ≤ 10 ∧ (k ≤ 9 → ∃ y, Uns sg (2 ^ (64 - 7 * k)) x y ∧ l' ++ Leb.digs (n - k) y = Leb.digs n z) ∧ (k = 10 → l' = Leb.digs n z) ∧ l'.length = k
theorem digs_more (m : Nat) (y : Int) (hm : m ≠ 0) : Leb.digs (m + 1) y = UInt8.ofNat ((y % 128).toNat + 128) :: Leb.digs m (y / 128) := by
  obtain ⟨j, rfl⟩ : ∃ j, m = j + 1 := ⟨m - 1, by omega⟩
  rfl
theorem Alls.done {sg : Bool} {n : Nat} {z : Int} {k : Nat} {x : Int} {l' : List UInt8} (h : Alls sg n z k x l') (hk : n = k) : l' = Leb.digs n z := by
  obtain ⟨h1, h2, h3, h4, h5⟩ := h
  subst hk
  by_cases e : n = 10
  · exact h4 e
  obtain ⟨y, _, hy⟩ := h3 (by omega)
  simpa [Leb.digs] using hy
theorem Alls.more {sg : Bool} {n : Nat} {z : Int} {k : Nat} {x : Int} {l' : List UInt8} (h : Alls sg n z k x l') (hk : k + 1 < n) :
    Alls sg n z (k + 1) (x / 128) (l' ++ [UInt8.ofNat ((x % 128).toNat + 128)]) := by
  obtain ⟨h1, h2, h3, h4, h5⟩ := h
  obtain ⟨y, hu, hy⟩ := h3 (by omega)
  obtain ⟨p1, p2⟩ := pow7 k (by omega)
  rw [p1] at hu
  obtain ⟨hu, hm⟩ := hu.step
  rw [show n - k = (n - (k + 1)) + 1 by omega, digs_more _ _ (by omega)] at hy
  refine ⟨by omega, h2, fun _ => ⟨y / 128, by rw [p2]; exact hu, ?_⟩, fun e => by omega, by simp; omega⟩
  rw [List.append_assoc, ← hm]; exact hy
theorem Alls.last {sg : Bool} {n : Nat} {z : Int} {k : Nat} {x : Int} {l' : List UInt8} (h : Alls sg n z k x l') (hk : k + 1 = n) (hk8 : k ≤ 8) :
    Alls sg n z (k + 1) (x / 128) (l' ++ [UInt8.ofNat (x % 128).toNat]) := by
  obtain ⟨h1, h2, h3, h4, h5⟩ := h
  obtain ⟨y, hu, hy⟩ := h3 (by omega)
  obtain ⟨p1, p2⟩ := pow7 k (by omega)
  rw [p1] at hu
  obtain ⟨hu, hm⟩ := hu.step
  rw [show n - k = 1 by omega] at hy
  refine ⟨by omega, h2, fun _ => ⟨y / 128, by rw [p2]; exact hu, ?_⟩, fun e => by omega, by simp; omega⟩
  rw [show n - (k + 1) = 0 by omega, ← hm]
  simpa [Leb.digs] using hy
theorem Alls.tenth {sg : Bool} {n : Nat} {z : Int} {x : Int} {l' : List UInt8} (h : Alls sg n z 9 x l') (hk : 10 = n) (c : Nat)
    (hc : c = if sg = true ∧ x % 128 = 1 then 127 else (x % 128).toNat) : Alls sg n z 10 (x / 128) (l' ++ [UInt8.ofNat c]) := by
  obtain ⟨h1, h2, h3, h4, h5⟩ := h
  obtain ⟨y, hu, hy⟩ := h3 (by omega)
  subst hk
  have hy' : l' ++ [UInt8.ofNat (y % 128).toNat] = Leb.digs 10 z := hy
  obtain ⟨a, b, d⟩ := hu
  have e : (2 : Int) ^ (64 - 7 * 9) = 2 := by decide
  rw [e] at b d
  have : (y % 128).toNat = c := by
    cases sg
    · simp at d hc; omega
    simp only [true_and] at d hc
    split at d <;> split at hc <;> omega
  rw [this] at hy'
  exact ⟨by omega, by omega, fun e => by omega, fun _ => hy', by simp; omega⟩
theorem Alls.tenth' {sg : Bool} {n : Nat} {z : Int} {k : Nat} {x : Int} {l' : List UInt8} (h : Alls sg n z k x l') (hk9 : k = 9) (hk : k < n) (c : Nat)
    (hc : c = if sg = true ∧ x % 128 = 1 then 127 else (x % 128).toNat) : Alls sg n z (k + 1) (x / 128) (l' ++ [UInt8.ofNat c]) := by
  subst hk9
  exact h.tenth (by have := h.2.1; omega) c hc
theorem Alls.room {sg : Bool} {n : Nat} {z : Int} {k : Nat} {x : Int} {l' : List UInt8} (h : Alls sg n z k x l') (hk : k < n) : 0 ≤ x ∧ x < 18446744073709551616 ∧ (k = 9 → x < 2) := by
  obtain ⟨h1, h2, h3, h4, h5⟩ := h
  obtain ⟨y, hu, hy⟩ := h3 (by omega)
  have := hu.2.1
  have hp := Leb.pow_le (show 64 - 7 * k ≤ 64 by omega)
  have e64 : (2 : Int) ^ 64 = 18446744073709551616 := by decide
  refine ⟨hu.1, by omega, fun e => ?_⟩
  subst e
  have e : (2 : Int) ^ (64 - 7 * 9) = 2 := by decide
  omega
theorem byte_lo (x : Int) (h : 0 ≤ x) : x % 128 = ((UInt8.ofNat (x % 128).toNat).toNat : Int) := by rw [Leb.toNat_lo]; omega
theorem byte_hi (x : Int) (h : 0 ≤ x) : x % 128 + 128 = ((UInt8.ofNat ((x % 128).toNat + 128)).toNat : Int) := by rw [Leb.toNat_hi]; omega
theorem all_any (x z : Int) (n : Nat) (sg : Bool) (w : World) (hu : Uns sg (2 ^ 64) x z) (hn : 1 ≤ n) (hn10 : n ≤ 10) :
    Calls Tryd.prog 124 #[.int .u64 x, .int .i64 n, .bool sg] w fun e w' => ∃ v', e = .returned v' ∧ Fresh w w' v' (Leb.digs n z) := by
  have hst : Alls sg n z 0 x [] := ⟨by omega, hn10, fun _ => ⟨z, hu, by simp⟩, fun e => by omega, rfl⟩
  have HS := Lib.hid hst; clear hst
  have HU := Lib.hid hu; clear hu
  go_enter Tryd.func124, Tryd.ntmps124
  go_wp2
  go_loopw [0, 7, 8] (fun x' v' i wr => ∃ (k : Nat) (y : Int) (l' : List UInt8), x' = .int .u64 y ∧ i = .int .i64 k ∧ wr.ownsRow w.heap.size 5 1 v' l'.length (l'.map B8) ∧ Alls sg n z k y l' ∧ Below w.heap.size w wr)
    (fun _ _ i _ => n - (intOf i).toNat)
  case atStart => exact ⟨0, x, [], rfl, rfl, ownNil w _, HS.out, Below.refl _ _⟩
  case round =>
    obtain ⟨k, y, l', rfl, rfl, hown, hal, hb⟩ := hrel
    have hkn : k ≤ n := hal.1
    have hll : l'.length ≤ 10 := by have := hal.2.2.2.2; omega
    have hsz := hb.size
    have HA := Lib.hid hal; clear hal
    by_cases hlt : k < n
    · obtain ⟨hy0, hyt, hy9⟩ := HA.out.room hlt
      have HY9 := Lib.hid hy9; clear hy9
      by_cases hk9 : k = 9
      · have hy2 := HY9.out hk9
        have hk9' : ((k : Int) == 9) = true := by simp; omega
        have hka : 9 ≤ k := by omega
        have hn2 : n ≤ 10 := hn10
        have HK := Lib.hid hk9; clear hk9
        by_cases hs : sg = true ∧ y % 128 = 1
        · obtain ⟨rfl, h1⟩ := hs
          have hte := HA.out.tenth' HK.out hlt 127 (by simp [h1])
          have h2 : (y % 128 == 1) = true := by simpa using h1
          have HT := Lib.hid hte; clear hte h1
          go_wp2_with (at_builtin; refine app1 rfl _ _ rfl w.heap.size _ _ l' rfl hown _ (UInt8.ofNat 127) (by decide) rfl (by omega) hsz ?_; intro v1 w1 hown1 hgrow1)
          go_roundw
          case rel => exact ⟨k + 1, _, _, rfl, by go_num, by simpa using hown1, HT.out, below_grown hb hgrow1 hown hsz⟩
          case measure => simp [intOf]; omega
        have ho := byte_lo y hy0
        have hte := HA.out.tenth' HK.out hlt (y % 128).toNat (by rw [if_neg hs])
        have HT := Lib.hid hte; clear hte
        have HO := Lib.hid ho; clear ho
        cases sg
        · clear hs
          go_wp2_with (at_builtin; refine app1 rfl _ _ rfl w.heap.size _ _ l' rfl hown _ (UInt8.ofNat (y % 128).toNat) HO.out rfl (by omega) hsz ?_; intro v1 w1 hown1 hgrow1)
          go_roundw
          case rel => exact ⟨k + 1, _, _, rfl, by go_num, by simpa using hown1, HT.out, below_grown hb hgrow1 hown hsz⟩
          case measure => simp [intOf]; omega
        have hs' : (y % 128 == 1) = false := by simpa using hs
        clear hs
        go_wp2_with (at_builtin; refine app1 rfl _ _ rfl w.heap.size _ _ l' rfl hown _ (UInt8.ofNat (y % 128).toNat) HO.out rfl (by omega) hsz ?_; intro v1 w1 hown1 hgrow1)
        go_roundw
        case rel => exact ⟨k + 1, _, _, rfl, by go_num, by simpa using hown1, HT.out, below_grown hb hgrow1 hown hsz⟩
        case measure => simp [intOf]; omega
      have hk9' : ((k : Int) == 9) = false := by simp; omega
      by_cases hl : k + 1 < n
      · have ho := byte_hi y hy0
        have HO := Lib.hid ho; clear ho
        go_wp2_with (at_builtin; refine app1 rfl _ _ rfl w.heap.size _ _ l' rfl hown _ (UInt8.ofNat ((y % 128).toNat + 128)) HO.out rfl (by omega) hsz ?_; intro v1 w1 hown1 hgrow1)
        go_roundw
        case rel => exact ⟨k + 1, _, _, rfl, by go_num, by simpa using hown1, HA.out.more hl, below_grown hb hgrow1 hown hsz⟩
        case measure => simp [intOf]; omega
      have ho := byte_lo y hy0
      have HO := Lib.hid ho; clear ho
      go_wp2_with (at_builtin; refine app1 rfl _ _ rfl w.heap.size _ _ l' rfl hown _ (UInt8.ofNat (y % 128).toNat) HO.out rfl (by omega) hsz ?_; intro v1 w1 hown1 hgrow1)
      go_roundw
      case rel => exact ⟨k + 1, _, _, rfl, by go_num, by simpa using hown1, HA.out.last (by omega) (by omega), below_grown hb hgrow1 hown hsz⟩
      case measure => simp [intOf]; omega
    go_wp2
    go_ret
    exact ⟨_, rfl, by rw [← HA.out.done (by omega)]; exact hown, hb⟩
theorem own_mono {w : World} {B B' e size n : Nat} {v : Value} {xs : List Value} (h : w.ownsRow B e size v n xs) (hB : B' ≤ B) : w.ownsRow B' e size v n xs := by
  obtain ⟨h1, h2⟩ := h
  refine ⟨h1, ?_⟩
  rcases h2 with h2 | ⟨g, cap, cur, hv, hg, r⟩
  · exact .inl h2
  exact .inr ⟨g, cap, cur, hv, Nat.le_trans hB hg, r⟩
theorem Fresh.later {W w w' : World} {v : Value} {l : List UInt8} (h : Fresh w w' v l) (hb : Below W.heap.size W w) : Fresh W w' v l :=
  ⟨own_mono h.1 hb.size, hb.trans (h.2.mono hb.size)⟩
/-- the number of k bytes of z, as 64 bits -/
def fewQ (sg : Bool) (k : Nat) (z : Int) : Int := Leb.num sg (Leb.digs k z) % 18446744073709551616
theorem tk_digs (sg : Bool) (k : Nat) (z : Int) (h1 : 1 ≤ k) (h2 : k ≤ 9) : Leb.tk sg (Leb.digs k z) 64 = some (Leb.num sg (Leb.digs k z), k) := by
  obtain ⟨j, rfl⟩ : ∃ j, k = j + 1 := ⟨k - 1, by omega⟩
  have hr := Leb.digs_run j z []
  rw [List.append_nil] at hr
  have hl := Leb.digs_length (j + 1) z
  have hf := Leb.num_fit sg (Leb.digs (j + 1) z)
  rw [hl] at hf
  have ht : (Leb.digs (j + 1) z).take (j + 1) = Leb.digs (j + 1) z := List.take_of_length_le (by omega)
  rw [tk_yes (by omega), hr, ht, if_pos]
  rw [Leb.fits_iff (by omega) (by decide) hf]
  intro a b c
  simp at b; omega
theorem fewQ_eq {sg : Bool} {k : Nat} {x z : Int} (h1 : 1 ≤ k) (h2 : k ≤ 9) (hu : Uns sg (2 ^ 64) x z) : fewQ sg k z = x ↔ Leb.fit7 sg k z := by
  obtain ⟨j, rfl⟩ : ∃ j, k = j + 1 := ⟨k - 1, by omega⟩
  have e64 : (2 : Int) ^ 64 = 18446744073709551616 := by decide
  obtain ⟨a, b, c⟩ := hu
  rw [e64] at b c
  have hz : z % 18446744073709551616 = x := by split at c <;> omega
  constructor
  · intro h
    have hf := Leb.num_fit sg (Leb.digs (j + 1) z)
    rw [Leb.digs_length] at hf
    unfold fewQ at h
    have hb : (128 : Int) ^ (j + 1) ≤ 9223372036854775808 := by
      have := Leb.pow9 h2
      have c1 := Leb.cast_pow (j + 1)
      omega
    have : Leb.num sg (Leb.digs (j + 1) z) = z := by
      unfold Leb.fit7 at hf
      cases sg
      · simp at hf c; omega
      simp at hf c; split at c <;> omega
    rw [this] at hf; exact hf
  intro h
  unfold fewQ
  rw [Leb.digs_num sg j z h, hz]
theorem Take_digs (v : Value) (k : Nat) (z : Int) (sg : Bool) (w : World) (hv : IsBs w v (Leb.digs k z)) (h1 : 1 ≤ k) (h2 : k ≤ 9) :
    Calls Tryd.prog 125 #[v, .int .i64 64, .bool sg] w fun e w' => e = .returned (.tuple #[.int .u64 (fewQ sg k z), .int .i64 k]) ∧ w = w' := by
  refine (Take_any v _ 64 sg w hv).mono ?_
  rw [tk_digs sg k z h1 h2]
  rintro e w' ⟨rfl, rfl⟩
  exact ⟨rfl, rfl⟩
theorem ap_first {sg : Bool} {k : Nat} {z : Int} (h1 : 1 ≤ k) (h10 : k ≤ 10) (hz : Leb.fit7 sg 10 z) (hno : ∀ j, 1 ≤ j → j < k → ¬ Leb.fit7 sg j z) (hk : k = 10 ∨ Leb.fit7 sg k z) : Leb.ap sg 10 z = Leb.digs k z := by
  rw [Leb.ap_digs sg 9 z hz]
  have hn := Leb.need_fit sg 9 z hz
  have hp := Leb.need_pos sg 9 z
  have hl := Leb.need_le sg 10 z
  have hm := fun h => Leb.need_min sg 10 k z (Leb.fit7_nonneg hz) h1 h
  generalize Leb.need sg (9 + 1) z = m at *
  have : m = k := by
    by_cases h : m < k
    · exact absurd hn (hno m hp h)
    by_cases h' : k < m
    · rcases hk with rfl | hk
      · omega
      exact absurd hk (hm h')
    omega
  rw [this]
theorem Uns.fit {sg : Bool} {x z : Int} (h : Uns sg (2 ^ 64) x z) : Leb.fit7 sg 10 z := by
  obtain ⟨a, b, c⟩ := h
  have e64 : (2 : Int) ^ 64 = 18446744073709551616 := by decide
  have e10 : (128 : Int) ^ 10 = 1180591620717411303424 := by decide
  unfold Leb.fit7
  rw [e64] at b c
  rw [e10]
  cases sg
  · simp at c ⊢; omega
  simp at c ⊢; split at c <;> omega
theorem Fewest_any (x z : Int) (sg : Bool) (w : World) (hu : Uns sg (2 ^ 64) x z) :
    Calls Tryd.prog 86 #[.int .u64 x, .bool sg] w fun e w' => ∃ v', e = .returned v' ∧ Fresh w w' v' (Leb.ap sg 10 z) := by
  have HU := Lib.hid hu; clear hu
  go_enter Tryd.func86, Tryd.ntmps86
  go_wp2
  go_loopw [5] (fun i wr => ∃ k : Nat, 1 ≤ k ∧ k ≤ 10 ∧ i = .int .i64 k ∧ (∀ j, 1 ≤ j → j < k → ¬ Leb.fit7 sg j z) ∧ Below w.heap.size w wr) (fun i _ => 10 - (intOf i).toNat)
  case atStart => exact ⟨1, by omega, by omega, rfl, by omega, Below.refl _ _⟩
  case round =>
    obtain ⟨k, hk1, hk10, rfl, hno, hb⟩ := hrel
    have HN := Lib.hid hno; clear hno
    have hsz := hb.size
    by_cases hlt : k < 10
    · by_cases hf : Leb.fit7 sg k z
      · have hq : (fewQ sg k z == x) = true := by rw [beq_iff_eq]; exact (fewQ_eq hk1 (by omega) HU.out).2 hf
        have HF := Lib.hid hf; clear hf
        go_wp2_with (first | (go_at_call 124; refine (all_any x z k sg _ HU.out hk1 (by omega)).mono ?_; rintro e w1 ⟨v1, rfl, hfr⟩) | (go_at_call 125; refine (Take_digs _ k z sg _ hfr.is hk1 (by omega)).mono ?_; rintro e w' ⟨rfl, rfl⟩))
        go_ret
        exact ⟨_, rfl, by rw [ap_first hk1 hk10 HU.out.fit HN.out (.inr HF.out)]; exact hfr.later hb⟩
      have hq : (fewQ sg k z == x) = false := by rw [beq_eq_false_iff_ne]; exact fun h => hf ((fewQ_eq hk1 (by omega) HU.out).1 h)
      have HF := Lib.hid hf; clear hf
      go_wp2_with (first | (go_at_call 124; refine (all_any x z k sg _ HU.out hk1 (by omega)).mono ?_; rintro e w1 ⟨v1, rfl, hfr⟩) | (go_at_call 125; refine (Take_digs _ k z sg _ hfr.is hk1 (by omega)).mono ?_; rintro e w' ⟨rfl, rfl⟩))
      go_roundw
      case rel =>
        refine ⟨k + 1, by omega, by omega, by go_num, ?_, hb.trans (hfr.2.mono hsz)⟩
        intro j h1 h2
        by_cases e : j = k
        · subst e; exact HF.out
        exact HN.out j h1 (by omega)
      case measure => simp [intOf]; omega
    go_wp2_with (first | (go_at_call 124; refine (all_any x z 10 sg _ HU.out (by omega) (by omega)).mono ?_; rintro e w1 ⟨v1, rfl, hfr⟩))
    go_ret
    obtain rfl : k = 10 := by omega
    exact ⟨_, rfl, by rw [ap_first hk1 hk10 HU.out.fit HN.out (.inl rfl)]; exact hfr.later hb⟩
end Go.Proofs.YtldmfchamcpmmaaDoor
namespace Go.Proofs.YtldmfchamcpmmaaDoor
open Go.RowKit
end Go.Proofs.YtldmfchamcpmmaaDoor
namespace Go.Proofs.YtldmfchamcpmmaaDoor
open Go.RowKit
set_option linter.unusedVariables false
end Go.Proofs.YtldmfchamcpmmaaDoor
namespace Go.Proofs.YtldmfchamcpmmaaDoor.Leb
theorem ap_length {sg : Bool} {z : Int} (h : fit7 sg 10 z) : (ap sg 10 z).length = need sg 10 z := by rw [ap_digs sg 9 z h, digs_length]
end Go.Proofs.YtldmfchamcpmmaaDoor.Leb
namespace Go.Proofs.YtldmfchamcpmmaaDoor.Leb
theorem tk_ap {sg : Bool} {z : Int} (h : fit7 sg 10 z) (r : List UInt8) {b : Nat} (h1 : 1 ≤ b) (h2 : b ≤ 64) :
    tk sg (ap sg 10 z ++ r) b = if fits sg b z then some (z, (ap sg 10 z).length) else none := by
  have hf : fit7 sg (need sg 10 z) z := need_fit sg 9 z h
  have hp : 1 ≤ need sg 10 z := need_pos sg 9 z
  have hm := fun n h1 h2 => need_min sg 10 n z (fit7_nonneg h) h1 h2
  have hd' : ap sg 10 z = digs (need sg 10 z) z := ap_digs sg 9 z h
  rw [hd']
  generalize hL : need sg 10 z = L at *
  obtain ⟨j, rfl⟩ : ∃ j, L = j + 1 := ⟨L - 1, by omega⟩
  have hr := digs_run j z r
  have hlen := digs_length (j + 1) z
  have hn : num sg ((digs (j + 1) z ++ r).take (j + 1)) = z := by
    rw [List.take_left' hlen, digs_num sg j z hf]
  unfold tk
  rw [hr, hlen]
  by_cases hlong : ((b : Int) + 6) / 7 < ((j + 1 : Nat) : Int)
  · rw [if_pos (by omega)]
    have : fits sg b z = false := by
      rw [Bool.eq_false_iff]
      intro hfit
      refine hm j (by omega) (by omega) ?_
      have hpw := pow_le (show b ≤ 7 * j by omega)
      unfold fits at hfit
      unfold fit7
      rw [pow128]
      have hnn := fit7_nonneg h
      cases sg
      · simp at hfit hnn ⊢; omega
      simp at hfit ⊢; omega
    rw [this]; rfl
  rw [if_neg (by omega), hn]
  simp
theorem ap_le {sg : Bool} {z : Int} (h : fit7 sg 10 z) : (ap sg 10 z).length ≤ 10 := by rw [ap_length h]; exact need_le _ _ _
theorem ap_pos {sg : Bool} {z : Int} (h : fit7 sg 10 z) : 1 ≤ (ap sg 10 z).length := by rw [ap_length h]; exact need_pos sg 9 z
end Go.Proofs.YtldmfchamcpmmaaDoor.Leb
namespace Go.Proofs.YtldmfchamcpmmaaDoor
open Go Go.RowKit
set_option linter.unusedVariables false
set_option linter.unusedSimpArgs false
theorem isBs {w : World} {v : Value} {l : List Int} (h : Sl 1 (EInt .u8) w.heap v l) : IsBs w v (l.map Lib.byteOf) := by
  obtain ⟨a, cap, rfl, k1, k2, k3, k4, k5⟩ := id h
  refine ⟨a, cap, by rw [List.length_map], by rw [List.length_map]; exact k1, k2, k3, fun j c hj => ?_⟩
  rw [List.getElem?_map, Option.map_eq_some_iff] at hj
  obtain ⟨x, hx, rfl⟩ := hj
  have hlt := (List.getElem?_eq_some_iff.1 hx).1
  cases a with
  | none => have := k3 rfl; omega
  | some p =>
    obtain ⟨b, o, sp⟩ := p
    have hsp : sp = none := k4 (by omega) _ rfl
    subst hsp
    obtain ⟨h1, h2⟩ := h.int j hlt
    have e : l.getD j default = x := by rw [List.getD_eq_getElem?_getD, hx]; rfl
    rw [e] at h1 h2
    refine ⟨b, o, rfl, ?_⟩
    rw [cell_w rfl, Lib.byteOf_toNat h2]
    have ea : (vbase (.slice (some ⟨b, o, none⟩) l.length cap)).add j = ⟨b, o + j, none⟩ := by
      show (Addr.mk b o none).add j = _
      unfold Addr.add; split <;> simp_all
    rw [ea] at h1; exact h1
theorem Ct.same {P : Program} {f : FuncId} {args : List Value} {H : Heap} {v : Value} (h : ∀ w : World, w.heap = H → Calls P f args.toArray w fun e w' => e = .returned v ∧ w = w') : Ct P f args H (fun u H' => u = v ∧ H = H') :=
  fun w hw => (h w hw).mono fun _ _ ⟨he, hw'⟩ => by
    subst hw'
    exact ⟨_, he, St.refl w, rfl, hw.symm⟩
/-- bytes as numbers -/
def uints (l : List UInt8) : List Int := l.map fun b => (b.toNat : Int)
theorem uints_range {l : List UInt8} : ∀ x ∈ uints l, InR .u8 x := by
  intro x hx
  simp only [uints, List.mem_map] at hx
  obtain ⟨b, _, rfl⟩ := hx
  have := UInt8.toNat_lt b
  dsimp only [InR]; omega
theorem uints_length (l : List UInt8) : (uints l).length = l.length := by simp [uints]
theorem byteOf_uints (l : List UInt8) : (uints l).map Lib.byteOf = l := by
  unfold uints; rw [List.map_map]
  conv => rhs; rw [← List.map_id l]
  apply List.map_congr_left
  intro b _
  simp [Lib.byteOf, Nat.toUInt8]
theorem own_fresh {w w' : World} {v : Value} {l : List UInt8} {m : List Int} (h : Fresh w w' v l) (e : uints l = m) : Own 1 (EInt .u8) 5 #[] w.heap.size w'.heap v m ∧ Old w.heap w'.heap := by
  subst e
  refine ⟨⟨l.map B8, ?_, ?_⟩, h.2.size, h.2.block⟩
  · rw [uints_length]; exact h.1
  intro j x hj
  have hr := uints_range x (List.mem_of_getElem? (by rw [← nth_eq]; exact hj))
  rw [nth_eq] at hj
  refine ⟨?_, hr⟩
  unfold uints at hj
  rw [List.getElem?_map, Option.map_eq_some_iff] at hj
  obtain ⟨b, hb, rfl⟩ := hj
  have hlt := (List.getElem?_eq_some_iff.1 hb).1
  rw [Nat.mul_one, ← List.map_drop, List.drop_eq_getElem_cons hlt]
  have : l[j] = b := (List.getElem?_eq_some_iff.1 hb).2
  simp [this, B8]
theorem Ct.fresh {P : Program} {f : FuncId} {args : List Value} {H : Heap} {l : List UInt8} {m : List Int} (e : uints l = m) (h : ∀ w : World, w.heap = H → Calls P f args.toArray w fun e w' => ∃ v', e = .returned v' ∧ Fresh w w' v' l) :
    Ct P f args H (fun u H' => Own 1 (EInt .u8) 5 #[] H.size H' u m ∧ Old H H') :=
  fun w hw => (h w hw).mono fun _ w' ⟨v', he, hf⟩ => by
    have := own_fresh hf e
    subst hw
    exact ⟨v', he, ⟨rfl, hf.2.os, hf.2.tape, hf.2.output⟩, this⟩
namespace Lb
/-- the number with which bytes begin, of so many bits, and how many bytes it has -/
def tk (l : List Int) (z : Int) : Option (Int × Nat) := Leb.tk false (l.map Lib.byteOf) z
/-- the bytes of a number -/
def ap (z : Int) : List Int := uints (Leb.ap false 10 z)
theorem fit10 {z : Int} (h0 : 0 ≤ z) (h1 : z < 18446744073709551616) : Leb.fit7 false 10 z := by
  unfold Leb.fit7
  rw [if_neg (by decide)]
  exact ⟨h0, by rw [show (128 : Int) ^ 10 = 1180591620717411303424 by decide]; omega⟩
theorem ap_length {z : Int} (h0 : 0 ≤ z) (h1 : z < 18446744073709551616) : 1 ≤ (ap z).length ∧ (ap z).length ≤ 10 := by
  unfold ap; rw [uints_length]
  exact ⟨Leb.ap_pos (fit10 h0 h1), Leb.ap_le (fit10 h0 h1)⟩
/-- what was appended is taken, whatever stands behind -/
theorem tk_ap {n : Int} (h0 : 0 ≤ n) (h1 : n < 4294967296) (r : List Int) : tk (ap n ++ r) 32 = some (n, (ap n).length) := by
  unfold tk ap
  rw [List.map_append, byteOf_uints, uints_length]
  have := Leb.tk_ap (sg := false) (z := n) (fit10 h0 (by omega)) (r.map Lib.byteOf) (b := 32) (by omega) (by omega)
  rw [show ((32 : Nat) : Int) = 32 from rfl] at this
  rw [this, if_pos]
  simp only [Leb.fits]
  simp
  exact h1
end Lb
theorem AppendU_k {H : Heap} (v : Value) (l : List Int) (z : Int) (hs : Sl 1 (EInt .u8) H v l) (hl : l.length ≤ 1000000) (h0 : 0 ≤ z) (h1 : z < 18446744073709551616) :
    Ct Tryd.prog 39 [v, .int .u64 z] H (fun u H' => Own 1 (EInt .u8) 5 #[] H.size H' u (l ++ Lb.ap z) ∧ Old H H') :=
  Ct.fresh (by unfold Lb.ap uints; rw [List.map_append]; exact congrArg (· ++ _) (bytes_back hs.int_range)) fun w hw => AppendU_any v (l.map Lib.byteOf) z w (isBs (by rw [hw]; exact hs)) (by rw [List.length_map]; exact hl) h0 h1
theorem Fewest_k {H : Heap} (z : Int) (h0 : 0 ≤ z) (h1 : z < 18446744073709551616) :
    Ct Tryd.prog 86 [.int .u64 z, .bool false] H (fun u H' => Own 1 (EInt .u8) 5 #[] H.size H' u (Lb.ap z) ∧ Old H H') :=
  Ct.fresh rfl fun w hw => Fewest_any z z false w ⟨h0, by rw [show (2 : Int) ^ 64 = 18446744073709551616 by decide]; exact h1, by simp⟩
end Go.Proofs.YtldmfchamcpmmaaDoor
namespace Go.Proofs.YtldmfchamcpmmaaDoor
open Go Go.RowKit
set_option linter.unusedVariables false
set_option linter.unusedSimpArgs false
namespace Utf
/-- the library's tables -/
def ft (c : Int) : Nat := Lib.firstT c.toNat
def sz (c : Int) : Nat := if c < 128 then 1 else if ft c % 8 = 1 then 0 else ft c % 8
def lo (c : Int) : Int := (Lib.accLo (ft c / 16) : Nat)
def hi (c : Int) : Int := (Lib.accHi (ft c / 16) : Nat)
/-- of how many bytes is the character with which l begins; 0: it begins with none -/
def chr (l : List Int) : Nat :=
  if sz (l.getD 0 default) ≤ 1 then sz (l.getD 0 default)
  else if l.length < sz (l.getD 0 default) ∨ l.getD 1 default < lo (l.getD 0 default) ∨ hi (l.getD 0 default) < l.getD 1 default ∨ (3 ≤ sz (l.getD 0 default) ∧ (l.getD 2 default < 128 ∨ 191 < l.getD 2 default)) ∨ (4 ≤ sz (l.getD 0 default) ∧ (l.getD 3 default < 128 ∨ 191 < l.getD 3 default)) then 0
  else sz (l.getD 0 default)
theorem chr_le {l : List Int} (h : 0 < l.length) : chr l ≤ l.length := by
  unfold chr; split
  · omega
  split
  · omega
  omega
def vf : Nat → List Int → Bool
  | 0, _ => true
  | n + 1, l => if l.length = 0 then true else if chr l = 0 then false else vf n (l.drop (chr l))
/-- are bytes a text? -/
def valid (l : List Int) : Bool := vf l.length l
theorem vf_eq : ∀ (n m : Nat) (l : List Int), l.length ≤ n → l.length ≤ m → vf n l = vf m l := by
  intro n
  induction n with
  | zero =>
    intro m l h1 h2
    have e : l.length = 0 := by omega
    cases m with
    | zero => rfl
    | succ m => simp only [vf]; rw [if_pos e]
  | succ n ih =>
    intro m l h1 h2
    cases m with
    | zero => have e : l.length = 0 := by omega
              simp only [vf]; rw [if_pos e]
    | succ m =>
      simp only [vf]
      split
      · rfl
      split
      · rfl
      have := chr_le (l := l) (by omega)
      exact ih m _ (by rw [List.length_drop]; omega) (by rw [List.length_drop]; omega)
theorem valid_nil {l : List Int} (h : l.length = 0) : valid l = true := by unfold valid; rw [h]; rfl
theorem valid_bad {l : List Int} (h : 0 < l.length) (hc : chr l = 0) : valid l = false := by
  obtain ⟨n, hn⟩ : ∃ n, l.length = n + 1 := ⟨l.length - 1, by omega⟩
  unfold valid; rw [hn]; simp only [vf]; rw [if_neg (by omega), if_pos hc]
theorem valid_ok {l : List Int} {k : Nat} (h : 0 < l.length) (hc : chr l = k) (hk : 0 < k) : valid (l.drop k) = valid l := by
  obtain ⟨n, hn⟩ : ∃ n, l.length = n + 1 := ⟨l.length - 1, by omega⟩
  have e : valid l = vf n (l.drop (chr l)) := by
    unfold valid; rw [hn]; simp only [vf]; rw [if_neg (by omega), if_neg (by omega)]
  have hle := chr_le h
  rw [e, ← hc]
  unfold valid
  exact vf_eq _ _ _ (by omega) (by rw [List.length_drop]; omega)
theorem ok1 {l : List Int} (h : 0 < l.length) (hs : l.getD 0 default < 128) : valid (l.drop 1) = valid l := by
  refine valid_ok h ?_ (by omega)
  have e : sz (l.getD 0 default) = 1 := by unfold sz; rw [if_pos hs]
  unfold chr; rw [e]; rfl
theorem getD_drop (l : List Int) (i j : Nat) : (l.drop i).getD j default = l.getD (i + j) default := by
  rw [List.getD_eq_getElem?_getD, List.getElem?_drop, ← List.getD_eq_getElem?_getD]
theorem okAsc {l : List Int} : ∀ {k : Nat}, k ≤ l.length → (∀ j, j < k → l.getD j default < 128) → valid (l.drop k) = valid l := by
  intro k
  induction k with
  | zero => intro _ _; rfl
  | succ k ih =>
    intro h1 h2
    rw [← ih (by omega) (fun j hj => h2 j (by omega)), show l.drop (k + 1) = (l.drop k).drop 1 by rw [List.drop_drop]]
    exact ok1 (by rw [List.length_drop]; omega) (by rw [getD_drop]; exact h2 k (by omega))
section
variable {l : List Int} (h : 0 < l.length) (hc : ¬ l.getD 0 default < 128)
include h hc
omit h in
theorem sz_of {k : Nat} (hk : 2 ≤ k) (hs : ft (l.getD 0 default) % 8 = k) : sz (l.getD 0 default) = k := by
  unfold sz; rw [if_neg hc, hs, if_neg (by omega)]
theorem bad1 (hs : ft (l.getD 0 default) % 8 = 1) : valid l = false := by
  refine valid_bad h ?_
  have e : sz (l.getD 0 default) = 0 := by unfold sz; rw [if_neg hc, if_pos hs]
  unfold chr; rw [e]; rfl
theorem bad2 (hs : ft (l.getD 0 default) % 8 = 2) (hb : l.length < 2 ∨ l.getD 1 default < lo (l.getD 0 default) ∨ hi (l.getD 0 default) < l.getD 1 default) : valid l = false := by
  refine valid_bad h ?_
  unfold chr; rw [sz_of hc (by omega) hs, if_neg (by omega), if_pos (by omega)]
theorem good2 (hs : ft (l.getD 0 default) % 8 = 2) (hb : ¬ (l.length < 2 ∨ l.getD 1 default < lo (l.getD 0 default) ∨ hi (l.getD 0 default) < l.getD 1 default)) : valid (l.drop 2) = valid l := by
  refine valid_ok h ?_ (by omega)
  unfold chr; rw [sz_of hc (by omega) hs, if_neg (by omega), if_neg (by omega)]
theorem bad3 (hs : ft (l.getD 0 default) % 8 = 3) (hb : l.length < 3 ∨ l.getD 1 default < lo (l.getD 0 default) ∨ hi (l.getD 0 default) < l.getD 1 default ∨ l.getD 2 default < 128 ∨ 191 < l.getD 2 default) : valid l = false := by
  refine valid_bad h ?_
  unfold chr; rw [sz_of hc (by omega) hs, if_neg (by omega), if_pos (by omega)]
theorem good3 (hs : ft (l.getD 0 default) % 8 = 3) (hb : ¬ (l.length < 3 ∨ l.getD 1 default < lo (l.getD 0 default) ∨ hi (l.getD 0 default) < l.getD 1 default ∨ l.getD 2 default < 128 ∨ 191 < l.getD 2 default)) : valid (l.drop 3) = valid l := by
  refine valid_ok h ?_ (by omega)
  unfold chr; rw [sz_of hc (by omega) hs, if_neg (by omega), if_neg (by omega)]
theorem bad4 (hs : ft (l.getD 0 default) % 8 = 4) (hb : l.length < 4 ∨ l.getD 1 default < lo (l.getD 0 default) ∨ hi (l.getD 0 default) < l.getD 1 default ∨ l.getD 2 default < 128 ∨ 191 < l.getD 2 default ∨ l.getD 3 default < 128 ∨ 191 < l.getD 3 default) : valid l = false := by
  refine valid_bad h ?_
  unfold chr; rw [sz_of hc (by omega) hs, if_neg (by omega), if_pos (by omega)]
theorem good4 (hs : ft (l.getD 0 default) % 8 = 4) (hb : ¬ (l.length < 4 ∨ l.getD 1 default < lo (l.getD 0 default) ∨ hi (l.getD 0 default) < l.getD 1 default ∨ l.getD 2 default < 128 ∨ 191 < l.getD 2 default ∨ l.getD 3 default < 128 ∨ 191 < l.getD 3 default)) : valid (l.drop 4) = valid l := by
  refine valid_ok h ?_ (by omega)
  unfold chr; rw [sz_of hc (by omega) hs, if_neg (by omega), if_neg (by omega)]
end
theorem ft_cases : ∀ c : Fin 256, 128 ≤ c.1 → (Lib.firstT c.1 % 8 = 1 ∨ Lib.firstT c.1 % 8 = 2 ∨ Lib.firstT c.1 % 8 = 3 ∨ Lib.firstT c.1 % 8 = 4) ∧ Lib.firstT c.1 / 16 < 16 := by decide +kernel
theorem ft_lt : ∀ c : Fin 256, Lib.firstT c.1 < 256 := by decide +kernel
theorem and7 : ∀ c : Fin 256, bits .and .u8 (c.1 : Int) 7 = ((c.1 % 8 : Nat) : Int) := by decide +kernel
theorem ftc {c : Int} (r : InR .u8 c) : ft c < 256 ∧ bits .and .u8 (ft c : Int) 7 = ((ft c % 8 : Nat) : Int) := by
  dsimp only [InR] at r
  have h := ft_lt ⟨c.toNat, by omega⟩
  exact ⟨h, and7 ⟨_, h⟩⟩
theorem ftk {c : Int} (r : InR .u8 c) (h : ¬ c < 128) : (ft c % 8 = 1 ∨ ft c % 8 = 2 ∨ ft c % 8 = 3 ∨ ft c % 8 = 4) ∧ ft c / 16 < 16 := by
  dsimp only [InR] at r
  exact ft_cases ⟨c.toNat, by omega⟩ (by show 128 ≤ c.toNat; omega)
theorem shr4 (n : Nat) : ((n : Int) / 2 ^ (min (4 : Int).toNat IntKind.u8.bits)) = ((n / 16 : Nat) : Int) := by
  rw [show (2 : Int) ^ (min (4 : Int).toNat IntKind.u8.bits) = 16 by decide +kernel]; omega
def wd8 (l : List Int) : Int := Lib.leZ ((List.range 8).map fun i => l.getD i default)
theorem wd8_eq (l : List Int) : wd8 l = l.getD 0 default + 256 * (l.getD 1 default + 256 * (l.getD 2 default + 256 * (l.getD 3 default + 256 * (l.getD 4 default + 256 * (l.getD 5 default + 256 * (l.getD 6 default + 256 * l.getD 7 default)))))) := by
  show Lib.leZ [_, _, _, _, _, _, _, _] = _
  simp only [Lib.leZ]; omega
theorem hi8 {l : List Int} (hr : ∀ i, i < 8 → InR .u8 (l.getD i default)) : ∃ n : Nat, wd8 l = (n : Int) ∧ n < 2 ^ 64 ∧ (n &&& 9259542123273814144 = 0 → ∀ i, i < 8 → l.getD i default < 128) := by
  have hm : ∀ z ∈ (List.range 8).map (fun i => l.getD i default), 0 ≤ z ∧ z ≤ 255 := by
    intro z hz
    simp only [List.mem_map, List.mem_range] at hz
    obtain ⟨i, hi, rfl⟩ := hz
    exact hr i hi
  refine ⟨_, (Lib.leNat_byteOf _ hm).symm, ?_, ?_⟩
  · have := Lib.leNat_lt (((List.range 8).map fun i => l.getD i default).map Lib.byteOf)
    simpa using this
  intro h i hi
  have h2 := (Lib.leNat_mask (((List.range 8).map fun i => l.getD i default).map Lib.byteOf)).1 (by
    rw [show (((List.range 8).map fun i => l.getD i default).map Lib.byteOf).length = 8 by simp, Lib.maskN8]; exact h)
  have h3 := h2 (Lib.byteOf (l.getD i default)) (by simp only [List.mem_map, List.mem_range]; exact ⟨_, ⟨i, hi, rfl⟩, rfl⟩)
  have h4 := Lib.byteOf_toNat (hr i hi)
  omega
theorem word_or {b0 b1 b2 b3 b4 b5 b6 b7 : Int} (h0 : InR .u8 b0) (h1 : InR .u8 b1) (h2 : InR .u8 b2) (h3 : InR .u8 b3) (h4 : InR .u8 b4) (h5 : InR .u8 b5) (h6 : InR .u8 b6) (h7 : InR .u8 b7) :
    bits .or .u64 (bits .or .u64 (bits .or .u64 (bits .or .u64 (bits .or .u64 (bits .or .u64 (bits .or .u64 b0 (IntKind.u64.wrap (b1 * 2 ^ (min (8 : Int).toNat IntKind.u64.bits)))) (IntKind.u64.wrap (b2 * 2 ^ (min (16 : Int).toNat IntKind.u64.bits))))
      (IntKind.u64.wrap (b3 * 2 ^ (min (24 : Int).toNat IntKind.u64.bits)))) (IntKind.u64.wrap (b4 * 2 ^ (min (32 : Int).toNat IntKind.u64.bits)))) (IntKind.u64.wrap (b5 * 2 ^ (min (40 : Int).toNat IntKind.u64.bits)))) (IntKind.u64.wrap (b6 * 2 ^ (min (48 : Int).toNat IntKind.u64.bits))))
      (IntKind.u64.wrap (b7 * 2 ^ (min (56 : Int).toNat IntKind.u64.bits))) = b0 + 256 * (b1 + 256 * (b2 + 256 * (b3 + 256 * (b4 + 256 * (b5 + 256 * (b6 + 256 * b7)))))) := by
  dsimp only [InR] at h0 h1 h2 h3 h4 h5 h6 h7
  rw [show (2 : Int) ^ (min (8 : Int).toNat IntKind.u64.bits) = 256 by decide +kernel, show (2 : Int) ^ (min (16 : Int).toNat IntKind.u64.bits) = 65536 by decide +kernel, show (2 : Int) ^ (min (24 : Int).toNat IntKind.u64.bits) = 16777216 by decide +kernel,
    show (2 : Int) ^ (min (32 : Int).toNat IntKind.u64.bits) = 4294967296 by decide +kernel, show (2 : Int) ^ (min (40 : Int).toNat IntKind.u64.bits) = 1099511627776 by decide +kernel, show (2 : Int) ^ (min (48 : Int).toNat IntKind.u64.bits) = 281474976710656 by decide +kernel, show (2 : Int) ^ (min (56 : Int).toNat IntKind.u64.bits) = 72057594037927936 by decide +kernel]
  rw [u64_wrap_id (x := b1 * 256) (by omega) (by omega), u64_wrap_id (x := b2 * 65536) (by omega) (by omega), u64_wrap_id (x := b3 * 16777216) (by omega) (by omega), u64_wrap_id (x := b4 * 4294967296) (by omega) (by omega),
    u64_wrap_id (x := b5 * 1099511627776) (by omega) (by omega), u64_wrap_id (x := b6 * 281474976710656) (by omega) (by omega), u64_wrap_id (x := b7 * 72057594037927936) (by omega) (by omega)]
  rw [u64_or8 (y := b0) (x := b1 * 256) (by omega) (by omega) (by omega) (by omega) (by omega)]
  rw [u64_or16 (y := b0 + b1 * 256) (x := b2 * 65536) (by omega) (by omega) (by omega) (by omega) (by omega)]
  rw [u64_or24 (y := b0 + b1 * 256 + b2 * 65536) (x := b3 * 16777216) (by omega) (by omega) (by omega) (by omega) (by omega)]
  rw [u64_or32 (y := b0 + b1 * 256 + b2 * 65536 + b3 * 16777216) (x := b4 * 4294967296) (by omega) (by omega) (by omega) (by omega) (by omega)]
  rw [u64_or40 (y := b0 + b1 * 256 + b2 * 65536 + b3 * 16777216 + b4 * 4294967296) (x := b5 * 1099511627776) (by omega) (by omega) (by omega) (by omega) (by omega)]
  rw [u64_or48 (y := b0 + b1 * 256 + b2 * 65536 + b3 * 16777216 + b4 * 4294967296 + b5 * 1099511627776) (x := b6 * 281474976710656) (by omega) (by omega) (by omega) (by omega) (by omega)]
  rw [u64_or56 (y := b0 + b1 * 256 + b2 * 65536 + b3 * 16777216 + b4 * 4294967296 + b5 * 1099511627776 + b6 * 281474976710656) (x := b7 * 72057594037927936) (by omega) (by omega) (by omega) (by omega) (by omega)]
  omega
theorem and64 {a b : Nat} (ha : a < 2 ^ 64) (hb : b < 2 ^ 64) : bits .and .u64 (a : Int) (b : Int) = ((a &&& b : Nat) : Int) := by
  unfold bits
  have e : (BitVec.ofInt IntKind.u64.bits (a : Int) &&& BitVec.ofInt IntKind.u64.bits (b : Int)).toNat = a &&& b := by
    rw [BitVec.toNat_and, BitVec.ofInt_natCast, BitVec.ofInt_natCast, BitVec.toNat_ofNat, BitVec.toNat_ofNat]
    rw [Nat.mod_eq_of_lt (show a < 2 ^ IntKind.u64.bits from ha), Nat.mod_eq_of_lt (show b < 2 ^ IntKind.u64.bits from hb)]
  simp only []
  have hlt : a &&& b < 2 ^ 64 := Nat.lt_of_le_of_lt Nat.and_le_left ha
  rw [show (BitVec.ofInt IntKind.u64.bits (a : Int) &&& BitVec.ofInt IntKind.u64.bits (b : Int)).toNat = a &&& b from e]
  rw [IntKind.wrap_u64]
  have : (2 : Nat) ^ 64 = 18446744073709551616 := by decide
  omega
theorem or64 {a b : Nat} (ha : a < 2 ^ 64) (hb : b < 2 ^ 64) : bits .or .u64 (a : Int) (b : Int) = ((a ||| b : Nat) : Int) ∧ a ||| b < 2 ^ 64 := by
  have hlt : a ||| b < 2 ^ 64 := Nat.or_lt_two_pow ha hb
  refine ⟨?_, hlt⟩
  unfold bits
  have e : (BitVec.ofInt IntKind.u64.bits (a : Int) ||| BitVec.ofInt IntKind.u64.bits (b : Int)).toNat = a ||| b := by
    rw [BitVec.toNat_or, BitVec.ofInt_natCast, BitVec.ofInt_natCast, BitVec.toNat_ofNat, BitVec.toNat_ofNat]
    rw [Nat.mod_eq_of_lt (show a < 2 ^ IntKind.u64.bits from ha), Nat.mod_eq_of_lt (show b < 2 ^ IntKind.u64.bits from hb)]
  simp only []
  rw [show (BitVec.ofInt IntKind.u64.bits (a : Int) ||| BitVec.ofInt IntKind.u64.bits (b : Int)).toNat = a ||| b from e]
  rw [IntKind.wrap_u64]
  have : (2 : Nat) ^ 64 = 18446744073709551616 := by decide
  omega
theorem mk64 : (9259542123273814144 : Nat) < 2 ^ 64 := by decide
theorem asc1 {l : List Int} (hr : ∀ i, i < 8 → InR .u8 (l.getD i default)) (h : bits .and .u64 (wd8 l) 9259542123273814144 = 0) : ∀ i, i < 8 → l.getD i default < 128 := by
  obtain ⟨n, e, hn, k⟩ := hi8 hr
  rw [e, show (9259542123273814144 : Int) = ((9259542123273814144 : Nat) : Int) from rfl, and64 hn mk64] at h
  exact k (by omega)
theorem asc2 {l m : List Int} (hl : ∀ i, i < 8 → InR .u8 (l.getD i default)) (hm : ∀ i, i < 8 → InR .u8 (m.getD i default)) (h : bits .and .u64 (bits .or .u64 (wd8 l) (wd8 m)) 9259542123273814144 = 0) :
    (∀ i, i < 8 → l.getD i default < 128) ∧ (∀ i, i < 8 → m.getD i default < 128) := by
  obtain ⟨n, e, hn, k⟩ := hi8 hl
  obtain ⟨n', e', hn', k'⟩ := hi8 hm
  obtain ⟨o1, o2⟩ := or64 hn hn'
  rw [e, e', o1, show (9259542123273814144 : Int) = ((9259542123273814144 : Nat) : Int) from rfl, and64 o2 mk64] at h
  have h2 := (Lib.or_mask n n' 9259542123273814144).1 (by omega)
  exact ⟨k h2.1, k' h2.2⟩
theorem asc4 {l m p q : List Int} (hl : ∀ i, i < 8 → InR .u8 (l.getD i default)) (hm : ∀ i, i < 8 → InR .u8 (m.getD i default)) (hp : ∀ i, i < 8 → InR .u8 (p.getD i default)) (hq : ∀ i, i < 8 → InR .u8 (q.getD i default))
    (h : bits .and .u64 (bits .or .u64 (bits .or .u64 (wd8 l) (wd8 m)) (bits .or .u64 (wd8 p) (wd8 q))) 9259542123273814144 = 0) :
    ((∀ i, i < 8 → l.getD i default < 128) ∧ (∀ i, i < 8 → m.getD i default < 128)) ∧ ((∀ i, i < 8 → p.getD i default < 128) ∧ (∀ i, i < 8 → q.getD i default < 128)) := by
  obtain ⟨n1, e1, g1, k1⟩ := hi8 hl
  obtain ⟨n2, e2, g2, k2⟩ := hi8 hm
  obtain ⟨n3, e3, g3, k3⟩ := hi8 hp
  obtain ⟨n4, e4, g4, k4⟩ := hi8 hq
  obtain ⟨a1, a2⟩ := or64 g1 g2
  obtain ⟨b1, b2⟩ := or64 g3 g4
  obtain ⟨c1, c2⟩ := or64 a2 b2
  rw [e1, e2, e3, e4, a1, b1, c1, show (9259542123273814144 : Int) = ((9259542123273814144 : Nat) : Int) from rfl, and64 c2 mk64] at h
  have h2 := (Lib.or_mask _ _ _).1 (show ((n1 ||| n2) ||| (n3 ||| n4)) &&& 9259542123273814144 = 0 by omega)
  have h3 := (Lib.or_mask _ _ _).1 h2.1
  have h4 := (Lib.or_mask _ _ _).1 h2.2
  exact ⟨⟨k1 h3.1, k2 h3.2⟩, ⟨k3 h4.1, k4 h4.2⟩⟩
end Utf
theorem Sl.tail {α : Type} {m : Nat} {F : El α} {H : Heap} {v : Value} {l : List α} {lo : Nat} (hs : Sl m F H v l) (h : lo ≤ l.length) : Sl m F H (subV m v lo l.length) (l.drop lo) := by
  have := hs.sub (lo := lo) (hi := l.length) h (Nat.le_refl _)
  rwa [List.take_length] at this
theorem Sl.r8 {H : Heap} {v : Value} {l : List Int} (hs : Sl 1 (EInt .u8) H v l) (h : 8 ≤ l.length) : ∀ i, i < 8 → InR .u8 (l.getD i default) := fun i hi => (hs.int i (by omega)).2
end Go.Proofs.YtldmfchamcpmmaaDoor
namespace Go.Proofs.YtldmfchamcpmmaaDoor
open Go Go.RowKit
set_option linter.unusedVariables false
set_option linter.unusedSimpArgs false
namespace Utf
theorem tabx : ∀ c : Fin 256, (128 ≤ c.1 ∧ c.1 < 194 → Lib.firstT c.1 % 8 = 1) ∧ (194 ≤ c.1 ∧ c.1 < 224 → Lib.firstT c.1 % 8 = 2 ∧ Lib.accLo (Lib.firstT c.1 / 16) = 128 ∧ Lib.accHi (Lib.firstT c.1 / 16) = 191) ∧
    (224 ≤ c.1 ∧ c.1 < 240 → Lib.firstT c.1 % 8 = 3 ∧ Lib.accLo (Lib.firstT c.1 / 16) = (if c.1 = 224 then 160 else 128) ∧ Lib.accHi (Lib.firstT c.1 / 16) = (if c.1 = 237 then 159 else 191)) ∧
    (240 ≤ c.1 ∧ c.1 < 245 → Lib.firstT c.1 % 8 = 4 ∧ Lib.accLo (Lib.firstT c.1 / 16) = (if c.1 = 240 then 144 else 128) ∧ Lib.accHi (Lib.firstT c.1 / 16) = (if c.1 = 244 then 143 else 191)) ∧ (245 ≤ c.1 → Lib.firstT c.1 % 8 = 1) := by decide +kernel
section
variable {l : List Int} (r : InR .u8 (l.getD 0 default))
include r
omit r in
theorem chr1 (h : l.getD 0 default < 128) : chr l = 1 := by
  have e : sz (l.getD 0 default) = 1 := by unfold sz; rw [if_pos h]
  unfold chr; rw [e]; rfl
theorem chr0 (h : 128 ≤ l.getD 0 default ∧ l.getD 0 default < 192 ∨ 248 ≤ l.getD 0 default) : chr l = 0 := by
  dsimp only [InR] at r
  have t := tabx ⟨(l.getD 0 default).toNat, by omega⟩
  have e : sz (l.getD 0 default) = 0 := by
    unfold sz ft; rw [if_neg (by omega), if_pos]
    rcases h with h | h
    · exact t.1 (by constructor <;> (dsimp only; omega))
    exact t.2.2.2.2 (by dsimp only; omega)
  unfold chr; rw [e]; rfl
theorem chr2 (h : 192 ≤ l.getD 0 default ∧ l.getD 0 default < 224) : chr l = if l.getD 0 default < 194 ∨ l.length < 2 ∨ l.getD 1 default < 128 ∨ 191 < l.getD 1 default then 0 else 2 := by
  dsimp only [InR] at r
  have t := tabx ⟨(l.getD 0 default).toNat, by omega⟩
  by_cases h4 : l.getD 0 default < 194
  · have e : sz (l.getD 0 default) = 0 := by
      unfold sz ft; rw [if_neg (by omega), if_pos (t.1 (by constructor <;> (dsimp only; omega)))]
    rw [if_pos (.inl h4)]; unfold chr; rw [e]; rfl
  obtain ⟨t1, t2, t3⟩ := t.2.1 (by constructor <;> (dsimp only; omega))
  have e : sz (l.getD 0 default) = 2 := by unfold sz ft; rw [if_neg (by omega), t1]; rfl
  have e2 : lo (l.getD 0 default) = 128 := by unfold lo ft; rw [t2]; rfl
  have e3 : hi (l.getD 0 default) = 191 := by unfold hi ft; rw [t3]; rfl
  unfold chr; rw [e, e2, e3, if_neg (by omega)]
  split
  · rw [if_pos (by omega)]
  rw [if_neg (by omega)]
theorem chr3 (h : 224 ≤ l.getD 0 default ∧ l.getD 0 default < 240) : chr l = if l.length < 3 ∨ (l.getD 0 default = 224 ∧ l.getD 1 default < 160) ∨ l.getD 1 default < 128 ∨ (l.getD 0 default = 237 ∧ 159 < l.getD 1 default) ∨ 191 < l.getD 1 default ∨ l.getD 2 default < 128 ∨ 191 < l.getD 2 default then 0 else 3 := by
  dsimp only [InR] at r
  have t := tabx ⟨(l.getD 0 default).toNat, by omega⟩
  obtain ⟨t1, t2, t3⟩ := t.2.2.1 (by constructor <;> (dsimp only; omega))
  have e : sz (l.getD 0 default) = 3 := by unfold sz ft; rw [if_neg (by omega), t1]; rfl
  have e2 : lo (l.getD 0 default) = if l.getD 0 default = 224 then 160 else 128 := by
    unfold lo ft; rw [t2]; dsimp only; split <;> split <;> omega
  have e3 : hi (l.getD 0 default) = if l.getD 0 default = 237 then 159 else 191 := by
    unfold hi ft; rw [t3]; dsimp only; split <;> split <;> omega
  unfold chr; rw [e, e2, e3, if_neg (by omega)]
  by_cases h1 : l.getD 0 default = 224
  · rw [if_pos h1, if_neg (show ¬ l.getD 0 default = 237 by omega)]
    split
    · rw [if_pos (by omega)]
    rw [if_neg (by omega)]
  rw [if_neg h1]
  by_cases h2 : l.getD 0 default = 237
  · rw [if_pos h2]
    split
    · rw [if_pos (by omega)]
    rw [if_neg (by omega)]
  rw [if_neg h2]
  split
  · rw [if_pos (by omega)]
  rw [if_neg (by omega)]
theorem chr4 (h : 240 ≤ l.getD 0 default ∧ l.getD 0 default < 248) : chr l = if 244 < l.getD 0 default ∨ l.length < 4 ∨ (l.getD 0 default = 240 ∧ l.getD 1 default < 144) ∨ l.getD 1 default < 128 ∨ (l.getD 0 default = 244 ∧ 143 < l.getD 1 default) ∨ 191 < l.getD 1 default ∨ l.getD 2 default < 128 ∨ 191 < l.getD 2 default ∨ l.getD 3 default < 128 ∨ 191 < l.getD 3 default then 0 else 4 := by
  dsimp only [InR] at r
  have t := tabx ⟨(l.getD 0 default).toNat, by omega⟩
  by_cases h5 : 244 < l.getD 0 default
  · have e : sz (l.getD 0 default) = 0 := by
      unfold sz ft; rw [if_neg (by omega), if_pos (t.2.2.2.2 (by dsimp only; omega))]
    rw [if_pos (.inl h5)]; unfold chr; rw [e]; rfl
  obtain ⟨t1, t2, t3⟩ := t.2.2.2.1 (by constructor <;> (dsimp only; omega))
  have e : sz (l.getD 0 default) = 4 := by unfold sz ft; rw [if_neg (by omega), t1]; rfl
  have e2 : lo (l.getD 0 default) = if l.getD 0 default = 240 then 144 else 128 := by
    unfold lo ft; rw [t2]; dsimp only; split <;> split <;> omega
  have e3 : hi (l.getD 0 default) = if l.getD 0 default = 244 then 143 else 191 := by
    unfold hi ft; rw [t3]; dsimp only; split <;> split <;> omega
  unfold chr; rw [e, e2, e3, if_neg (by omega)]
  by_cases h1 : l.getD 0 default = 240
  · rw [if_pos h1, if_neg (show ¬ l.getD 0 default = 244 by omega)]
    split
    · rw [if_pos (by omega)]
    rw [if_neg (by omega)]
  rw [if_neg h1]
  by_cases h2 : l.getD 0 default = 244
  · rw [if_pos h2]
    split
    · rw [if_pos (by omega)]
    rw [if_neg (by omega)]
  rw [if_neg h2]
  split
  · rw [if_pos (by omega)]
  rw [if_neg (by omega)]
end
/-- the number of a character -/
def cp (c : Int) (l : List Int) : Nat → Int
  | 0 => c
  | 1 => c
  | k + 2 => 64 * cp c l (k + 1) + l.getD (k + 1) default - 128
theorem cp_succ (c : Int) (l : List Int) {k : Nat} (h : 1 ≤ k) : cp c l (k + 1) = 64 * cp c l k + l.getD k default - 128 := by
  obtain ⟨j, rfl⟩ : ∃ j, k = j + 1 := ⟨k - 1, by omega⟩
  rfl
def bd : Nat → Int
  | 0 => 32
  | 1 => 32
  | 2 => 2048
  | 3 => 131072
  | _ => 8388608
theorem bd_succ {k : Nat} (h1 : 1 ≤ k) (h : k < 4) : bd (k + 1) = 64 * bd k ∧ 0 ≤ bd k ∧ bd k ≤ 131072 := by
  rcases (by omega : k = 1 ∨ k = 2 ∨ k = 3) with rfl | rfl | rfl <;> decide
theorem bad_at {l : List Int} {k : Nat} (h1 : 1 ≤ k) (h4 : k < 4) (h : l.getD k default < 128 ∨ 191 < l.getD k default) :
    (k = 1 ∧ (l.getD 1 default < 128 ∨ 191 < l.getD 1 default)) ∨ (k = 2 ∧ (l.getD 2 default < 128 ∨ 191 < l.getD 2 default)) ∨ (k = 3 ∧ (l.getD 3 default < 128 ∨ 191 < l.getD 3 default)) := by
  rcases (by omega : k = 1 ∨ k = 2 ∨ k = 3) with rfl | rfl | rfl
  · exact .inl ⟨rfl, h⟩
  · exact .inr (.inl ⟨rfl, h⟩)
  exact .inr (.inr ⟨rfl, h⟩)
end Utf
end Go.Proofs.YtldmfchamcpmmaaDoor
namespace Go.Proofs.YtldmfchamcpmmaaDoor
open Go Go.RowKit
set_option linter.unusedVariables false
set_option linter.unusedSimpArgs false
namespace Utf
end Utf
namespace Nm
/-- the name with which bytes begin, and of how many bytes that is -/
def nt (l : List Int) : Option (List Int × Nat) :=
  match Lb.tk l 32 with
  | none => none
  | some (n, k) => if n ≤ ((l.length - k : Nat) : Int) ∧ Utf.valid ((l.drop k).take n.toNat) = true then some ((l.drop k).take n.toNat, k + n.toNat) else none
def V : Option (List Int × Nat) → Value
  | none => .tuple #[.string ⟨#[]⟩, .int .i64 0, .bool false]
  | some (t, k) => .tuple #[.string (bstr t), .int .i64 (k : Nat), .bool true]
theorem none {l : List Int} (h : Lb.tk l 32 = Option.none) : nt l = Option.none := by unfold nt; rw [h]
theorem bad {l : List Int} {n : Int} {k : Nat} (h : Lb.tk l 32 = some (n, k)) (hb : ((l.length - k : Nat) : Int) < n ∨ Utf.valid ((l.drop k).take n.toNat) = false) : nt l = Option.none := by
  unfold nt; rw [h]
  simp only []
  rw [if_neg]
  rintro ⟨h1, h2⟩
  rcases hb with hb | hb
  · omega
  rw [hb] at h2; cases h2
theorem good {l : List Int} {n : Int} {k : Nat} (h : Lb.tk l 32 = some (n, k)) (h1 : n ≤ ((l.length - k : Nat) : Int)) (h2 : Utf.valid ((l.drop k).take n.toNat) = true) : nt l = some ((l.drop k).take n.toNat, k + n.toNat) := by
  unfold nt; rw [h]
  simp only []
  rw [if_pos ⟨h1, h2⟩]
/-- a name that was appended, whatever stands behind -/
theorem back (s r : List Int) (hs : s.length < 4294967296) : nt (Lb.ap (s.length : Int) ++ s ++ r) = if Utf.valid s = true then some (s, (Lb.ap (s.length : Int)).length + s.length) else Option.none := by
  have ht := Lb.tk_ap (n := (s.length : Int)) (by omega) (by omega) (s ++ r)
  rw [← List.append_assoc] at ht
  have e : ((Lb.ap (s.length : Int) ++ s ++ r).drop (Lb.ap (s.length : Int)).length).take ((s.length : Int)).toNat = s := by
    rw [List.append_assoc, List.drop_left, Int.toNat_natCast, List.take_left]
  split
  · next hv =>
    rw [good ht (by simp; omega) (by rw [e]; exact hv), e, Int.toNat_natCast]
  next hv => exact bad ht (.inr (by rw [e]; simpa using hv))
theorem range {l t : List Int} {k : Nat} (r : ∀ x ∈ l, InR .u8 x) (h : nt l = some (t, k)) : ∀ x ∈ t, InR .u8 x := by
  unfold nt at h
  split at h
  · cases h
  split at h
  · injection h with h; injection h with h1 h2
    subst h1
    exact fun x hx => r x (List.mem_of_mem_drop (List.mem_of_mem_take hx))
  cases h
end Nm
end Go.Proofs.YtldmfchamcpmmaaDoor
namespace Go.Proofs.YtldmfchamcpmmaaDoor
open Go Go.RowKit
set_option linter.unusedVariables false
set_option linter.unusedSimpArgs false
/-- a section: its number, and its bytes -/
abbrev Sec := Int × List Int
def ESec : El Sec := fun H cs x => ∃ v, cs = [.int .u8 x.1, v] ∧ Sl 1 (EInt .u8) H v x.2 ∧ InR .u8 x.1
instance keepsSec : Keeps ESec := ⟨fun ho h => by
  obtain ⟨v, hv, hs, r⟩ := h
  exact ⟨v, hv, hs.old ho, r⟩⟩
instance oneSec : One ESec := ⟨fun h u hu => by
  obtain ⟨v, rfl, hs, _⟩ := h
  simp only [List.mem_cons, List.not_mem_nil, or_false] at hu
  rcases hu with rfl | rfl <;> first | rfl | exact hs.one⟩
theorem Sl.secAt {H : Heap} {v : Value} {l : List Sec} (h : Sl 2 ESec H v l) (j : Nat) (hj : j < l.length) : ∃ u, CellsH H ((vbase v).add (j * 2)) [.int .u8 (l.getD j default).1, u] ∧ Sl 1 (EInt .u8) H u (l.getD j default).2 ∧ InR .u8 (l.getD j default).1 := by
  obtain ⟨cs, hl, hc, u, rfl, hu, h1⟩ := h.at j hj
  exact ⟨u, hc, hu, h1⟩
namespace Sc
/-- the sections of what is left, behind one of number last -/
def go : Nat → List Int → Int → Option (List Sec)
  | 0, _, _ => none
  | f + 1, r, last => if r.length = 0 then some [] else
    match Lb.tk (r.drop 1) 32 with
    | none => none
    | some (n, k) => if ((r.length - 1 - k : Nat) : Int) < n then none
      else if r.getD 0 default = 0 then (if Nm.nt ((r.drop (1 + k)).take n.toNat) = none then none else go f (r.drop (1 + k + n.toNat)) last)
      else if last < r.getD 0 default ∧ r.getD 0 default ≤ 11 then (go f (r.drop (1 + k + n.toNat)) (r.getD 0 default)).map ((r.getD 0 default, (r.drop (1 + k)).take n.toNat) :: ·)
      else none
/-- the sections of what is left -/
def sp (r : List Int) (last : Int) : Option (List Sec) := go (r.length + 1) r last
section
variable {r : List Int} {last : Int} (h : 0 < r.length)
include h
variable {n : Int} {k : Nat} (ht : Lb.tk (r.drop 1) 32 = some (n, k))
include ht
end
/-- what a binary begins with -/
def beg : List Int := [0, 97, 115, 109, 1, 0, 0, 0]
/-- the sections of a binary -/
def split (l : List Int) : Option (List Sec) := if l.take 8 = beg then sp (l.drop 8) 0 else none
/-- do the numbers rise, behind last, to 11 at most? -/
def rise : Int → List Sec → Bool
  | _, [] => true
  | last, s :: l => decide (last < s.1 ∧ s.1 ≤ 11) && rise s.1 l
/-- the bytes of sections -/
def body : List Sec → List Int
  | [] => []
  | s :: l => [s.1] ++ Lb.ap (s.2.length : Int) ++ s.2 ++ body l
def join (l : List Sec) : Option (List Int) := if rise 0 l = true then some (beg ++ body l) else none
theorem body_app (l m : List Sec) : body (l ++ m) = body l ++ body m := by
  induction l with
  | nil => rfl
  | cons s l ih => simp only [List.cons_append, body, ih, List.append_assoc]
/-- the last number -/
def lst : Int → List Sec → Int
  | last, [] => last
  | _, s :: l => lst s.1 l
theorem rise_app (last : Int) (l m : List Sec) : rise last (l ++ m) = (rise last l && rise (lst last l) m) := by
  induction l generalizing last with
  | nil => simp [rise, lst]
  | cons s l ih => simp only [List.cons_append, rise, lst, ih, Bool.and_assoc]
theorem lst_app (last : Int) (l m : List Sec) : lst last (l ++ m) = lst (lst last l) m := by
  induction l generalizing last with
  | nil => rfl
  | cons s l ih => exact ih s.1
end Sc
end Go.Proofs.YtldmfchamcpmmaaDoor
