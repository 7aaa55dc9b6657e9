/- Ranges over functions in the logic K. No condition but those that each law states. -/
import Derived.Test.YtgpbdimccbimnaaKDef
import Derived.RangeFuncIn
import Derived.RangeFuncLeaves
import Derived.RangeFuncRecord
import Derived.TacticsIn
import Derived.OrdersIn
namespace Go.Proofs.Ytgpbdimccbimnaa
open Go Go.RowKit
set_option linter.unusedVariables false
set_option linter.unusedSimpArgs false
/-- no fence but, maybe, a round's -/
def FO (r : Option Nat) : Fence := { Fence.wide with round := r }
theorem wpIn_out {P : Program} {c : Code} {Q : Exit → Act → World → Prop} {a : Act} {w : World} : c.wpIn (FO none) 0 P Q a w ↔ c.wp P Q a w := wpIn_wide
theorem callsIn_out {r : Option Nat} {n : Nat} {P : Program} {f : FuncId} {args : Array Value} {w : World} {R : Ending → World → Prop} : CallsIn (FO r) n P f args w R ↔ Calls P f args w R := callsIn_wide (n := n)
theorem rowsIn_out {r : Option Nat} {n : Nat} {P : Program} {row : String} {args : Array Value} {w : World} {R : Value → World → Prop} (h : Rows P row args w R) : RowsIn (FO r) n P row args w R :=
  fun c cs _ => let ⟨v, w', hr, hs⟩ := h c cs; ⟨v, w', hr, stepsIn_wide.2 hs⟩
theorem depth_out {r : Option Nat} {n : Nat} : (FO r).depth.isSome = true → 1 ≤ n := fun h => by cases h
def isDef : Op → Bool
  | .defer _ => true
  | _ => false
theorem semAt_out {r : Option Nat} {ρ : Operand → Value} {o : Oper} (h : isDef o.op = false) : Oper.semAt r ρ o = execOp ρ o := by
  cases r with
  | none => exact Oper.semAt_none ρ o
  | some l => exact Oper.semAt_some l ρ o (fun c e => by rw [e] at h; cases h)
section
variable {P : Program} {r : Option Nat}
theorem uponIn_out {o : Oper} {a : Act} {K : Act → World → Prop} {Q : Exit → Act → World → Prop} {x : Result Next} (h : o.upon P a K Q x) : o.uponIn (FO r) 0 P a K Q x := by
  cases x with
  | halt y w' => cases y <;> simp only [Oper.upon, Oper.uponIn] at h ⊢ <;> exact h
  | ok m w' =>
    cases m <;> simp only [Oper.upon, Oper.uponIn] at h ⊢
    case value => exact h
    case skip => exact h
    case defer => exact h
    case enter f args => exact ⟨depth_out, callsIn_out.2 h⟩
    case row row args => exact ⟨depth_out, rowsIn_out h⟩
theorem wp_out {o : Oper} {a : Act} {w : World} {K : Act → World → Prop} {Q : Exit → Act → World → Prop} (ho : isDef o.op = false) (h : o.wp P a w K Q) : o.wpIn (FO r) 0 P a w K Q := by
  refine ⟨fun _ _ => trivial, ?_⟩
  show o.uponIn (FO r) 0 P a K Q ((o.semAt r a.eval).run P w)
  rw [semAt_out ho]
  exact uponIn_out h
def noDef (l : List Oper) : Bool := l.all fun o => !isDef o.op
theorem wpList_out {ops : Array Oper} {Q : Exit → Act → World → Prop} (hO : ∀ a w, ¬ Q .outgrown a w) : ∀ (l : List Oper) (a : Act) (w : World), noDef l = true → wpList P ops Q l a w → wpListIn (FO r) 0 P ops Q l a w
  | [], a, w, _, h => h
  | o :: l, a, w, hd, h => by
    simp only [noDef, List.all_cons, Bool.and_eq_true, Bool.not_eq_true'] at hd
    have ih : ∀ a w, wpList P ops Q l a w → wpListIn (FO r) 0 P ops Q l a w := fun a w => wpList_out hO l a w (by simpa [noDef] using hd.2)
    unfold wpList at h
    unfold wpListIn
    split
    · rename_i hw
      rw [if_pos hw] at h
      rcases h with h | ⟨_, a', w', h2⟩
      · exact Oper.wpIn_mono (fun a w => ih a w) (wp_out hd.1 h)
      · exact absurd h2 (hO _ _)
    · rename_i hw
      rw [if_neg hw] at h
      exact ⟨fun _ _ => trivial, ih _ _ h⟩
theorem wpAny_out {ops : Array Oper} {Q : Exit → Act → World → Prop} (hO : ∀ a w, ¬ Q .outgrown a w) (hd : noDef ops.toList = true) : ∀ (fuel : Nat) (listed : Array Bool) (a : Act) (w : World), wpAny P .any ops Q fuel listed a w → wpAnyIn (FO r) 0 P .any ops Q fuel listed a w := by
  intro fuel
  induction fuel with
  | zero => intro listed a w h; exact h
  | succ fuel ih =>
    intro listed a w h
    refine ⟨h.1, fun i hi => ?_⟩
    have h1 := h.2 i hi
    unfold wpOp at h1
    unfold wpOpIn
    cases ho : ops[i]? with
    | none => simp only [ho] at h1 ⊢; exact ih _ _ _ h1
    | some o =>
      simp only [ho] at h1 ⊢
      have hno : isDef o.op = false := by
        have hm : o ∈ ops.toList := by simpa using Array.mem_of_getElem? ho
        simpa using List.all_eq_true.1 hd o hm
      split
      · rename_i hw
        rw [if_pos hw] at h1
        rcases h1 with h1 | ⟨_, a', w', h2⟩
        · exact Oper.wpIn_mono (fun a w => ih _ a w) (wp_out hno h1)
        · exact absurd h2 (hO _ _)
      · rename_i hw
        rw [if_neg hw] at h1
        exact ⟨fun _ _ => trivial, ih _ _ _ h1⟩
end

/-! ### code within a round -/
section
variable {P : Program} {n d l : Nat} {W0 : World} {Q : Exit → Act → World → Prop} {E : Env} {H : Heap}
def KCR (l : Nat) (P : Program) (n : Nat) (W0 : World) (Q : Exit → Act → World → Prop) (c : Code) (E : Env) (H : Heap) : Prop := ∀ a w, Rep n E a → St W0 H w → c.wpIn (FO (some l)) 0 P Q a w
theorem KCR.seq {x y : Code} (h : KCR l P n W0 (Exit.then (y.wpIn (FO (some l)) 0 P Q) Q) x E H) : KCR l P n W0 Q (.seq x y) E H := fun a w ha hw => wpIn_seq (h a w ha hw)
theorem KQR.seq {y : Code} (h : KCR l P n W0 Q y E H) : KQ n W0 (Exit.then (y.wpIn (FO (some l)) 0 P Q) Q) .normal E H := h
theorem KCR.skip (h : KQ n W0 Q .normal E H) : KCR l P n W0 Q .skip E H := fun a w ha hw => wpIn_skip (h a w ha hw)
theorem KCR.exit {id : Nat} (h : KQ n W0 Q (.exit id) E H) : KCR l P n W0 Q (.exit id) E H := fun a w ha hw => wpIn_exit (h a w ha hw)
theorem KCR.ret (h : KQ n W0 Q .ret E H) : KCR l P n W0 Q .ret E H := fun a w ha hw => wpIn_ret (h a w ha hw)
theorem KCR.block {id : Nat} {c : Code} (h : KCR l P n W0 (Exit.inBlock id Q) c E H) : KCR l P n W0 Q (.block id c) E H := fun a w ha hw => wpIn_block (h a w ha hw)
theorem KCR.condT {c : Operand} {x y : Code} (hc : ev E c = some (.bool true)) (h : KCR l P n W0 Q x E H) : KCR l P n W0 Q (.cond c x y) E H := fun a w ha hw => wpIn_cond_true (ha.eval hc) (h a w ha hw)
theorem KCR.condF {c : Operand} {x y : Code} (hc : ev E c = some (.bool false)) (h : KCR l P n W0 Q y E H) : KCR l P n W0 Q (.cond c x y) E H := fun a w ha hw => wpIn_cond_false (ha.eval hc) (h a w ha hw)
theorem KCR.sub {c : Code} {E' : Env} (hs : Sub E' E) (h : KCR l P n W0 Q c E' H) : KCR l P n W0 Q c E H := fun a w ha hw => h a w (ha.sub hs) hw
theorem KCR.iteL {x y : Code} {b : Bool} (hc : get E d = some (.bool b)) (ht : b = true → KCR l P n W0 Q x ((d, .bool true) :: E) H) (hf : b = false → KCR l P n W0 Q y ((d, .bool false) :: E) H) : KCR l P n W0 Q (.cond (.tmp d) x y) E H := by
  cases hb : b with
  | true => exact KCR.sub (sub_case hc true hb) (KCR.condT (by simp [ev, get]) (ht hb))
  | false => exact KCR.sub (sub_case hc false hb) (KCR.condF (by simp [ev, get]) (hf hb))
theorem KCR.region {id : Nat} {l' : List Oper} (h : KL P n W0 Q l' l' E H) (hO : ∀ a w, ¬ Q .outgrown a w := by exact fun _ _ h => h) (hd : noDef l' = true := by rfl) : KCR l P n W0 Q (.region id l'.toArray false) E H :=
  fun a w ha hw => wpIn_region_lit (wpList_out hO _ _ _ hd (h a w ha hw))
theorem wpAny_kp {ops : Array Oper} {cl : Nat → Nat} {C : Nat → World → Prop} {a : Act} {w : World} (hB : kpB ops cl = true) (hC : ∀ i, C i w) (h : kp P ops cl C (fun a w => Q .normal a w) ops.toList 0 a w) : wpAny P .any ops Q ops.size (Array.replicate ops.size false) a w := by
  refine wpAny_of_anyS (Q := fun a w => Q .normal a w) (cl := cl) (C := C) (X := fun _ _ _ => False) (fun _ _ h => h) (fun _ _ _ _ _ h => h.elim) _ _ _ _ ⟨rfl, rfl⟩ (fun i hi j hj => by obtain ⟨_, oj, h2, _⟩ := waits_spec _ _ hj; have := (Array.getElem?_eq_some_iff.1 h2).1; simp [this]) (fun i _ _ => hC i) ?_
  have := anyS_kp (Q := fun a w => Q .normal a w) hB ops.toList 0 (Array.replicate ops.size false) a w (by simp) ⟨by simp, fun j hj => by simp [hj]⟩ (fun i _ _ => hC i) h
  simpa using this
theorem KCR.text {id : Nat} {l' : List Oper} (cl : Nat → Nat) (C : Nat → Heap → Prop) (hm : P.follows .mixedOrders = true) (hB : kpB l'.toArray cl = true) (hC : ∀ i, C i H) (h : KP P n W0 Q cl C l' l' 0 E H) (hO : ∀ a w, ¬ Q .outgrown a w := by exact fun _ _ h => h) (hd : noDef l' = true := by rfl) : KCR l P n W0 Q (.region id l'.toArray true) E H :=
  fun a w ha hw => wpIn_region_any hm (wpAny_out hO (by simpa using hd) _ _ _ _ (wpAny_kp (C := fun i w => C i w.heap ∧ St W0 w.heap w) hB (fun i => ⟨by show C i w.heap; rw [hw.heap]; exact hC i, rfl, hw.os, hw.tape, hw.output⟩) (h a _ ha ⟨hw.heap, hw.os, hw.tape, hw.output⟩)))

/-! ### regions that call yield -/
/-- what a call of yield of loop l does -/
def YCt (P : Program) (l : Nat) (args : List Value) (H : Heap) (R : Value → Heap → Prop) : Prop :=
  ∀ w, w.heap = H → ∃ fn tmps assign body, (Instr.yield l args.toArray).run P w = .ok (.round l fn tmps assign body) w ∧ RoundIn (FO none) 0 P l fn tmps assign body w (fun e w' => ∃ v, e = .returned v ∧ St w w'.heap w' ∧ R v w'.heap)
theorem YCt.mono {l : Nat} {args : List Value} {H : Heap} {R R' : Value → Heap → Prop} (h : YCt P l args H R) (hr : ∀ v H', R v H' → R' v H') : YCt P l args H R' := fun w hw =>
  let ⟨fn, tmps, a, b, hy, hR⟩ := h w hw
  ⟨fn, tmps, a, b, hy, hR.mono fun e w' ⟨v, he, hs, hq⟩ => ⟨v, he, hs, hr _ _ hq⟩⟩
def KLY (r : Option Nat) (P : Program) (n : Nat) (W0 : World) (Q : Exit → Act → World → Prop) (ops l : List Oper) (E : Env) (H : Heap) : Prop := ∀ a w, Rep n E a → St W0 H w → wpListIn (FO r) 0 P ops.toArray Q l a w
theorem KC.regionY {id : Nat} {l' : List Oper} (h : KLY none P n W0 Q l' l' E H) : KC P n W0 Q (.region id l'.toArray false) E H := fun a w ha hw => wpIn_out.1 (wpIn_region_lit (h a w ha hw))
theorem KCR.regionY {id : Nat} {l' : List Oper} (h : KLY (some l) P n W0 Q l' l' E H) : KCR l P n W0 Q (.region id l'.toArray false) E H := fun a w ha hw => wpIn_region_lit (h a w ha hw)
end
section
variable {P : Program} {n d l : Nat} {W0 : World} {Q : Exit → Act → World → Prop} {ops rest : List Oper} {o : Oper} {E : Env} {H : Heap} {v : Value} {r : Option Nat}
theorem KLY.nil (h : KQ n W0 Q .normal E H) : KLY r P n W0 Q ops [] E H := h
theorem KLY.op (hr : Run P E H o v) (hq : isDef o.op = false) (hd : o.dst = some d) (hn : Nat.blt d n = true) (hg : want ops E o.guard = some true) (h : KLY r P n W0 Q ops rest ((d, v) :: E) H) : KLY r P n W0 Q ops (o :: rest) E H := by
  intro a w ha hw
  unfold wpListIn
  rw [if_pos (want_wanted ha hg)]
  refine wp_out hq ?_
  unfold Oper.wp
  rw [hr a.eval w ha.agree hw.heap]
  show wpListIn (FO r) 0 P ops.toArray Q rest (a.put o.dst v) w
  rw [hd]
  exact h _ _ (ha.put hn v) hw
theorem KLY.skip (hd : o.dst = some d) (hn : Nat.blt d n = true) (hg : want ops E o.guard = some false) (h : KLY r P n W0 Q ops rest ((d, undef) :: E) H) : KLY r P n W0 Q ops (o :: rest) E H := by
  intro a w ha hw
  unfold wpListIn
  rw [if_neg (by rw [want_wanted ha hg]; simp)]
  refine ⟨fun _ _ => trivial, ?_⟩
  rw [hd]
  exact h _ _ (ha.put hn _) hw
theorem KLY.case {c : Bool} (hget : get E d = some (.bool c)) (ht : c = true → KLY r P n W0 Q ops rest ((d, .bool true) :: E) H) (hf : c = false → KLY r P n W0 Q ops rest ((d, .bool false) :: E) H) : KLY r P n W0 Q ops rest E H := by
  intro a w ha hw
  cases hc : c with
  | true => exact ht hc a w (ha.sub (sub_case hget true hc)) hw
  | false => exact hf hc a w (ha.sub (sub_case hget false hc)) hw
theorem run_yieldc {fo : Operand} {xs : Array Operand} {ts : Array TypeId} {vs : List Value} {ρ : Operand → Value} {w : World} (ha : Agree E ρ) (ho : o.op = .call { callee := .value fo, args := xs, argTypes := ts })
    (hf : ev E fo = some (.func (.yield l) #[] #[])) (has : evs E xs.toList = some vs) : (execOp ρ o).run P w = (Instr.yield l vs.toArray).run P w := by
  have e1 : xs.map ρ = vs.toArray := by apply Array.ext'; simpa using ha.evs has
  simp [execOp, ho, resolve, ha fo _ hf, Deferred.ofValue, invoke, e1, Sem.run_bind, Sem.run_pure, Result.andThen]
theorem KLY.yield {fo : Operand} {xs : Array Operand} {ts : Array TypeId} {vs : List Value} {R : Value → Heap → Prop} (ho : o.op = .call { callee := .value fo, args := xs, argTypes := ts })
    (hf : ev E fo = some (.func (.yield l) #[] #[])) (has : evs E xs.toList = some vs) (hd : o.dst = some d) (hn : Nat.blt d n = true) (hg : want ops E o.guard = some true)
    (hc : YCt P l vs H R) (h : ∀ v H', R v H' → KLY r P n W0 Q ops rest ((d, v) :: E) H') : KLY r P n W0 Q ops (o :: rest) E H := by
  intro a w ha hw
  unfold wpListIn
  rw [if_pos (want_wanted ha hg)]
  refine ⟨fun _ _ => trivial, ?_⟩
  have hnd : isDef o.op = false := by rw [ho]; rfl
  obtain ⟨fn, tmps, asg, bd, hy, hR⟩ := hc w hw.heap
  show o.uponIn (FO r) 0 P a _ Q ((o.semAt r a.eval).run P w)
  rw [semAt_out hnd, run_yieldc ha.agree ho hf has, hy]
  refine ⟨depth_out, ?_⟩
  have hR' : RoundIn (FO r) 0 P l fn tmps asg bd w _ := hR
  refine hR'.mono ?_
  rintro e w' ⟨v, rfl, hst, hq⟩
  show wpListIn (FO r) 0 P ops.toArray Q rest (a.put o.dst v) w'
  rw [hd]
  exact h v _ hq _ _ (ha.put hn v) (hw.trans hst)
end
end Go.Proofs.Ytgpbdimccbimnaa
