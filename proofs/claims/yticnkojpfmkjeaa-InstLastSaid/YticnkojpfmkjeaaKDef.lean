/- Deferred calls and 'recover' in the logic K. No condition but those that each law states. -/
import Derived.Test.YticnkojpfmkjeaaKPan
namespace Go.Proofs.Yticnkojpfmkjeaa
open Go Go.RowKit
set_option linter.unusedVariables false
set_option linter.unusedSimpArgs false
/-- deferred calls D beneath an act's own -/
def plusA (D : List Deferred) (a : Act) : Act := { a with defers := a.defers ++ D }
def plusQ (D : List Deferred) (Q : Exit → Act → World → Prop) (e : Exit) (a : Act) (w : World) : Prop := Q e (plusA D a) w
theorem plusA_put (D : List Deferred) (a : Act) (d : Option Tmp) (v : Value) : (plusA D a).put d v = plusA D (a.put d v) := by cases d <;> rfl
theorem plusA_eval (D : List Deferred) (a : Act) : (plusA D a).eval = a.eval := by funext x; cases x <;> rfl
section
variable {P : Program} {D : List Deferred}
theorem upon_plus {o : Oper} {a : Act} {N N' : Act → World → Prop} {Q : Exit → Act → World → Prop} {r : Result Next} (hn : ∀ a w, N a w → N' (plusA D a) w) (h : o.upon P a N (plusQ D Q) r) : o.upon P (plusA D a) N' Q r := by
  cases r with
  | halt x w' => cases x <;> simp only [Oper.upon] at h ⊢ <;> exact h
  | ok n w' =>
    cases n <;> simp only [Oper.upon] at h ⊢
    case value v => rw [plusA_put]; exact hn _ _ h
    case skip => rw [plusA_put]; exact hn _ _ h
    case defer d =>
      have := hn _ _ h
      rw [show ({ plusA D a with defers := d :: (plusA D a).defers } : Act) = plusA D { a with defers := d :: a.defers } from rfl, plusA_put]
      exact this
    case enter f args =>
      refine h.mono fun e w'' hq => ?_
      cases e with
      | returned v => simp only at hq ⊢; rw [plusA_put]; exact hn _ _ hq
      | panicked ch => exact hq
      | outgrown => obtain ⟨a', w', hq⟩ := hq; exact ⟨_, _, hq⟩
    case row row args => exact h.mono fun v w'' hq => by rw [plusA_put]; exact hn _ _ hq
theorem wpList_plus {ops : Array Oper} {Q : Exit → Act → World → Prop} : ∀ (l : List Oper) (a : Act) (w : World), wpList P ops (plusQ D Q) l a w → wpList P ops Q l (plusA D a) w
  | [], a, w, h => h
  | o :: l, a, w, h => by
    unfold wpList at h ⊢
    have e : yielded ops (plusA D a).tmps = yielded ops a.tmps := rfl
    rw [e]
    split
    · rename_i hw
      rw [if_pos hw] at h
      rcases h with h | ⟨h1, h2⟩
      · refine .inl ?_
        unfold Oper.wp at h ⊢
        rw [plusA_eval]
        exact upon_plus (fun a w => wpList_plus l a w) h
      · refine .inr ⟨?_, ?_⟩
        · unfold Oper.asks at h1 ⊢; rw [plusA_eval]; exact h1
        · obtain ⟨a', w', hq⟩ := h2; exact ⟨_, _, hq⟩
    · rename_i hw
      rw [if_neg hw] at h
      rw [plusA_put]; exact wpList_plus l _ _ h
theorem ko_plus {ops : Array Oper} {cl : Nat → Nat} {C : Nat → World → Prop} {X : Nat → List PanicEntry → World → Prop} {Q : Act → World → Prop} : ∀ (l : List Nat) (a : Act) (w : World), ko P ops cl C X (fun a w => Q (plusA D a) w) l a w → ko P ops cl C X Q l (plusA D a) w
  | [], a, w, h => h
  | k :: l, a, w, h => by
    have ih : ∀ a w, ko P ops cl C X (fun a w => Q (plusA D a) w) l a w → ko P ops cl C X Q l (plusA D a) w := fun a w => ko_plus l a w
    simp only [ko] at h ⊢
    unfold sOp at h ⊢
    cases ho : ops[k]? with
    | none => simp only [ho] at h ⊢; exact ih _ _ h
    | some o =>
      simp only [ho] at h ⊢
      have e : yielded ops (plusA D a).tmps = yielded ops a.tmps := rfl
      rw [e]
      split
      · rename_i hw
        rw [if_pos hw] at h
        split
        · rename_i h0; rw [if_pos h0] at h; obtain ⟨v, h1, h2⟩ := h; exact ⟨v, fun w' hw' => by unfold Oper.fixed; rw [plusA_eval]; exact h1 w' hw', by rw [plusA_put]; exact ih _ _ h2⟩
        · rename_i h0
          rw [if_neg h0] at h
          split
          · rename_i h1; rw [if_pos h1] at h; obtain ⟨v, h1, h2⟩ := h; exact ⟨v, by unfold Oper.fixed; rw [plusA_eval]; exact h1, by rw [plusA_put]; exact ih _ _ h2⟩
          · rename_i h1
            rw [if_neg h1] at h
            unfold eff at h ⊢
            rw [plusA_eval]
            generalize (execOp a.eval o).run P w = r at *
            cases r with
            | halt x w' => exact h
            | ok n w' =>
              cases n <;> simp only [effUpon] at h ⊢
              case value v => rw [plusA_put]; exact ⟨h.1, ih _ _ h.2⟩
              case skip => rw [plusA_put]; exact ⟨h.1, ih _ _ h.2⟩
              case enter f args => exact h.mono fun e w'' hq => hq.imp (fun ⟨v, he, hC, hK⟩ => ⟨v, he, hC, by rw [plusA_put]; exact ih _ _ hK⟩) id
      · rename_i hw; rw [if_neg hw] at h; rw [plusA_put]; exact ih _ _ h
end
section
variable {P : Program} {n d : Nat} {W0 : World} {Q : Exit → Act → World → Prop} {ops rest : List Oper} {o : Oper} {E : Env} {H : Heap} {v : Value} {D : List Deferred}
/-- code that runs above deferred calls -/
def KCD (D : List Deferred) (P : Program) (n : Nat) (W0 : World) (Q : Exit → Act → World → Prop) (c : Code) (E : Env) (H : Heap) : Prop := ∀ a w, Rep n E a → St W0 H w → c.wp P Q (plusA D a) w
theorem KCD.seq {x y : Code} (h : KCD D P n W0 (Exit.then (y.wp P Q) Q) x E H) : KCD D P n W0 Q (.seq x y) E H := fun a w ha hw => wp_seq (h a w ha hw)
theorem KQD.seq {y : Code} (h : KCD D P n W0 Q y E H) : KQ n W0 (plusQ D (Exit.then (y.wp P Q) Q)) .normal E H := fun a w ha hw => h a w ha hw
theorem KCD.region {id : Nat} {l : List Oper} (h : KL P n W0 (plusQ D Q) l l E H) : KCD D P n W0 Q (.region id l.toArray false) E H := fun a w ha hw => wp_region_lit (wpList_plus _ _ _ (h a w ha hw))
theorem KCD.ret (h : KQ n W0 (plusQ D Q) .ret E H) : KCD D P n W0 Q .ret E H := fun a w ha hw => wp_ret (h a w ha hw)
theorem KCD.skip (h : KQ n W0 (plusQ D Q) .normal E H) : KCD D P n W0 Q .skip E H := fun a w ha hw => wp_skip (h a w ha hw)
theorem KCD.condT {c : Operand} {x y : Code} (hc : ev E c = some (.bool true)) (h : KCD D P n W0 Q x E H) : KCD D P n W0 Q (.cond c x y) E H := fun a w ha hw => wp_cond_true (by rw [plusA_eval]; exact ha.eval hc) (h a w ha hw)
theorem KCD.condF {c : Operand} {x y : Code} (hc : ev E c = some (.bool false)) (h : KCD D P n W0 Q y E H) : KCD D P n W0 Q (.cond c x y) E H := fun a w ha hw => wp_cond_false (by rw [plusA_eval]; exact ha.eval hc) (h a w ha hw)
theorem KCD.ite {c : Operand} {x y : Code} {b : Bool} (hc : ev E c = some (.bool b)) (ht : b = true → KCD D P n W0 Q x E H) (hf : b = false → KCD D P n W0 Q y E H) : KCD D P n W0 Q (.cond c x y) E H := by
  cases b
  · exact KCD.condF hc (hf rfl)
  · exact KCD.condT hc (ht rfl)
theorem KQD.retThen {N : Act → World → Prop} (h : KQ n W0 (plusQ D Q) .ret E H) : KQ n W0 (plusQ D (Exit.then N Q)) .ret E H := h
theorem KQD.panThen {N : Act → World → Prop} {ch : List PanicEntry} (h : KQ n W0 (plusQ D Q) (.panic ch) E H) : KQ n W0 (plusQ D (Exit.then N Q)) (.panic ch) E H := h
theorem KCD.order {id : Nat} {l : List Oper} (ord : List Nat) (cl : Nat → Nat) (C : Nat → Heap → Prop) (X : Value → Heap → Prop) (hm : P.follows .mixedOrders = true) (hns : Region.noSelect l.toArray = true) (hB : koB l.toArray cl [] ord = true) (hlen : ord.length = l.length) (hC : ∀ i, C i H)
    (hX : ∀ v H', X v H' → KQ n W0 (plusQ D Q) (.panic (Pan v)) [] H') (h : KO P n W0 (plusQ D Q) cl C X l ord E H) : KCD D P n W0 Q (.region id l.toArray true) E H :=
  fun a w ha hw => wp_region_ko (C := fun i w => C i w.heap ∧ St W0 w.heap w) (X := Xs cl W0 X) hm hns hB (fun k hk ch w hx => hk hx.1) (by simpa using hlen) (fun i => show C i w.heap ∧ _ from ⟨by rw [hw.heap]; exact hC i, rfl, hw.os, hw.tape, hw.output⟩)
    (fun i ch a' w' hk hx => by
      obtain ⟨_, v, rfl, hst, hv⟩ := hx
      have hd : a'.defers = [] ++ D := hk.defers.trans (by show a.defers ++ D = _; rw [ha.defers])
      have := hX v w'.heap hv { a' with defers := [] } w' ⟨rfl, hk.size.trans ha.size, fun t u ht => by cases ht⟩ hst
      have e : plusA D { a' with defers := [] } = a' := by show ({ a' with defers := [] ++ D } : Act) = a'; rw [← hd]
      have h2 : Q (.panic (Pan v)) (plusA D { a' with defers := [] }) w' := this
      rw [e] at h2; exact h2) (ko_plus _ _ _ (h a _ ha ⟨hw.heap, hw.os, hw.tape, hw.output⟩))
/-- the call is put by -/
theorem KL.defer {f : FuncId} {fo : Operand} {ts : Array TypeId} {cap : Array Value} (ho : o.op = .defer { callee := .value fo, args := #[], argTypes := ts })
    (hf : ev E fo = some (.func (.func f) #[] cap)) (hd : o.dst = none) (hg : want ops E o.guard = some true)
    (h : KQ n W0 (plusQ [⟨.fn (.func f) cap, #[]⟩] Q) .normal E H) : KL P n W0 Q ops [o] E H := by
  intro a w ha hw
  refine wpList_step fun K hK => ?_
  rw [if_pos (want_wanted ha hg)]
  unfold Oper.wp
  have hr : (execOp a.eval o).run P w = .ok (.defer ⟨.fn (.func f) cap, #[]⟩) w := by
    simp [execOp, ho, resolve, ha.agree fo _ hf, Deferred.ofValue, Sem.run_bind, Sem.run_pure, Result.andThen]
  rw [hr]
  show K _ w
  refine hK _ _ ?_
  have := h a w ha hw
  unfold plusQ plusA at this
  rw [ha.defers] at this
  show Q .normal _ w
  rw [hd, ha.defers]
  exact this
/-- a deferred function's contract -/
def CtDef (P : Program) (f : FuncId) (args : List Value) (H : Heap) (u : FrameMode) (R : FrameMode → Heap → Prop) : Prop :=
  ∀ w, w.heap = H → CallsD P f args.toArray u w fun e u' w' => ∃ v, e = .returned v ∧ St w w'.heap w' ∧ R u' w'.heap
theorem CtDef.mono {f : FuncId} {args : List Value} {u : FrameMode} {R R' : FrameMode → Heap → Prop} (h : CtDef P f args H u R) (hr : ∀ u' H', R u' H' → R' u' H') : CtDef P f args H u R' :=
  fun w hw => (h w hw).mono fun _ _ _ ⟨v, he, hs, hR⟩ => ⟨v, he, hs, hr _ _ hR⟩
/-- what 'recover' finds -/
def Recov : FrameMode → Value → FrameMode → Prop
  | .returning, v, u' => v = .nilIface ∧ u' = .returning
  | .panicking ch, v, u' => ch = Pan v ∧ u' = .panicking [{ v := v, recovered := true }]
  | _, _, _ => False
theorem CtDef.mk {f : FuncId} {fn : Func} {c : Code} {o0 o1 : Oper} {id d0 d1 : Nat} {args : List Value} {u u' : FrameMode} {R : FrameMode → Heap → Prop} {ts : Array TypeId} {r : Value} (hf : P.funcs[f]? = some fn) (hb : fn.body = some (.seq (.region id #[o0, o1] false) c)) (hn : fn.ntmps = n) (hle : Nat.ble args.length n = true)
    (h0 : o0.op = .call { callee := .builtin .recover, args := #[], argTypes := ts }) (g0 : o0.guard = none) (e0 : o0.dst = some d0) (l0 : Nat.blt d0 n = true) (h1 : o1.op = .assign (.tmp d0)) (g1 : o1.guard = none) (e1 : o1.dst = some d1) (l1 : Nat.blt d1 n = true) (hu : Recov u r u')
    (h : ∀ W0 : World, W0.heap = H → KC P n W0 (Post P fn W0 (fun _ H' => R u' H')) c ((d1, r) :: (d0, r) :: argEnv 0 args) H) : CtDef P f args H u R := by
  intro w hw
  have hle' : args.length ≤ n := by simpa using hle
  refine callsD_of_wpS hf hb fun c₀ cs hc => ?_
  refine wpS_seq (wpS_region ?_)
  have hr : Rep n (argEnv 0 args) { tmps := args.toArray ++ Array.replicate (fn.ntmps - args.toArray.size) undef, defers := [] } := by
    refine ⟨rfl, by simp [hn]; omega, ?_⟩
    intro t v ht
    rw [get_argEnv] at ht
    simp only [Nat.not_lt_zero, if_false, Nat.sub_zero] at ht
    have hlt := (List.getElem?_eq_some_iff.1 ht).1
    rw [Array.getElem?_append_left (by simpa using hlt)]
    simpa using ht
  generalize hA : ({ tmps := args.toArray ++ Array.replicate (fn.ntmps - args.toArray.size) undef, defers := [] } : Act) = A at hr ⊢
  have r0 : (execOp A.eval o0).run P w = .ok .recover w := by
    simp [execOp, h0, resolve, invoke, builtin, Sem.run_bind, Sem.run_pure, Result.andThen]
  have hr0 := hr.put l0 r
  have hr1 := hr0.put l1 r
  have r1 : (execOp (A.put (some d0) r).eval o1).run P w = .ok (.value r) w := by
    have := hr0.eval (x := .tmp d0) (v := r) (by simp [ev, get])
    simp [execOp, h1, this, Sem.run_bind, Sem.run_pure, Result.andThen]
  have fin : ∀ cs', cs' = { c₀ with mode := u' } :: cs → Exit.thenS (c.wpS P (bodyPostS P fn c₀ cs (fun e u' w' => ∃ v, e = .returned v ∧ St w w'.heap w' ∧ R u' w'.heap))) (bodyPostS P fn c₀ cs (fun e u' w' => ∃ v, e = .returned v ∧ St w w'.heap w' ∧ R u' w'.heap)) .normal ((A.put (some d0) r).put (some d1) r) cs' w := by
    intro cs' hcs
    show c.wpS P _ _ cs' w
    refine wpS_of_wp ?_
    refine Code.wp_mono ?_ (h w hw _ w hr1 ⟨hw, rfl, rfl, rfl⟩)
    intro e a' w' hq
    cases e with
    | normal => obtain ⟨hd, v, hv, hR⟩ := hq; obtain ⟨v', he, hs, hR⟩ := hR; exact ⟨hd, u', hcs, v, hv, v', he, hs, hR⟩
    | ret => obtain ⟨hd, v, hv, hR⟩ := hq; obtain ⟨v', he, hs, hR⟩ := hR; exact ⟨hd, u', hcs, v, hv, v', he, hs, hR⟩
    | panic ch => obtain ⟨hd, v', he, _⟩ := hq; cases he
    | exit id => exact hq.elim
    | goto l => exact hq.elim
    | outgrown => obtain ⟨v', he, _⟩ := hq; cases he
  have w0 : ∀ t, Region.wanted o0 t = true := fun t => by simp [Region.wanted, g0]
  have w1 : ∀ t, Region.wanted o1 t = true := fun t => by simp [Region.wanted, g1]
  have es : (#[o0, o1] : Array Oper).size = 2 := rfl
  rw [es, show List.range 2 = [0, 1] from rfl]
  have step1 : ∀ cs', cs' = { c₀ with mode := u' } :: cs → wpOpsS P #[o0, o1] (Exit.thenS (c.wpS P (bodyPostS P fn c₀ cs (fun e u' w' => ∃ v, e = .returned v ∧ St w w'.heap w' ∧ R u' w'.heap))) (bodyPostS P fn c₀ cs (fun e u' w' => ∃ v, e = .returned v ∧ St w w'.heap w' ∧ R u' w'.heap))) [1] (A.put (some d0) r) cs' w := by
    intro cs' hcs
    unfold wpOpsS
    simp only [show (#[o0, o1] : Array Oper)[1]? = some o1 from rfl, w1, if_true, r1]
    rw [Oper.upon_value, e1]
    exact fin cs' hcs
  unfold wpOpsS
  simp only [show (#[o0, o1] : Array Oper)[0]? = some o0 from rfl, w0, if_true, r0]
  subst hc
  cases hm : c₀.mode with
  | run => rw [hm] at hu; exact hu.elim
  | returning =>
    rw [hm] at hu
    obtain ⟨rfl, rfl⟩ := hu
    simp only [recoverD, hm]
    rw [e0]
    refine step1 _ ?_
    rw [← hm]
  | panicking ch =>
    rw [hm] at hu
    obtain ⟨rfl, rfl⟩ := hu
    simp only [recoverD, hm, Pan]
    rw [e0]
    exact step1 _ rfl
/-- results, one by one -/
def ResL (P : Program) (E : Env) (H : Heap) : List ResultVar → List Value → Prop
  | [], vs => vs = []
  | .tmp t :: l, vs => ∃ v vs', vs = v :: vs' ∧ get E t = some v ∧ ResL P E H l vs'
  | .cell t T :: l, vs => ∃ v vs' p, vs = v :: vs' ∧ get E t = some (.pointer (some p)) ∧ (∀ w, w.heap = H → (loadVar T p).run P w = .ok v w) ∧ ResL P E H l vs'
theorem loadVar_one {T : TypeId} {ds : TypeDesc} {p : Addr} {w : World} (hu : P.underlying T = some ds) (hd : isAggD ds = false) (hc : cellH w.heap p = some v) : (loadVar T p).run P w = .ok v w := by
  have h1 : w.cell? p = some v := by rw [cell_w rfl]; exact hc
  have h2 : (isAgg T).run P w = .ok false w := by
    cases ds <;> simp [isAggD] at hd <;> simp [isAgg, underlying, program, hu, Sem.run_bind, Sem.run_pure, Result.andThen, Sem.run]
  simp [loadVar, Sem.run_bind, Sem.run_pure, Result.andThen, h2, load, Sem.run, h1]
theorem loadVar_agg {T : TypeId} {ds : TypeDesc} {p : Addr} {cs : List Value} {m : Nat} {w : World} (hu : P.underlying T = some ds) (hd : isAggD ds = true) (hs : (P.info? T).map (·.size) = some m) (hc : CellsH w.heap p cs) (hm : cs.length = m) : (loadVar T p).run P w = .ok (.agg cs.toArray) w := by
  subst hm
  have h2 : (isAgg T).run P w = .ok true w := by
    cases ds <;> simp [isAggD] at hd <;> simp [isAgg, underlying, program, hu, Sem.run_bind, Sem.run_pure, Result.andThen, Sem.run]
  have h3 := run_loadCells_list (P := P) (w := w) p cs (fun j u hj => by rw [cell_w rfl]; exact hc j u (by rw [nth_eq]; exact hj))
  cases hq : P.info? T with
  | none => simp [hq] at hs
  | some i =>
    simp [hq] at hs
    simp [loadVar, Sem.run_bind, Sem.run_pure, Result.andThen, h2, sizeOf, typeInfo, program, Sem.run, hq, hs, h3]
/-- what is asked at the end of a function with deferred calls -/
def PostD (P : Program) (fn : Func) (W0 : World) (R : Value → Heap → Prop) : Exit → Act → World → Prop := bodyPostD P fn (fun e w' => ∃ v, e = .returned v ∧ St W0 w'.heap w' ∧ R v w'.heap)
theorem Ct.mkD {f : FuncId} {fn : Func} {c : Code} {args : List Value} {R : Value → Heap → Prop} (hf : P.funcs[f]? = some fn) (hb : fn.body = some c) (hn : fn.ntmps = n) (hle : Nat.ble args.length n = true)
    (h : ∀ W0 : World, W0.heap = H → KC P n W0 (PostD P fn W0 R) c (argEnv 0 args) H) : Ct P f args H R := by
  intro w hw
  have hle' : args.length ≤ n := by simpa using hle
  refine calls_of_wp_defers hf hb (h w hw _ w ⟨rfl, by simp [hn]; omega, ?_⟩ ⟨hw, rfl, rfl, rfl⟩)
  intro t v ht
  rw [get_argEnv] at ht
  simp only [Nat.not_lt_zero, if_false, Nat.sub_zero] at ht
  have hlt := (List.getElem?_eq_some_iff.1 ht).1
  rw [Array.getElem?_append_left (by simpa using hlt)]
  simpa using ht
/-- three results in memory -/
theorem results_cells {fn : Func} {a : Act} {w : World} {t1 t2 t3 : Nat} {T1 T2 T3 : TypeId} {p1 p2 p3 : Addr} {v1 v2 v3 : Value} (ha : Rep n E a) (hr : fn.results = #[.cell t1 T1, .cell t2 T2, .cell t3 T3])
    (g1 : get E t1 = some (.pointer (some p1))) (g2 : get E t2 = some (.pointer (some p2))) (g3 : get E t3 = some (.pointer (some p3)))
    (l1 : (loadVar T1 p1).run P w = .ok v1 w) (l2 : (loadVar T2 p2).run P w = .ok v2 w) (l3 : (loadVar T3 p3).run P w = .ok v3 w) : (results fn a.tmps).run P w = .ok (.tuple #[v1, v2, v3]) w := by
  have h1 := ha.val t1 _ g1
  have h2 := ha.val t2 _ g2
  have h3 := ha.val t3 _ g3
  simp [results, hr, List.mapM_toArray, Array.getD_eq_getD_getElem?, h1, h2, h3, asAddr, Sem.run_bind, Sem.run_pure, Sem.run_map, Result.andThen, l1, l2, l3]
theorem KQD.fin {fn : Func} {f : FuncId} {cap : Array Value} {R : Value → Heap → Prop} {R1 : Heap → Prop} {e : Exit} {u : FrameMode} (hu : u ≠ .run) (he : ∀ (Rn : Ending → World → Prop) (a : Act) (w : World), bodyPostD P fn Rn e a w = Leaves P fn a.tmps Rn a.defers u w) (hcall : Enters P f)
    (c : CtDef P f cap.toList H u (fun u' H' => settle u' = .returning ∧ R1 H')) (h : ∀ H', R1 H' → ∃ v, (∀ (a : Act) (w : World), Rep n E a → w.heap = H' → (results fn a.tmps).run P w = .ok v w) ∧ R v H') : KQ n W0 (plusQ [⟨.fn (.func f) cap, #[]⟩] (PostD P fn W0 R)) e E H := by
  intro a w ha hw
  show bodyPostD P fn _ e _ w
  rw [he]
  unfold plusA
  rw [ha.defers]
  refine leaves_cons (f := f) (args := cap.toList.toArray) hu ?_ ((c w hw.heap).mono ?_)
  · have := hcall cap w
    simp [invoke, this]
  · rintro e' u' w' ⟨v, rfl, hst, hs, hR⟩
    show Leaves P fn a.tmps _ [] (settle u') w'
    rw [hs]
    obtain ⟨v, hv, hR⟩ := h _ hR
    exact ⟨v, hv a w' ha rfl, v, rfl, hw.trans hst, hR⟩
theorem KQD.fin_ret {fn : Func} {f : FuncId} {cap : Array Value} {R : Value → Heap → Prop} {R1 : Heap → Prop} (hcall : Enters P f)
    (c : CtDef P f cap.toList H .returning (fun u' H' => settle u' = .returning ∧ R1 H')) (h : ∀ H', R1 H' → ∃ v, (∀ (a : Act) (w : World), Rep n E a → w.heap = H' → (results fn a.tmps).run P w = .ok v w) ∧ R v H') : KQ n W0 (plusQ [⟨.fn (.func f) cap, #[]⟩] (PostD P fn W0 R)) .ret E H :=
  KQD.fin (by simp) (fun _ _ _ => rfl) hcall c h
theorem KQD.fin_pan {fn : Func} {f : FuncId} {cap : Array Value} {R : Value → Heap → Prop} {R1 : Heap → Prop} {ch : List PanicEntry} (hcall : Enters P f)
    (c : CtDef P f cap.toList H (.panicking ch) (fun u' H' => settle u' = .returning ∧ R1 H')) (h : ∀ H', R1 H' → ∃ v, (∀ (a : Act) (w : World), Rep n E a → w.heap = H' → (results fn a.tmps).run P w = .ok v w) ∧ R v H') : KQ n W0 (plusQ [⟨.fn (.func f) cap, #[]⟩] (PostD P fn W0 R)) (.panic ch) E H :=
  KQD.fin (by simp) (fun _ _ _ => rfl) hcall c h
theorem KQ.finCell3 {fn : Func} {R : Value → Heap → Prop} {t T u1 u2 : Nat} {cs : List Value} {x y : Value} {p : Addr} {ds : TypeDesc} {m : Nat} (hr : fn.results = #[.cell t T, .tmp u1, .tmp u2]) (ht : get E t = some (.pointer (some p))) (hu : P.underlying T = some ds) (hd : isAggD ds = true) (hs : (P.info? T).map (·.size) = some m) (hc : CellsH H p cs) (hm : cs.length = m) (hx : get E u1 = some x) (hy : get E u2 = some y) (hR : R (.tuple #[.agg cs.toArray, x, y]) H) : KQ n W0 (Post P fn W0 R) .normal E H :=
  KQ.fin _ (fun a w ha hw => by
    have h1 := ha.val t _ ht
    have h4 := ha.val u1 _ hx
    have h5 := ha.val u2 _ hy
    have h3 := loadVar_agg (P := P) (w := w) hu hd hs (by rw [hw]; exact hc) hm
    simp [results, hr, List.mapM_toArray, Array.getD_eq_getD_getElem?, h1, h4, h5, asAddr, Sem.run_bind, Sem.run_pure, Sem.run_map, Result.andThen, h3]) hR
/-- x != nil of an interface -/
def notNil : Value → Bool
  | .nilIface => false
  | _ => true
theorem R.neqNilI {T : TypeId} {x : Operand} {ds : TypeDesc} (ho : o.op = .binOp .neq T x (.const .nilIface) T) (ht : P.underlying T = some ds) (hd : isIface ds = true) (hx : ev E x = some v) (hv : v = .nilIface ∨ ∃ S u, v = .iface S u) : Run P E H o (.bool (notNil v)) := by
  intro ρ w ha hw
  have h1 := ha x _ hx
  cases ds <;> simp [isIface] at hd
  have h2 : ρ (.const .nilIface) = .nilIface := ha _ _ rfl
  rcases hv with rfl | ⟨S, u, rfl⟩
  · have h : (Op.equal T .nilIface .nilIface).run P w = .ok true w := run_equal (by rw [Op.equalIn]; simp [underlying, program, ht, Sem.run_bind, Sem.run_pure, Result.andThen, Sem.run])
    simp [execOp, ho, h1, h2, notNil, binOp, eqGuard, h, Sem.run_bind, Sem.run_pure, Result.andThen]
  · have h : (Op.equal T (.iface S u) .nilIface).run P w = .ok false w := run_equal (by rw [Op.equalIn]; simp [underlying, program, ht, Sem.run_bind, Sem.run_pure, Result.andThen, Sem.run])
    simp [execOp, ho, h1, h2, notNil, binOp, eqGuard, h, Sem.run_bind, Sem.run_pure, Result.andThen]
end
end Go.Proofs.Yticnkojpfmkjeaa
