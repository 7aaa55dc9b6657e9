/- The logic of walks where a call may end in a panic; a region that draws its order walked in an order of one's own. No condition but those that each law states. -/
import Derived.Test.YticnkojpfmkjeaaKAny
import Derived.Test.YticnkojpfmkjeaaKArr
import Derived.Test.YticnkojpfmkjeaaKRow
import Derived.Defers
import Derived.Recover
namespace Go.Proofs.Yticnkojpfmkjeaa
open Go Go.RowKit
set_option linter.unusedVariables false
set_option linter.unusedSimpArgs false
/-- a panic of one's own -/
def Pan (v : Value) : List PanicEntry := [{ v := v, recovered := false }]
/-- a contract of a call that hands back as R says, or panics as X says -/
def CtX (P : Program) (f : FuncId) (args : List Value) (H : Heap) (R X : Value → Heap → Prop) : Prop :=
  ∀ w, w.heap = H → Calls P f args.toArray w fun e w' => (∃ v, e = .returned v ∧ St w w'.heap w' ∧ R v w'.heap) ∨ (∃ v, e = .panicked (Pan v) ∧ St w w'.heap w' ∧ X v w'.heap)
theorem CtX.mono {P : Program} {f : FuncId} {args : List Value} {H : Heap} {R R' X X' : Value → Heap → Prop} (h : CtX P f args H R X) (hr : ∀ v H', R v H' → R' v H') (hx : ∀ v H', X v H' → X' v H') : CtX P f args H R' X' :=
  fun w hw => (h w hw).mono fun _ _ hq => hq.imp (fun ⟨v, he, hs, hR⟩ => ⟨v, he, hs, hr _ _ hR⟩) (fun ⟨v, he, hs, hX⟩ => ⟨v, he, hs, hx _ _ hX⟩)
theorem Ct.toX {P : Program} {f : FuncId} {args : List Value} {H : Heap} {R X : Value → Heap → Prop} (h : Ct P f args H R) : CtX P f args H R X := fun w hw => (h w hw).mono fun _ _ hq => .inl hq
def PostX (P : Program) (fn : Func) (W0 : World) (R X : Value → Heap → Prop) : Exit → Act → World → Prop :=
  bodyPost P fn (fun e w' => (∃ v, e = .returned v ∧ St W0 w'.heap w' ∧ R v w'.heap) ∨ (∃ v, e = .panicked (Pan v) ∧ St W0 w'.heap w' ∧ X v w'.heap))
section
variable {P : Program} {n d : Nat} {W0 : World} {Q : Exit → Act → World → Prop} {ops rest : List Oper} {o : Oper} {E : Env} {H : Heap} {v : Value} {ch : List PanicEntry}
theorem CtX.mk {f : FuncId} {fn : Func} {c : Code} {args : List Value} {R X : Value → Heap → Prop} (hf : P.funcs[f]? = some fn) (hb : fn.body = some c) (hn : fn.ntmps = n) (hle : Nat.ble args.length n = true)
    (h : ∀ W0 : World, W0.heap = H → KC P n W0 (PostX P fn W0 R X) c (argEnv 0 args) H) : CtX P f args H R X := by
  intro w hw
  have hle' : args.length ≤ n := by simpa using hle
  refine calls_of_wp hf hb (h w hw _ w ⟨rfl, by simp [hn]; omega, ?_⟩ ⟨hw, rfl, rfl, rfl⟩)
  intro t v ht
  rw [get_argEnv] at ht
  simp only [Nat.not_lt_zero, if_false, Nat.sub_zero] at ht
  have hlt := (List.getElem?_eq_some_iff.1 ht).1
  rw [Array.getElem?_append_left (by simpa using hlt)]
  simpa using ht
theorem KQ.toX {fn : Func} {R X : Value → Heap → Prop} (h : KQ n W0 (Post P fn W0 R) .normal E H) : KQ n W0 (PostX P fn W0 R X) .normal E H := fun a w ha hw =>
  let ⟨hd, v, hr, hR⟩ := h a w ha hw; ⟨hd, v, hr, .inl hR⟩
theorem KQ.ofRetX {fn : Func} {R X : Value → Heap → Prop} (h : KQ n W0 (PostX P fn W0 R X) .normal E H) : KQ n W0 (PostX P fn W0 R X) .ret E H := h
theorem KQ.pan {fn : Func} {R X : Value → Heap → Prop} (hX : X v H) : KQ n W0 (PostX P fn W0 R X) (.panic (Pan v)) E H := fun a w ha hw =>
  ⟨ha.defers, .inr ⟨v, rfl, ⟨rfl, hw.os, hw.tape, hw.output⟩, by rw [hw.heap]; exact hX⟩⟩
theorem Fr.ofU {g : Nat} {H H' : Heap} (u : Upd g H H') : Fr g (.slice none 0 0) H H' := ⟨Nat.le_of_eq u.1.symm, fun k _ h _ => u.2 k h⟩
theorem Fr.thenN {g : Nat} {A B D : Heap} (f : Fr g (.slice none 0 0) A B) (k : Fr g (.slice none 0 0) B D) : Fr g (.slice none 0 0) A D := ⟨Nat.le_trans f.1 k.1, fun i hi h1 h2 => (k.2 i (by have := f.1; omega) h1 h2).trans (f.2 i hi h1 h2)⟩
theorem Fr.at_ {g : Nat} {A B : Heap} (f : Fr g (.slice none 0 0) A B) {i : Nat} {o : Obj} (h : A[i]? = some o) (hne : i ≠ g) : B[i]? = some o := (f.2 i (blk_lt h) hne (.inl rfl)).trans h
theorem Fr.low {g B0 : Nat} {A B : Heap} (f : Fr g (.slice none 0 0) A B) (h1 : B0 ≤ A.size) (h2 : B0 ≤ g) : OldB B0 A B := f.oldB h1 h2 (.inl rfl)
theorem KQ.panThen {N : Act → World → Prop} (h : KQ n W0 Q (.panic ch) E H) : KQ n W0 (Exit.then N Q) (.panic ch) E H := h
theorem KQ.panBlock {id : Nat} (h : KQ n W0 Q (.panic ch) E H) : KQ n W0 (Exit.inBlock id Q) (.panic ch) E H := h
theorem KL.callX {f : FuncId} {fo : Operand} {xs : Array Operand} {ts : Array TypeId} {first cap : Array Value} {vs args : List Value} {R X : Value → Heap → Prop} (ho : o.op = .call { callee := .value fo, args := xs, argTypes := ts })
    (hf : ev E fo = some (.func (.func f) first cap)) (has : evs E xs.toList = some vs) (hl : first.toList ++ vs ++ cap.toList = args) (hcall : Enters P f) (hd : o.dst = some d) (hn : Nat.blt d n = true) (hg : want ops E o.guard = some true)
    (hc : CtX P f args H R X) (hx : ∀ v H', X v H' → KQ n W0 Q (.panic (Pan v)) E H') (h : ∀ v H', R v H' → KL P n W0 Q ops rest ((d, v) :: E) H') : KL P n W0 Q ops (o :: rest) E H := by
  intro a w ha hw
  refine wpList_step fun K hK => ?_
  rw [if_pos (want_wanted ha hg)]
  unfold Oper.wp
  rw [run_call ha.agree ho hf has hl hcall]
  refine (hc w hw.heap).mono ?_
  rintro e w' (⟨v, rfl, hst, hR⟩ | ⟨v, rfl, hst, hX⟩)
  · show K (a.put o.dst v) w'
    rw [hd]
    exact hK _ _ (h v _ hR _ _ (ha.put hn v) (hw.trans hst))
  · exact hx v _ hX _ _ ha (hw.trans hst)
theorem KL.panic {x : Operand} {T : TypeId} (ho : o.op = .panic x) (hx : ev E x = some (.iface T v)) (hg : want ops E o.guard = some true) (h : KQ n W0 Q (.panic (Pan (.iface T v))) E H) : KL P n W0 Q ops (o :: rest) E H := by
  intro a w ha hw
  refine wpList_step fun K hK => ?_
  rw [if_pos (want_wanted ha hg)]
  unfold Oper.wp
  have hr : (execOp a.eval o).run P w = .halt (.panic (.iface T v)) w := by
    simp [execOp, ho, ha.agree x _ hx]
    rfl
  rw [hr]
  exact h _ _ ha hw
def isIface : TypeDesc → Bool
  | .interface _ => true
  | _ => false
theorem R.makeIface {T : TypeId} {x : Operand} {ds : TypeDesc} (ho : o.op = .makeInterface T x) (ht : P.underlying T = some ds) (hd : isIface ds = false) (hx : ev E x = some v) : Run P E H o (.iface T v) := by
  intro ρ w ha hw
  cases ds <;> simp [isIface] at hd <;> simp [execOp, ho, ha x _ hx, Instr.makeInterface, underlying, program, ht, Sem.run_bind, Sem.run_pure, Result.andThen, Sem.run]
/-- x.(T), ok of an x that holds a T -/
theorem R.assertIs {T S : TypeId} {x : Operand} {ds : TypeDesc} (ho : o.op = .typeAssert x S T true) (ht : P.underlying T = some ds) (hd : isIface ds = false) (hx : ev E x = some (.iface T v)) : Run P E H o (.tuple #[v, .bool true]) := by
  intro ρ w ha hw
  cases ds <;> simp [isIface] at hd <;> simp [execOp, ho, ha x _ hx, Instr.typeAssert, underlying, program, ht, Sem.run_bind, Sem.run_pure, Result.andThen, Sem.run]

theorem Own.frK {α : Type} {m g B : Nat} {E' : El α} {e : TypeId} {H0 H1 H2 : Heap} {u : Value} {l : List α} (h : Own m E' e H0 B H1 u l) (f : Fr g (.slice none 0 0) H1 H2) (hg : g < B) : Own m E' e H0 B H2 u l :=
  h.keepN (h.lt.imp id (fun k => f.2 _ k.2 (by omega) (.inl rfl)))
/-! ### a drawn region in an order of one's own -/
variable {cl : Nat → Nat} {C : Nat → Heap → Prop} {X : Value → Heap → Prop} {k : Nat} {ord : List Nat}
def Xs (cl : Nat → Nat) (W0 : World) (X : Value → Heap → Prop) (i : Nat) (ch : List PanicEntry) (w : World) : Prop := cl i = 3 ∧ ∃ v, ch = Pan v ∧ St W0 w.heap w ∧ X v w.heap
def KO (P : Program) (n : Nat) (W0 : World) (Q : Exit → Act → World → Prop) (cl : Nat → Nat) (C : Nat → Heap → Prop) (X : Value → Heap → Prop) (ops : List Oper) (ord : List Nat) (E : Env) (H : Heap) : Prop :=
  ∀ a w, Rep n E a → St W0 H w → ko P ops.toArray cl (fun i w => C i w.heap ∧ St W0 w.heap w) (Xs cl W0 X) (fun a w => Q .normal a w) ord a w
theorem KC.order {id : Nat} {l : List Oper} (ord : List Nat) (cl : Nat → Nat) (C : Nat → Heap → Prop) (X : Value → Heap → Prop) (hm : P.follows .mixedOrders = true) (hns : Region.noSelect l.toArray = true) (hB : koB l.toArray cl [] ord = true) (hlen : ord.length = l.length) (hC : ∀ i, C i H)
    (hX : ∀ v H', X v H' → KQ n W0 Q (.panic (Pan v)) [] H') (h : KO P n W0 Q cl C X l ord E H) : KC P n W0 Q (.region id l.toArray true) E H :=
  fun a w ha hw => wp_region_ko (C := fun i w => C i w.heap ∧ St W0 w.heap w) (X := Xs cl W0 X) hm hns hB (fun k hk ch w hx => hk hx.1) (by simpa using hlen) (fun i => show C i w.heap ∧ _ from ⟨by rw [hw.heap]; exact hC i, rfl, hw.os, hw.tape, hw.output⟩)
    (fun i ch a' w' hk hx => by
      obtain ⟨_, v, rfl, hst, hv⟩ := hx
      exact hX v w'.heap hv a' w' ⟨hk.defers.trans ha.defers, hk.size.trans ha.size, fun t u ht => by cases ht⟩ hst) (h a _ ha ⟨hw.heap, hw.os, hw.tape, hw.output⟩)
theorem KO.nil (h : KQ n W0 Q .normal E H) : KO P n W0 Q cl C X ops [] E H := fun a w ha hw => h a w ha hw
theorem nth_arr {l : List Oper} {k : Nat} (h : nth l k = some o) : l.toArray[k]? = some o := by rw [nth_eq] at h; simpa using h
theorem KO.op (hk : nth ops k = some o) (hs : cl k = 0) (hr : ∀ H', C k H' → Run P E H' o v) (hd : o.dst = some d) (hn : Nat.blt d n = true) (hg : want ops E o.guard = some true) (h : KO P n W0 Q cl C X ops ord ((d, v) :: E) H) : KO P n W0 Q cl C X ops (k :: ord) E H := by
  intro a w ha hw
  unfold ko sOp
  simp only [nth_arr hk]
  rw [if_pos (want_wanted ha hg), if_pos hs]
  refine ⟨v, fun w' hw' => hr w'.heap hw'.1 a.eval w' ha.agree rfl, ?_⟩
  rw [hd]; exact h _ _ (ha.put hn v) hw
theorem KO.skip (hk : nth ops k = some o) (hd : o.dst = some d) (hn : Nat.blt d n = true) (hg : want ops E o.guard = some false) (h : KO P n W0 Q cl C X ops ord ((d, undef) :: E) H) : KO P n W0 Q cl C X ops (k :: ord) E H := by
  intro a w ha hw
  unfold ko sOp
  simp only [nth_arr hk]
  rw [if_neg (by rw [want_wanted ha hg]; simp), hd]
  exact h _ _ (ha.put hn _) hw
theorem KO.case {c : Bool} (hget : get E d = some (.bool c)) (ht : c = true → KO P n W0 Q cl C X ops ord ((d, .bool true) :: E) H) (hf : c = false → KO P n W0 Q cl C X ops ord ((d, .bool false) :: E) H) : KO P n W0 Q cl C X ops ord E H := by
  intro a w ha hw
  cases hc : c with
  | true => exact ht hc a w (ha.sub (sub_case hget true hc)) hw
  | false => exact hf hc a w (ha.sub (sub_case hget false hc)) hw
theorem KO.now (hk : nth ops k = some o) (hs : cl k = 1) (hr : Run P E H o v) (hd : o.dst = some d) (hn : Nat.blt d n = true) (hg : want ops E o.guard = some true) (h : KO P n W0 Q cl C X ops ord ((d, v) :: E) H) : KO P n W0 Q cl C X ops (k :: ord) E H := by
  intro a w ha hw
  unfold ko sOp
  simp only [nth_arr hk]
  rw [if_pos (want_wanted ha hg), if_neg (by rw [hs]; decide), if_pos hs]
  refine ⟨v, hr a.eval w ha.agree hw.heap, ?_⟩
  rw [hd]; exact h _ _ (ha.put hn v) hw
theorem KO.opM {R : Value → Heap → Prop} (hk : nth ops k = some o) (hs : cl k = 2) (hr : RunM P E H o R) (hd : o.dst = some d) (hn : Nat.blt d n = true) (hg : want ops E o.guard = some true) (hC : ∀ v H', R v H' → Dk ops.toArray C k H') (h : ∀ v H', R v H' → KO P n W0 Q cl C X ops ord ((d, v) :: E) H') : KO P n W0 Q cl C X ops (k :: ord) E H := by
  intro a w ha hw
  unfold ko sOp
  simp only [nth_arr hk]
  rw [if_pos (want_wanted ha hg), if_neg (by rw [hs]; decide), if_neg (by rw [hs]; decide)]
  obtain ⟨v, w', hrun, hst, hR⟩ := hr a.eval w ha.agree hw.heap
  unfold eff
  rw [hrun]
  simp only [effUpon]
  rw [hd]
  have hst' := hw.trans hst
  exact ⟨fun i _ h1 h2 => ⟨hC _ _ hR i h1 h2, rfl, hst'.os, hst'.tape, hst'.output⟩, h v _ hR _ _ (ha.put hn v) hst'⟩
theorem KO.opS {R : Heap → Prop} (hk : nth ops k = some o) (hs : cl k = 2) (hr : RunS P E H o R) (hd : o.dst = none) (hg : want ops E o.guard = some true) (hC : ∀ H', R H' → Dk ops.toArray C k H') (h : ∀ H', R H' → KO P n W0 Q cl C X ops ord E H') : KO P n W0 Q cl C X ops (k :: ord) E H := by
  intro a w ha hw
  unfold ko sOp
  simp only [nth_arr hk]
  rw [if_pos (want_wanted ha hg), if_neg (by rw [hs]; decide), if_neg (by rw [hs]; decide)]
  obtain ⟨w', hrun, hst, hR⟩ := hr a.eval w ha.agree hw.heap
  unfold eff
  rw [hrun]
  simp only [effUpon]
  rw [hd]
  have hst' := hw.trans hst
  exact ⟨fun i _ h1 h2 => ⟨hC _ hR i h1 h2, rfl, hst'.os, hst'.tape, hst'.output⟩, h _ hR _ _ ha hst'⟩
theorem KO.call {f : FuncId} {fo : Operand} {xs : Array Operand} {ts : Array TypeId} {first cap : Array Value} {vs args : List Value} {R : Value → Heap → Prop} (hk : nth ops k = some o) (hs : cl k = 2) (ho : o.op = .call { callee := .value fo, args := xs, argTypes := ts })
    (hf : ev E fo = some (.func (.func f) first cap)) (has : evs E xs.toList = some vs) (hl : first.toList ++ vs ++ cap.toList = args) (hcall : Enters P f) (hd : o.dst = some d) (hn : Nat.blt d n = true) (hg : want ops E o.guard = some true)
    (hc : Ct P f args H R) (hC : ∀ v H', R v H' → Dk ops.toArray C k H') (h : ∀ v H', R v H' → KO P n W0 Q cl C X ops ord ((d, v) :: E) H') : KO P n W0 Q cl C X ops (k :: ord) E H := by
  intro a w ha hw
  unfold ko sOp
  simp only [nth_arr hk]
  rw [if_pos (want_wanted ha hg), if_neg (by rw [hs]; decide), if_neg (by rw [hs]; decide)]
  unfold eff
  rw [run_call ha.agree ho hf has hl hcall]
  simp only [effUpon]
  refine (hc w hw.heap).mono ?_
  rintro e w' ⟨v, rfl, hst, hR⟩
  have hst' := hw.trans hst
  rw [hd]
  refine .inl ?_
  exact ⟨v, rfl, fun i _ h1 h2 => ⟨hC _ _ hR i h1 h2, rfl, hst'.os, hst'.tape, hst'.output⟩, h v _ hR _ _ (ha.put hn v) hst'⟩
theorem KO.callX {f : FuncId} {fo : Operand} {xs : Array Operand} {ts : Array TypeId} {first cap : Array Value} {vs args : List Value} {R : Value → Heap → Prop} (hk : nth ops k = some o) (hs : cl k = 3) (ho : o.op = .call { callee := .value fo, args := xs, argTypes := ts })
    (hf : ev E fo = some (.func (.func f) first cap)) (has : evs E xs.toList = some vs) (hl : first.toList ++ vs ++ cap.toList = args) (hcall : Enters P f) (hd : o.dst = some d) (hn : Nat.blt d n = true) (hg : want ops E o.guard = some true)
    (hc : CtX P f args H R X) (hC : ∀ v H', R v H' → Dk ops.toArray C k H') (h : ∀ v H', R v H' → KO P n W0 Q cl C X ops ord ((d, v) :: E) H') : KO P n W0 Q cl C X ops (k :: ord) E H := by
  intro a w ha hw
  unfold ko sOp
  simp only [nth_arr hk]
  rw [if_pos (want_wanted ha hg), if_neg (by rw [hs]; decide), if_neg (by rw [hs]; decide)]
  unfold eff
  rw [run_call ha.agree ho hf has hl hcall]
  simp only [effUpon]
  refine (hc w hw.heap).mono ?_
  rintro e w' (⟨v, rfl, hst, hR⟩ | ⟨v, rfl, hst, hX⟩)
  · have hst' := hw.trans hst
    rw [hd]
    refine .inl ?_
    exact ⟨v, rfl, fun i _ h1 h2 => ⟨hC _ _ hR i h1 h2, rfl, hst'.os, hst'.tape, hst'.output⟩, h v _ hR _ _ (ha.put hn v) hst'⟩
  · have hst' := hw.trans hst
    exact .inr ⟨_, rfl, hs, v, rfl, ⟨rfl, hst'.os, hst'.tape, hst'.output⟩, hX⟩
end
end Go.Proofs.Yticnkojpfmkjeaa
