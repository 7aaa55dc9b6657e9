/- The logic of walks: the operations one by one. No condition but those that each law states. -/
import Derived.Test.YticnkojpfmkjeaaK
namespace Go.Proofs.Yticnkojpfmkjeaa
open Go Go.RowKit
set_option linter.unusedVariables false
set_option linter.unusedSimpArgs false

def want (ops : List Oper) (E : Env) : Option (Nat × Bool) → Option Bool
  | none => some true
  | some (j, b) => match ((nth ops j).bind (·.dst)).bind (get E) with
    | some (.bool c) => some (c == b)
    | some (.tuple _) => some false
    | _ => none

def Agree (E : Env) (ρ : Operand → Value) : Prop := ∀ x v, ev E x = some v → ρ x = v
theorem Rep.agree {n : Nat} {E : Env} {a : Act} (h : Rep n E a) : Agree E a.eval := fun _ _ hx => h.eval hx

/-- an operation that hands back a value and leaves memory alone -/
def Run (P : Program) (E : Env) (H : Heap) (o : Oper) (v : Value) : Prop := ∀ ρ w, Agree E ρ → w.heap = H → (execOp ρ o).run P w = .ok (.value v) w

theorem want_wanted {n : Nat} {ops : List Oper} {E : Env} {a : Act} {o : Oper} {b : Bool} (h : Rep n E a) (hw : want ops E o.guard = some b) : Region.wanted o (yielded ops.toArray a.tmps) = b := by
  unfold Region.wanted
  cases hg : o.guard with
  | none => rw [hg] at hw; simp [want] at hw; simp [hw]
  | some p =>
    obtain ⟨j, t⟩ := p
    rw [hg] at hw
    simp only [want] at hw
    cases h1 : (nth ops j).bind (·.dst) with
    | none => rw [h1] at hw; cases hw
    | some d =>
      rw [h1] at hw
      simp only [Option.bind_some] at hw
      cases h2 : get E d with
      | none => rw [h2] at hw; cases hw
      | some v =>
        rw [h2] at hw
        have hv := h.val d v h2
        rw [nth_eq] at h1
        have h1' : (ops.toArray[j]?).bind (·.dst) = some d := by simpa using h1
        cases v <;> simp at hw
        · rename_i c
          simp only [yielded, h1', Option.bind_some, hv]
          subst hw
          cases c <;> cases t <;> rfl
        · simp only [yielded, h1', Option.bind_some, hv]
          subst hw
          rfl

section
variable {P : Program} {n d : Nat} {W0 : World} {Q : Exit → Act → World → Prop} {ops rest : List Oper} {o : Oper} {E : Env} {H : Heap} {v : Value}

theorem KL.op (hr : Run P E H o v) (hd : o.dst = some d) (hn : Nat.blt d n = true) (hg : want ops E o.guard = some true) (h : KL P n W0 Q ops rest ((d, v) :: E) H) : KL P n W0 Q ops (o :: rest) E H := by
  intro a w ha hw
  refine wpList_step fun K hK => ?_
  rw [if_pos (want_wanted ha hg)]
  unfold Oper.wp
  rw [hr a.eval w ha.agree hw.heap]
  show K (a.put o.dst v) w
  rw [hd]
  exact hK _ _ (h _ _ (ha.put hn v) hw)

theorem KL.skip (hd : o.dst = some d) (hn : Nat.blt d n = true) (hg : want ops E o.guard = some false) (h : KL P n W0 Q ops rest ((d, undef) :: E) H) : KL P n W0 Q ops (o :: rest) E H := by
  intro a w ha hw
  refine wpList_step fun K hK => ?_
  rw [if_neg (by rw [want_wanted ha hg]; simp)]
  rw [hd]
  exact hK _ _ (h _ _ (ha.put hn _) hw)
theorem KL.skip0 (hd : o.dst = none) (hg : want ops E o.guard = some false) (h : KL P n W0 Q ops rest E H) : KL P n W0 Q ops (o :: rest) E H := by
  intro a w ha hw
  refine wpList_step fun K hK => ?_
  rw [if_neg (by rw [want_wanted ha hg]; simp)]
  rw [hd]
  exact hK _ _ (h _ _ ha hw)

/-- a value where a guard lets one be -/
def gval (c : Bool) (v : Value) : Value := bif c then v else undef
theorem KL.opG {c : Bool} (hr : c = true → Run P E H o v) (hd : o.dst = some d) (hn : Nat.blt d n = true) (hg : want ops E o.guard = some c) (h : KL P n W0 Q ops rest ((d, gval c v) :: E) H) : KL P n W0 Q ops (o :: rest) E H := by
  cases c with
  | true => exact KL.op (hr rfl) hd hn hg h
  | false => exact KL.skip hd hn hg h
theorem Run.mono {E' : Env} (hs : Sub E' E) (h : Run P E' H o v) : Run P E H o v := fun ρ w ha hw => h ρ w (fun x u hx => ha x u (by
  cases x with
  | tmp t => exact hs t u hx
  | const c => exact hx
  | global g => exact hx
  | func f => exact hx)) hw
theorem Run.val {u : Value} (h : Run P E H o v) (e : v = u) : Run P E H o u := e ▸ h

theorem sub_case {c : Bool} (hget : get E d = some (.bool c)) (b : Bool) (hc : c = b) : Sub ((d, .bool b) :: E) E := by
  subst hc; exact Sub.cons hget (fun _ _ h => h)
theorem KC.iteL {x y : Code} {b : Bool} (hc : get E d = some (.bool b)) (ht : b = true → KC P n W0 Q x ((d, .bool true) :: E) H) (hf : b = false → KC P n W0 Q y ((d, .bool false) :: E) H) : KC P n W0 Q (.cond (.tmp d) x y) E H := by
  cases hb : b with
  | true => exact KC.sub (sub_case hc true hb) (KC.condT (by simp [ev, get]) (ht hb))
  | false => exact KC.sub (sub_case hc false hb) (KC.condF (by simp [ev, get]) (hf hb))
theorem KL.case {c : Bool} (hget : get E d = some (.bool c)) (ht : c = true → KL P n W0 Q ops rest ((d, .bool true) :: E) H) (hf : c = false → KL P n W0 Q ops rest ((d, .bool false) :: E) H) : KL P n W0 Q ops rest E H := by
  intro a w ha hw
  cases hc : c with
  | true => exact ht hc a w (ha.sub (sub_case hget true hc)) hw
  | false => exact hf hc a w (ha.sub (sub_case hget false hc)) hw
theorem R.move {x : Operand} (ho : o.op = .move x) (hx : ev E x = some v) : Run P E H o v := by
  intro ρ w ha hw; simp [execOp, ho, ha x v hx, go_sem]
theorem R.assign {x : Operand} (ho : o.op = .assign x) (hx : ev E x = some v) : Run P E H o v := by
  intro ρ w ha hw; simp [execOp, ho, ha x v hx, go_sem]
theorem R.pick {c x y : Operand} {t : Bool} (ho : o.op = .pick c x y) (hc : ev E c = some (.bool t)) (hv : ev E (bif t then x else y) = some v) : Run P E H o v := by
  intro ρ w ha hw
  cases t <;> simp only [cond_true, cond_false] at hv <;> simp [execOp, ho, ha c _ hc, ha _ v hv, go_sem]
theorem R.and {c x : Operand} {t s : Bool} (ho : o.op = .pick c x (.const (.bool false))) (hc : ev E c = some (.bool t)) (hx : t = true → ev E x = some (.bool s)) : Run P E H o (.bool (t && s)) := by
  intro ρ w ha hw
  cases t with
  | true => simp [execOp, ho, ha c _ hc, ha _ _ (hx rfl), go_sem]
  | false => simp [execOp, ho, ha c _ hc, ha (.const (.bool false)) _ rfl, go_sem]
theorem R.or {c x : Operand} {t s : Bool} (ho : o.op = .pick c (.const (.bool true)) x) (hc : ev E c = some (.bool t)) (hx : t = false → ev E x = some (.bool s)) : Run P E H o (.bool (t || s)) := by
  intro ρ w ha hw
  cases t with
  | false => simp [execOp, ho, ha c _ hc, ha _ _ (hx rfl), go_sem]
  | true => simp [execOp, ho, ha c _ hc, ha (.const (.bool true)) _ rfl, go_sem]
theorem R.not {T : TypeId} {x : Operand} {b : Bool} (ho : o.op = .unOp .not T x) (hx : ev E x = some (.bool b)) : Run P E H o (.bool (!b)) := by
  intro ρ w ha hw; simp [execOp, ho, ha x _ hx, go_sem]
theorem R.neg {T : TypeId} {x : Operand} {k : IntKind} {z : Int} (ho : o.op = .unOp .neg T x) (hx : ev E x = some (.int k z)) : Run P E H o (.int k (k.wrap (0 - z))) := by
  intro ρ w ha hw; simp [execOp, ho, ha x _ hx, Op.unary, Op.intArith, Sem.run_bind, Sem.run_pure, Result.andThen]
theorem R.nilCheck {x : Operand} {p : Addr} (ho : o.op = .nilCheck x) (hx : ev E x = some (.pointer (some p))) : Run P E H o (.pointer (some p)) := by
  intro ρ w ha hw; simp [execOp, ho, ha x _ hx, go_sem]
theorem R.extract {x : Operand} {i : Nat} {vs : Array Value} (ho : o.op = .extract x i) (hx : ev E x = some (.tuple vs)) (hv : nth vs.toList i = some v) : Run P E H o v := by
  intro ρ w ha hw
  rw [nth_eq] at hv
  have hv' : vs[i]? = some v := by simpa using hv
  simp [execOp, ho, ha x _ hx, Instr.extract, hv', Sem.run_bind, Sem.run_pure, Result.andThen]
theorem R.makeFunc {f : Fn} {xs ys : Array Operand} {us vs : List Value} (ho : o.op = .makeFunc f xs ys) (hx : evs E xs.toList = some us) (hy : evs E ys.toList = some vs) : Run P E H o (.func f us.toArray vs.toArray) := by
  have key : ∀ (l : List Operand) (us : List Value) (ρ : Operand → Value), Agree E ρ → evs E l = some us → l.map ρ = us := by
    intro l
    induction l with
    | nil => intro us ρ _ h; simp [evs] at h; subst h; rfl
    | cons x l ih =>
      intro us ρ ha h
      simp only [evs] at h
      cases h1 : ev E x with
      | none => rw [h1] at h; simp at h
      | some u =>
        cases h2 : evs E l with
        | none => rw [h1, h2] at h; simp at h
        | some ul => rw [h1, h2] at h; simp at h; subst h; simp [ha x u h1, ih ul ρ ha h2]
  intro ρ w ha hw
  have e1 : xs.map ρ = us.toArray := by apply Array.ext'; simpa using key xs.toList us ρ ha hx
  have e2 : ys.map ρ = vs.toArray := by apply Array.ext'; simpa using key ys.toList vs ρ ha hy
  simp [execOp, ho, Instr.makeFunc, e1, e2, Sem.run_bind, Sem.run_pure, Result.andThen]

/-! ### whole numbers -/
def InR : IntKind → Int → Prop
  | .i8, z => -128 ≤ z ∧ z ≤ 127
  | .i16, z => -32768 ≤ z ∧ z ≤ 32767
  | .i32, z => -2147483648 ≤ z ∧ z ≤ 2147483647
  | .i64, z => -9223372036854775808 ≤ z ∧ z ≤ 9223372036854775807
  | .u8, z => 0 ≤ z ∧ z ≤ 255
  | .u16, z => 0 ≤ z ∧ z ≤ 65535
  | .u32, z => 0 ≤ z ∧ z ≤ 4294967295
  | .u64, z => 0 ≤ z ∧ z ≤ 18446744073709551615
instance (k : IntKind) (z : Int) : Decidable (InR k z) := by cases k <;> unfold InR <;> infer_instance
theorem inR_wf {k : IntKind} {z : Int} : (Lit.int k z).wf = true ↔ InR k z := by
  cases k <;> simp [Lit.wf, InR, IntKind.min, IntKind.max, IntKind.signed, IntKind.bits]
theorem wrap_in {k : IntKind} {z : Int} (h : InR k z) : k.wrap z = z := by
  cases k <;> simp only [InR] at h <;> simp only [IntKind.wrap, IntKind.signed, IntKind.bits] <;> simp <;> omega
theorem inR_wrap (k : IntKind) (z : Int) : InR k (k.wrap z) := by
  cases k <;> simp only [InR, IntKind.wrap, IntKind.signed, IntKind.bits] <;> simp <;> omega

theorem bin_run {op : BinOp} {T T' : TypeId} {x y : Operand} {k k' : IntKind} {a b : Int} {r : Value} (ho : o.op = .binOp op T x y T') (hx : ev E x = some (.int k a)) (hy : ev E y = some (.int k' b))
    (hr : ∀ w, (binOp op T (.int k a) (.int k' b)).run P w = .ok r w) : Run P E H o r := by
  intro ρ w ha hw
  have hg : (eqGuard op T x y (.int k a) (.int k' b)).run P w = .ok () w := by
    cases op <;> simp [eqGuard, Sem.run_pure] <;> rfl
  simp [execOp, ho, ha x _ hx, ha y _ hy, Sem.run_bind, Sem.run_pure, Result.andThen, hg, hr]

theorem R.add {T T' : TypeId} {x y : Operand} {k : IntKind} {a b : Int} (ho : o.op = .binOp .add T x y T') (hx : ev E x = some (.int k a)) (hy : ev E y = some (.int k b)) (h : InR k (a + b)) : Run P E H o (.int k (a + b)) :=
  bin_run ho hx hy fun w => by simp [binOp, Op.intArith, Sem.run_pure, wrap_in h]
theorem R.addW {T T' : TypeId} {x y : Operand} {k : IntKind} {a b : Int} (ho : o.op = .binOp .add T x y T') (hx : ev E x = some (.int k a)) (hy : ev E y = some (.int k b)) : Run P E H o (.int k (k.wrap (a + b))) :=
  bin_run ho hx hy fun w => by simp [binOp, Op.intArith, Sem.run_pure]
theorem R.sub {T T' : TypeId} {x y : Operand} {k : IntKind} {a b : Int} (ho : o.op = .binOp .sub T x y T') (hx : ev E x = some (.int k a)) (hy : ev E y = some (.int k b)) (h : InR k (a - b)) : Run P E H o (.int k (a - b)) :=
  bin_run ho hx hy fun w => by simp [binOp, Op.intArith, Sem.run_pure, wrap_in h]
theorem R.subW {T T' : TypeId} {x y : Operand} {k : IntKind} {a b : Int} (ho : o.op = .binOp .sub T x y T') (hx : ev E x = some (.int k a)) (hy : ev E y = some (.int k b)) : Run P E H o (.int k (k.wrap (a - b))) :=
  bin_run ho hx hy fun w => by simp [binOp, Op.intArith, Sem.run_pure]
theorem R.mul {T T' : TypeId} {x y : Operand} {k : IntKind} {a b : Int} (ho : o.op = .binOp .mul T x y T') (hx : ev E x = some (.int k a)) (hy : ev E y = some (.int k b)) (h : InR k (a * b)) : Run P E H o (.int k (a * b)) :=
  bin_run ho hx hy fun w => by simp [binOp, Op.intArith, Sem.run_pure, wrap_in h]
theorem R.mulW {T T' : TypeId} {x y : Operand} {k : IntKind} {a b : Int} (ho : o.op = .binOp .mul T x y T') (hx : ev E x = some (.int k a)) (hy : ev E y = some (.int k b)) : Run P E H o (.int k (k.wrap (a * b))) :=
  bin_run ho hx hy fun w => by simp [binOp, Op.intArith, Sem.run_pure]
theorem R.quo {T T' : TypeId} {x y : Operand} {k : IntKind} {a b : Int} (ho : o.op = .binOp .quo T x y T') (hx : ev E x = some (.int k a)) (hy : ev E y = some (.int k b)) (h0 : 0 ≤ a) (h1 : 0 < b) (h : InR k a) : Run P E H o (.int k (a / b)) :=
  bin_run ho hx hy fun w => by
    have e : a.tdiv b = a / b := Int.tdiv_eq_ediv_of_nonneg h0
    have hle : a / b ≤ a := Int.ediv_le_self _ h0
    have hge : 0 ≤ a / b := Int.ediv_nonneg h0 (by omega)
    have hi : InR k (a / b) := by cases k <;> simp only [InR] at h ⊢ <;> omega
    simp [binOp, Op.intDiv, Sem.run_pure, e, wrap_in hi, show ¬ b = 0 by omega]
theorem R.rem {T T' : TypeId} {x y : Operand} {k : IntKind} {a b : Int} (ho : o.op = .binOp .rem T x y T') (hx : ev E x = some (.int k a)) (hy : ev E y = some (.int k b)) (h0 : 0 ≤ a) (h1 : 0 < b) : Run P E H o (.int k (a % b)) :=
  bin_run ho hx hy fun w => by
    have e : a.tmod b = a % b := Int.tmod_eq_emod_of_nonneg h0
    simp [binOp, Op.intDiv, Sem.run_pure, e, show ¬ b = 0 by omega]
/-- &, |, ^, &^ -/
theorem R.bits {op : BinOp} {T T' : TypeId} {x y : Operand} {k : IntKind} {a b : Int} (ho : o.op = .binOp op T x y T') (hop : (match op with | .and | .or | .xor | .andNot => true | _ => false) = true) (hx : ev E x = some (.int k a)) (hy : ev E y = some (.int k b)) : Run P E H o (.int k (bits op k a b)) :=
  bin_run ho hx hy fun w => by
    cases op <;> simp at hop <;> (simp only [binOp, ne_eq, not_true_eq_false, if_false]; rfl)
theorem R.shl {T T' : TypeId} {x y : Operand} {k k' : IntKind} {a b : Int} (ho : o.op = .binOp .shl T x y T') (hx : ev E x = some (.int k a)) (hy : ev E y = some (.int k' b)) (h : 0 ≤ b) : Run P E H o (.int k (k.wrap (a * 2 ^ (min b.toNat k.bits)))) :=
  bin_run ho hx hy fun w => by simp [binOp, Op.shift, Sem.run_pure, show ¬ b < 0 by omega]
theorem R.shr {T T' : TypeId} {x y : Operand} {k k' : IntKind} {a b : Int} (ho : o.op = .binOp .shr T x y T') (hx : ev E x = some (.int k a)) (hy : ev E y = some (.int k' b)) (h : 0 ≤ b) : Run P E H o (.int k (a / 2 ^ (min b.toNat k.bits))) :=
  bin_run ho hx hy fun w => by
    have : a.fdiv (2 ^ (min b.toNat k.bits)) = a / 2 ^ (min b.toNat k.bits) := Int.fdiv_eq_ediv_of_nonneg _ (by exact Int.le_of_lt (Int.pow_pos (by omega)))
    simp [binOp, Op.shift, Sem.run_pure, show ¬ b < 0 by omega, this]
theorem R.lss {T T' : TypeId} {x y : Operand} {k : IntKind} {a b : Int} (ho : o.op = .binOp .lss T x y T') (hx : ev E x = some (.int k a)) (hy : ev E y = some (.int k b)) : Run P E H o (.bool (decide (a < b))) :=
  bin_run ho hx hy fun w => by simp [binOp, Op.intCmp, Sem.run_pure]
theorem R.leq {T T' : TypeId} {x y : Operand} {k : IntKind} {a b : Int} (ho : o.op = .binOp .leq T x y T') (hx : ev E x = some (.int k a)) (hy : ev E y = some (.int k b)) : Run P E H o (.bool (decide (a ≤ b))) :=
  bin_run ho hx hy fun w => by simp [binOp, Op.intCmp, Sem.run_pure]
theorem R.gtr {T T' : TypeId} {x y : Operand} {k : IntKind} {a b : Int} (ho : o.op = .binOp .gtr T x y T') (hx : ev E x = some (.int k a)) (hy : ev E y = some (.int k b)) : Run P E H o (.bool (decide (b < a))) :=
  bin_run ho hx hy fun w => by simp [binOp, Op.intCmp, Sem.run_pure]
theorem R.geq {T T' : TypeId} {x y : Operand} {k : IntKind} {a b : Int} (ho : o.op = .binOp .geq T x y T') (hx : ev E x = some (.int k a)) (hy : ev E y = some (.int k b)) : Run P E H o (.bool (decide (b ≤ a))) :=
  bin_run ho hx hy fun w => by simp [binOp, Op.intCmp, Sem.run_pure]
theorem R.eql {T T' : TypeId} {x y : Operand} {k : IntKind} {a b : Int} (ho : o.op = .binOp .eql T x y T') (hx : ev E x = some (.int k a)) (hy : ev E y = some (.int k b)) : Run P E H o (.bool (decide (a = b))) :=
  bin_run ho hx hy fun w => by
    have : (a == b) = decide (a = b) := by cases h : decide (a = b) <;> simp at h <;> simp [h]
    simp [binOp, Op.intCmp, Sem.run_pure, this]
theorem R.neq {T T' : TypeId} {x y : Operand} {k : IntKind} {a b : Int} (ho : o.op = .binOp .neq T x y T') (hx : ev E x = some (.int k a)) (hy : ev E y = some (.int k b)) : Run P E H o (.bool (!decide (a = b))) :=
  bin_run ho hx hy fun w => by
    have : (a != b) = !decide (a = b) := by cases h : decide (a = b) <;> simp at h <;> simp [h]
    simp [binOp, Op.intCmp, Sem.run_pure, this]
theorem bin_run2 {op : BinOp} {T T' : TypeId} {x y : Operand} {a b r : Value} (ho : o.op = .binOp op T x y T') (hx : ev E x = some a) (hy : ev E y = some b)
    (hg : ∀ w, (eqGuard op T x y a b).run P w = .ok () w) (hr : ∀ w, (binOp op T a b).run P w = .ok r w) : Run P E H o r := by
  intro ρ w ha hw
  simp [execOp, ho, ha x _ hx, ha y _ hy, Sem.run_bind, Sem.run_pure, Result.andThen, hg, hr]
theorem run_equal {T : TypeId} {a b : Value} {r : Bool} {w : World} (h : (Op.equalIn (9999 + 1) T a b).run P w = .ok r w) : (Op.equal T a b).run P w = .ok r w := h
theorem R.eqlB {T T' : TypeId} {x y : Operand} {a b : Bool} (ho : o.op = .binOp .eql T x y T') (ht : P.underlying T = some .bool) (hx : ev E x = some (.bool a)) (hy : ev E y = some (.bool b)) : Run P E H o (.bool (a == b)) :=
  bin_run2 ho hx hy (fun w => by simp [eqGuard, Sem.run_pure]) fun w => by
    have h : (Op.equal T (.bool a) (.bool b)).run P w = .ok (a == b) w := run_equal (by rw [Op.equalIn]; simp [underlying, program, ht, Sem.run_bind, Sem.run_pure, Result.andThen, Sem.run])
    simp [binOp, h, Sem.run_bind, Sem.run_pure, Result.andThen]
theorem R.neqB {T T' : TypeId} {x y : Operand} {a b : Bool} (ho : o.op = .binOp .neq T x y T') (ht : P.underlying T = some .bool) (hx : ev E x = some (.bool a)) (hy : ev E y = some (.bool b)) : Run P E H o (.bool (!(a == b))) :=
  bin_run2 ho hx hy (fun w => by simp [eqGuard, Sem.run_pure]) fun w => by
    have h : (Op.equal T (.bool a) (.bool b)).run P w = .ok (a == b) w := run_equal (by rw [Op.equalIn]; simp [underlying, program, ht, Sem.run_bind, Sem.run_pure, Result.andThen, Sem.run])
    simp [binOp, h, Sem.run_bind, Sem.run_pure, Result.andThen]
/-- a pointer against nil -/
theorem R.eqlP {T T' e : TypeId} {x y : Operand} {a : Option Addr} (ho : o.op = .binOp .eql T x y T') (ht : P.underlying T = some (.pointer e)) (hx : ev E x = some (.pointer a)) (hy : ev E y = some (.pointer none)) : Run P E H o (.bool a.isNone) :=
  bin_run2 ho hx hy (fun w => by simp [eqGuard, Sem.run_pure]) fun w => by
    have h : (Op.equal T (.pointer a) (.pointer none)).run P w = .ok a.isNone w := run_equal (by rw [Op.equalIn]; cases a <;> simp [underlying, program, ht, Sem.run_bind, Sem.run_pure, Result.andThen, Sem.run])
    simp [binOp, h, Sem.run_bind, Sem.run_pure, Result.andThen]
theorem R.neqP {T T' e : TypeId} {x y : Operand} {a : Option Addr} (ho : o.op = .binOp .neq T x y T') (ht : P.underlying T = some (.pointer e)) (hx : ev E x = some (.pointer a)) (hy : ev E y = some (.pointer none)) : Run P E H o (.bool (!a.isNone)) :=
  bin_run2 ho hx hy (fun w => by simp [eqGuard, Sem.run_pure]) fun w => by
    have h : (Op.equal T (.pointer a) (.pointer none)).run P w = .ok a.isNone w := run_equal (by rw [Op.equalIn]; cases a <;> simp [underlying, program, ht, Sem.run_bind, Sem.run_pure, Result.andThen, Sem.run])
    simp [binOp, h, Sem.run_bind, Sem.run_pure, Result.andThen]
/-- a slice against nil -/
theorem R.eqlS {T T' e : TypeId} {x y : Operand} {a : Option Addr} {n c : Nat} (ho : o.op = .binOp .eql T x y T') (ht : P.underlying T = some (.slice e)) (hx : ev E x = some (.slice a n c)) (hy : ev E y = some (.slice none 0 0)) : Run P E H o (.bool a.isNone) :=
  bin_run2 ho hx hy (fun w => by simp [eqGuard, Sem.run_pure]) fun w => by
    have h : (Op.equal T (.slice a n c) (.slice none 0 0)).run P w = .ok a.isNone w := run_equal (by rw [Op.equalIn]; cases a <;> simp [underlying, program, ht, Sem.run_bind, Sem.run_pure, Result.andThen, Sem.run])
    simp [binOp, h, Sem.run_bind, Sem.run_pure, Result.andThen]
theorem R.neqS {T T' e : TypeId} {x y : Operand} {a : Option Addr} {n c : Nat} (ho : o.op = .binOp .neq T x y T') (ht : P.underlying T = some (.slice e)) (hx : ev E x = some (.slice a n c)) (hy : ev E y = some (.slice none 0 0)) : Run P E H o (.bool (!a.isNone)) :=
  bin_run2 ho hx hy (fun w => by simp [eqGuard, Sem.run_pure]) fun w => by
    have h : (Op.equal T (.slice a n c) (.slice none 0 0)).run P w = .ok a.isNone w := run_equal (by rw [Op.equalIn]; cases a <;> simp [underlying, program, ht, Sem.run_bind, Sem.run_pure, Result.andThen, Sem.run])
    simp [binOp, h, Sem.run_bind, Sem.run_pure, Result.andThen]
theorem R.eqlStr {T T' : TypeId} {x y : Operand} {a b : ByteArray} (ho : o.op = .binOp .eql T x y T') (hx : ev E x = some (.string a)) (hy : ev E y = some (.string b)) : Run P E H o (.bool (a.toList == b.toList)) :=
  bin_run2 ho hx hy (fun w => by simp [eqGuard, Sem.run_pure]) fun w => by simp [binOp, Op.stringOp, Sem.run_pure]
theorem R.neqStr {T T' : TypeId} {x y : Operand} {a b : ByteArray} (ho : o.op = .binOp .neq T x y T') (hx : ev E x = some (.string a)) (hy : ev E y = some (.string b)) : Run P E H o (.bool (!(a.toList == b.toList))) :=
  bin_run2 ho hx hy (fun w => by simp [eqGuard, Sem.run_pure]) fun w => by simp [binOp, Op.stringOp, Sem.run_pure]
theorem R.convI {S D : TypeId} {x : Operand} {k k' : IntKind} {a : Int} {ds : TypeDesc} (ho : o.op = .convert S D x) (hs : P.underlying S = some ds) (hd : P.underlying D = some (.int k')) (hx : ev E x = some (.int k a)) (h : InR k' a) : Run P E H o (.int k' a) := by
  intro ρ w ha hw
  simp [execOp, ho, ha x _ hx, convert, underlying, program, hs, hd, Conv.intToInt, Sem.run_bind, Sem.run_pure, Result.andThen, Sem.run, wrap_in h]
theorem R.convW {S D : TypeId} {x : Operand} {k k' : IntKind} {a : Int} {ds : TypeDesc} (ho : o.op = .convert S D x) (hs : P.underlying S = some ds) (hd : P.underlying D = some (.int k')) (hx : ev E x = some (.int k a)) : Run P E H o (.int k' (k'.wrap a)) := by
  intro ρ w ha hw
  simp [execOp, ho, ha x _ hx, convert, underlying, program, hs, hd, Conv.intToInt, Sem.run_bind, Sem.run_pure, Result.andThen, Sem.run]

/-! ### memory that is read -/
def isAggD : TypeDesc → Bool
  | .struct _ | .array _ _ => true
  | _ => false
theorem cell_w {w : World} {H : Heap} (hw : w.heap = H) (p : Addr) : w.cell? p = cellH H p := by subst hw; rfl
theorem R.load {T : TypeId} {x : Operand} {p : Addr} {ds : TypeDesc} (ho : o.op = .load T x) (ht : P.underlying T = some ds) (hd : isAggD ds = false) (hx : ev E x = some (.pointer (some p))) (hc : cellH H p = some v) : Run P E H o v := by
  intro ρ w ha hw
  have h1 : w.cell? p = some v := by rw [cell_w hw]; exact hc
  have h2 : (isAgg T).run P w = .ok false w := by
    cases ds <;> simp [isAggD] at hd <;> simp [isAgg, underlying, program, ht, Sem.run_bind, Sem.run_pure, Result.andThen, Sem.run]
  simp [execOp, ho, ha x _ hx, Instr.loadAt, Instr.sureAddr, loadVar, Sem.run_bind, Sem.run_pure, Result.andThen, h2, load, Sem.run, h1]
/-- the cells from a place on -/
def CellsH (H : Heap) (p : Addr) (cs : List Value) : Prop := ∀ i v, nth cs i = some v → cellH H (p.add i) = some v
theorem cells_of {H : Heap} {g : Nat} {cs : List Value} {t : TypeId} {z : Nat × Nat} (hb : H[g]? = some (.cells cs.toArray t z)) : CellsH H ⟨g, 0, none⟩ cs := by
  intro i v hv
  have h := cell_of (i := i) hb hv
  unfold Addr.add
  split
  · next h0 => subst h0; exact h
  · simpa using h
theorem Old.cells {A B : Heap} (h : Old A B) {a : Addr} {cs : List Value} (hc : CellsH A a cs) : CellsH B a cs := fun i v hv => h.cell (hc i v hv)
theorem R.loadAgg {T : TypeId} {x : Operand} {p : Addr} {ds : TypeDesc} {cs : List Value} {m : Nat} (ho : o.op = .load T x) (ht : P.underlying T = some ds) (hd : isAggD ds = true) (hs : (P.info? T).map (·.size) = some m) (hx : ev E x = some (.pointer (some p))) (hc : CellsH H p cs) (hm : cs.length = m) : Run P E H o (.agg cs.toArray) := by
  subst hm
  intro ρ w ha hw
  have h2 : (isAgg T).run P w = .ok true w := by
    cases ds <;> simp [isAggD] at hd <;> simp [isAgg, underlying, program, ht, Sem.run_bind, Sem.run_pure, Result.andThen, Sem.run]
  have h3 := run_loadCells_list (P := P) (w := w) p cs (fun j u hj => by rw [cell_w hw]; exact hc j u (by rw [nth_eq]; exact hj))
  cases hq : P.info? T with
  | none => simp [hq] at hs
  | some i =>
    simp [hq] at hs
    simp [execOp, ho, ha x _ hx, Instr.loadAt, Instr.sureAddr, loadVar, Sem.run_bind, Sem.run_pure, Result.andThen, h2, sizeOf, typeInfo, program, Sem.run, hq, hs, h3]

theorem R.fieldAddr {S : TypeId} {x : Operand} {f g off k sz : Nat} {fields : Array Field} {fd : Field} (ho : o.op = .fieldAddr S x f) (ht : P.underlying S = some (.struct fields)) (hf : nth fields.toList f = some fd) (hk : fd.offset = k) (hs : (P.info? fd.type).map (·.size) = some (sz + 1)) (hx : ev E x = some (.pointer (some ⟨g, off, none⟩))) : Run P E H o (.pointer (some ⟨g, off + k, none⟩)) := by
  intro ρ w ha hw
  subst hk
  rw [nth_eq] at hf
  have hf' : fields[f]? = some fd := by simpa using hf
  cases hq : P.info? fd.type with
  | none => simp [hq] at hs
  | some i =>
    simp [hq] at hs
    have : (Addr.mk g off none).add fd.offset = ⟨g, off + fd.offset, none⟩ := by unfold Addr.add; split <;> simp_all
    simp [execOp, ho, ha x _ hx, Instr.fieldAt, Instr.sureAddr, underlying, program, ht, hf', fieldPlace, sizeOf, typeInfo, hq, hs, Sem.run_bind, Sem.run_pure, Result.andThen, Sem.run, this]
theorem R.fieldAddrP {S : TypeId} {x : Operand} {f k sz : Nat} {p : Addr} {fields : Array Field} {fd : Field} (ho : o.op = .fieldAddr S x f) (ht : P.underlying S = some (.struct fields)) (hf : nth fields.toList f = some fd) (hk : fd.offset = k) (hs : (P.info? fd.type).map (·.size) = some (sz + 1)) (hx : ev E x = some (.pointer (some p))) : Run P E H o (.pointer (some (p.add k))) := by
  intro ρ w ha hw
  subst hk
  rw [nth_eq] at hf
  have hf' : fields[f]? = some fd := by simpa using hf
  cases hq : P.info? fd.type with
  | none => simp [hq] at hs
  | some i =>
    simp [hq] at hs
    simp [execOp, ho, ha x _ hx, Instr.fieldAt, Instr.sureAddr, underlying, program, ht, hf', fieldPlace, sizeOf, typeInfo, hq, hs, Sem.run_bind, Sem.run_pure, Result.andThen, Sem.run]
/-- field of a struct that is a value: one cell -/
theorem R.field {S : TypeId} {x : Operand} {f : Nat} {cs : Array Value} {fields : Array Field} {fd : Field} {ds : TypeDesc} (ho : o.op = .field S x f) (ht : P.underlying S = some (.struct fields)) (hf : nth fields.toList f = some fd) (hd : P.underlying fd.type = some ds) (ha' : isAggD ds = false) (hx : ev E x = some (.agg cs)) (hv : nth cs.toList fd.offset = some v) : Run P E H o v := by
  intro ρ w ha hw
  rw [nth_eq] at hf hv
  have hf' : fields[f]? = some fd := by simpa using hf
  have hv' : cs[fd.offset]? = some v := by simpa using hv
  have h2 : (isAgg fd.type).run P w = .ok false w := by
    cases ds <;> simp [isAggD] at ha' <;> simp [isAgg, underlying, program, hd, Sem.run_bind, Sem.run_pure, Result.andThen, Sem.run]
  simp [execOp, ho, ha x _ hx, Instr.field, underlying, program, ht, hf', part, asAgg, h2, hv', Sem.run_bind, Sem.run_pure, Result.andThen, Sem.run]

/-! ### slices and strings -/
theorem R.len {T e ty : TypeId} {x : Operand} {a : Option Addr} {l c : Nat} (ho : o.op = .call { callee := .builtin .len, args := #[x], argTypes := #[T] }) (ht : P.underlying T = some (.slice e)) (hx : ev E x = some (.slice a l c)) : Run P E H o (.int .i64 l) := by
  intro ρ w ha hw
  simp [execOp, ho, resolve, invoke, builtin, Builtin.len_, ha x _ hx, underlying, program, ht, goInt, Sem.run_bind, Sem.run_pure, Result.andThen, Sem.run]
theorem R.lenStr {T ty : TypeId} {x : Operand} {s : ByteArray} (ho : o.op = .call { callee := .builtin .len, args := #[x], argTypes := #[T] }) (ht : P.underlying T = some .string) (hx : ev E x = some (.string s)) : Run P E H o (.int .i64 s.size) := by
  intro ρ w ha hw
  simp [execOp, ho, resolve, invoke, builtin, Builtin.len_, ha x _ hx, underlying, program, ht, goInt, Sem.run_bind, Sem.run_pure, Result.andThen, Sem.run]
theorem R.max {T T' : TypeId} {x y : Operand} {k k' : IntKind} {a b : Int} (ho : o.op = .call { callee := .builtin .max, args := #[x, y], argTypes := #[T, T'] }) (hx : ev E x = some (.int k a)) (hy : ev E y = some (.int k' b)) : Run P E H o (.int k (Max.max a b)) := by
  intro ρ w ha hw
  have : (if a < b then b else a) = Max.max a b := by rw [Int.max_def]; split <;> split <;> omega
  simp [execOp, ho, resolve, invoke, builtin, Builtin.max_, Builtin.max2, ha x _ hx, ha y _ hy, Sem.run_bind, Sem.run_pure, Result.andThen, Sem.run, List.foldlM, this]
theorem R.min {T T' : TypeId} {x y : Operand} {k k' : IntKind} {a b : Int} (ho : o.op = .call { callee := .builtin .min, args := #[x, y], argTypes := #[T, T'] }) (hx : ev E x = some (.int k a)) (hy : ev E y = some (.int k' b)) : Run P E H o (.int k (Min.min a b)) := by
  intro ρ w ha hw
  have : (if b < a then b else a) = Min.min a b := by rw [Int.min_def]; split <;> split <;> omega
  simp [execOp, ho, resolve, invoke, builtin, Builtin.min_, Builtin.min2, ha x _ hx, ha y _ hy, Sem.run_bind, Sem.run_pure, Result.andThen, Sem.run, List.foldlM, this]
end
end Go.Proofs.Yticnkojpfmkjeaa
