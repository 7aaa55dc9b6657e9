/- The logic of walks: structs compared; a struct out of a struct. No condition but those that each law states. -/
import Derived.Test.YtokidabnjodglaaKRow
import Derived.Laws.StructEq
namespace Go.Proofs.Ytokidabnjodglaa
open Go Go.RowKit
set_option linter.unusedVariables false
set_option linter.unusedSimpArgs false
section
variable {P : Program} {E : Env} {H : Heap} {o : Oper}
/-- two structs' fields are alike, or not -/
inductive EqFs (P : Program) (xs ys : Array Value) : List Field → Bool → Prop
  | nil : EqFs P xs ys [] true
  | int {f : Field} {fs : List Field} {k k' : IntKind} {a b : Int} {r : Bool} (hn : f.name ≠ "_") (hu : P.underlying f.type = some (.int k')) (hx : nth xs.toList f.offset = some (.int k a)) (hy : nth ys.toList f.offset = some (.int k b)) (h : EqFs P xs ys fs r) : EqFs P xs ys (f :: fs) (decide (a = b) && r)
  | bool {f : Field} {fs : List Field} {a b : Bool} {r : Bool} (hn : f.name ≠ "_") (hu : P.underlying f.type = some .bool) (hx : nth xs.toList f.offset = some (.bool a)) (hy : nth ys.toList f.offset = some (.bool b)) (h : EqFs P xs ys fs r) : EqFs P xs ys (f :: fs) ((a == b) && r)
theorem part_one {t : TypeId} {ds : TypeDesc} {cs : Array Value} {i : Nat} {v : Value} (hu : P.underlying t = some ds) (hd : isAggD ds = false) (hv : nth cs.toList i = some v) (w : World) : (part t cs i).run P w = .ok v w := by
  have h2 : (isAgg t).run P w = .ok false w := by
    cases ds <;> simp [isAggD] at hd <;> simp [isAgg, underlying, program, hu, Sem.run_bind, Sem.run_pure, Result.andThen, Sem.run]
  rw [nth_eq] at hv
  have hv' : cs[i]? = some v := by simpa using hv
  simp [part, h2, hv', Sem.run_bind, Sem.run_pure, Result.andThen]
theorem EqFs.run {xs ys : Array Value} {fs : List Field} {r : Bool} (h : EqFs P xs ys fs r) (d : Nat) (w : World) : (Op.eqFields (d + 1) xs ys fs).run P w = .ok r w := by
  induction h with
  | nil => simp [Op.eqFields, Sem.run_pure]
  | @int f fs k k' a b r hn hu hx hy h ih =>
    have e : (a == b) = decide (a = b) := rfl
    simp only [Op.eqFields, hn, ne_eq, not_false_eq_true, if_true, Sem.run_bind, part_one hu rfl hx, part_one hu rfl hy, run_equalIn_int w d _ k k' a b hu, Result.andThen_ok, e]
    by_cases hc : a = b
    · simp [hc, ih]
    · simp [hc, Sem.run_pure]
  | @bool f fs a b r hn hu hx hy h ih =>
    simp only [Op.eqFields, hn, ne_eq, not_false_eq_true, if_true, Sem.run_bind, part_one hu rfl hx, part_one hu rfl hy, run_equalIn_bool' w d _ a b hu, Result.andThen_ok]
    cases hc : (a == b)
    · simp [Sem.run_pure]
    · simp [ih]
theorem R.eqlSt {T T' : TypeId} {x y : Operand} {xs ys : Array Value} {fs : Array Field} {r : Bool} (ho : o.op = .binOp .eql T x y T') (ht : P.underlying T = some (.struct fs)) (hst : P.stoodInHeld T = false) (hG : P.eqGuardType P.depth T = false) (hx : ev E x = some (.agg xs)) (hy : ev E y = some (.agg ys)) (hf : EqFs P xs ys fs.toList r) : Run P E H o (.bool r) := by
  intro ρ w ha hw
  have e : P.fieldsOf T = fs := by simp [Program.fieldsOf, ht]
  have h1 : (Op.equal T (.agg xs) (.agg ys)).run P w = .ok r w := by
    show (Op.equalIn (9999 + 1) T _ _).run P w = _
    rw [run_equalIn_struct w 9999 T xs ys (by rw [e]; exact ht) hst, e]
    exact hf.run 9998 w
  simp [execOp, ho, ha x _ hx, ha y _ hy, run_eqGuard_agg w _ T x y xs ys hG, binOp, program, h1, Sem.run_bind, Sem.run_pure, Result.andThen, Sem.run]
theorem R.neqSt {T T' : TypeId} {x y : Operand} {xs ys : Array Value} {fs : Array Field} {r : Bool} (ho : o.op = .binOp .neq T x y T') (ht : P.underlying T = some (.struct fs)) (hst : P.stoodInHeld T = false) (hG : P.eqGuardType P.depth T = false) (hx : ev E x = some (.agg xs)) (hy : ev E y = some (.agg ys)) (hf : EqFs P xs ys fs.toList r) : Run P E H o (.bool (!r)) := by
  intro ρ w ha hw
  have e : P.fieldsOf T = fs := by simp [Program.fieldsOf, ht]
  have h1 : (Op.equal T (.agg xs) (.agg ys)).run P w = .ok r w := by
    show (Op.equalIn (9999 + 1) T _ _).run P w = _
    rw [run_equalIn_struct w 9999 T xs ys (by rw [e]; exact ht) hst, e]
    exact hf.run 9998 w
  simp [execOp, ho, ha x _ hx, ha y _ hy, run_eqGuard_agg w _ T x y xs ys hG, binOp, program, h1, Sem.run_bind, Sem.run_pure, Result.andThen, Sem.run]
/-- a struct or array out of a struct that is a value -/
theorem R.fieldAgg {S : TypeId} {x : Operand} {f m : Nat} {cs : Array Value} {us : List Value} {fields : Array Field} {fd : Field} {ds : TypeDesc} (ho : o.op = .field S x f) (ht : P.underlying S = some (.struct fields)) (hf : nth fields.toList f = some fd) (hd : P.underlying fd.type = some ds) (ha' : isAggD ds = true) (hs : (P.info? fd.type).map (·.size) = some m) (hx : ev E x = some (.agg cs)) (hv : cs.extract fd.offset (fd.offset + m) = us.toArray) : Run P E H o (.agg us.toArray) := by
  intro ρ w ha hw
  rw [nth_eq] at hf
  have hf' : fields[f]? = some fd := by simpa using hf
  have h2 : (isAgg fd.type).run P w = .ok true w := by
    cases ds <;> simp [isAggD] at ha' <;> simp [isAgg, underlying, program, hd, Sem.run_bind, Sem.run_pure, Result.andThen, Sem.run]
  cases hq : P.info? fd.type with
  | none => simp [hq] at hs
  | some i =>
    simp [hq] at hs
    simp [execOp, ho, ha x _ hx, Instr.field, underlying, program, ht, hf', part, asAgg, h2, sizeOf, typeInfo, hq, hs, hv, Sem.run_bind, Sem.run_pure, Result.andThen, Sem.run]
end
end Go.Proofs.Ytokidabnjodglaa
