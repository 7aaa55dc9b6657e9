/- Deferred functions that begin with 'recover' alone; two results in memory. No condition but those that each law states. -/
import Derived.Test.YticnkojpfmkjeaaKDef
namespace Go.Proofs.Yticnkojpfmkjeaa
open Go Go.RowKit
set_option linter.unusedVariables false
set_option linter.unusedSimpArgs false
section
variable {P : Program} {n d : Nat} {W0 : World} {Q : Exit → Act → World → Prop} {ops rest : List Oper} {o : Oper} {E : Env} {H : Heap} {v : Value} {D : List Deferred}
theorem CtDef.mk1 {f : FuncId} {fn : Func} {c : Code} {o0 : Oper} {id d0 : Nat} {args : List Value} {u u' : FrameMode} {R : FrameMode → Heap → Prop} {ts : Array TypeId} {r : Value} (hf : P.funcs[f]? = some fn) (hb : fn.body = some (.seq (.region id #[o0] false) c)) (hn : fn.ntmps = n) (hle : Nat.ble args.length n = true)
    (h0 : o0.op = .call { callee := .builtin .recover, args := #[], argTypes := ts }) (g0 : o0.guard = none) (e0 : o0.dst = some d0) (l0 : Nat.blt d0 n = true) (hu : Recov u r u')
    (h : ∀ W0 : World, W0.heap = H → KC P n W0 (Post P fn W0 (fun _ H' => R u' H')) c ((d0, r) :: argEnv 0 args) H) : CtDef P f args H u R := by
  intro w hw
  have hle' : args.length ≤ n := by simpa using hle
  refine callsD_of_wpS hf hb fun c₀ cs hc => ?_
  refine wpS_seq (wpS_region ?_)
  have hr : Rep n (argEnv 0 args) { tmps := args.toArray ++ Array.replicate (fn.ntmps - args.toArray.size) undef, defers := [] } := by
    refine ⟨rfl, by simp [hn]; omega, ?_⟩
    intro t v ht
    rw [get_argEnv] at ht
    simp only [Nat.not_lt_zero, if_false, Nat.sub_zero] at ht
    have hlt := (List.getElem?_eq_some_iff.1 ht).1
    rw [Array.getElem?_append_left (by simpa using hlt)]
    simpa using ht
  generalize hA : ({ tmps := args.toArray ++ Array.replicate (fn.ntmps - args.toArray.size) undef, defers := [] } : Act) = A at hr ⊢
  have r0 : (execOp A.eval o0).run P w = .ok .recover w := by
    simp [execOp, h0, resolve, invoke, builtin, Sem.run_bind, Sem.run_pure, Result.andThen]
  have hr0 := hr.put l0 r
  have fin : ∀ cs', cs' = { c₀ with mode := u' } :: cs → Exit.thenS (c.wpS P (bodyPostS P fn c₀ cs (fun e u' w' => ∃ v, e = .returned v ∧ St w w'.heap w' ∧ R u' w'.heap))) (bodyPostS P fn c₀ cs (fun e u' w' => ∃ v, e = .returned v ∧ St w w'.heap w' ∧ R u' w'.heap)) .normal (A.put (some d0) r) cs' w := by
    intro cs' hcs
    show c.wpS P _ _ cs' w
    refine wpS_of_wp ?_
    refine Code.wp_mono ?_ (h w hw _ w hr0 ⟨hw, rfl, rfl, rfl⟩)
    intro e a' w' hq
    cases e with
    | normal => obtain ⟨hd, v, hv, hR⟩ := hq; obtain ⟨v', he, hs, hR⟩ := hR; exact ⟨hd, u', hcs, v, hv, v', he, hs, hR⟩
    | ret => obtain ⟨hd, v, hv, hR⟩ := hq; obtain ⟨v', he, hs, hR⟩ := hR; exact ⟨hd, u', hcs, v, hv, v', he, hs, hR⟩
    | panic ch => obtain ⟨hd, v', he, _⟩ := hq; cases he
    | exit id => exact hq.elim
    | goto l => exact hq.elim
    | outgrown => obtain ⟨v', he, _⟩ := hq; cases he
  have w0 : ∀ t, Region.wanted o0 t = true := fun t => by simp [Region.wanted, g0]
  have es : (#[o0] : Array Oper).size = 1 := rfl
  rw [es, show List.range 1 = [0] from rfl]
  unfold wpOpsS
  simp only [show (#[o0] : Array Oper)[0]? = some o0 from rfl, w0, if_true, r0]
  subst hc
  cases hm : c₀.mode with
  | run => rw [hm] at hu; exact hu.elim
  | returning =>
    rw [hm] at hu
    obtain ⟨rfl, rfl⟩ := hu
    simp only [recoverD, hm]
    rw [e0]
    exact fin _ (by rw [← hm])
  | panicking ch =>
    rw [hm] at hu
    obtain ⟨rfl, rfl⟩ := hu
    simp only [recoverD, hm, Pan]
    rw [e0]
    exact fin _ rfl
theorem results_cells2 {fn : Func} {a : Act} {w : World} {t1 t2 : Nat} {T1 T2 : TypeId} {p1 p2 : Addr} {v1 v2 : Value} (ha : Rep n E a) (hr : fn.results = #[.cell t1 T1, .cell t2 T2])
    (g1 : get E t1 = some (.pointer (some p1))) (g2 : get E t2 = some (.pointer (some p2)))
    (l1 : (loadVar T1 p1).run P w = .ok v1 w) (l2 : (loadVar T2 p2).run P w = .ok v2 w) : (results fn a.tmps).run P w = .ok (.tuple #[v1, v2]) w := by
  have h1 := ha.val t1 _ g1
  have h2 := ha.val t2 _ g2
  simp [results, hr, List.mapM_toArray, Array.getD_eq_getD_getElem?, h1, h2, asAddr, Sem.run_bind, Sem.run_pure, Sem.run_map, Result.andThen, l1, l2]
theorem R.eqlNilI {T : TypeId} {x : Operand} {ds : TypeDesc} (ho : o.op = .binOp .eql T x (.const .nilIface) T) (ht : P.underlying T = some ds) (hd : isIface ds = true) (hx : ev E x = some v) (hv : v = .nilIface ∨ ∃ S u, v = .iface S u) : Run P E H o (.bool (!notNil v)) := by
  intro ρ w ha hw
  have h1 := ha x _ hx
  cases ds <;> simp [isIface] at hd
  have h2 : ρ (.const .nilIface) = .nilIface := ha _ _ rfl
  rcases hv with rfl | ⟨S, u, rfl⟩
  · have h : (Op.equal T .nilIface .nilIface).run P w = .ok true w := run_equal (by rw [Op.equalIn]; simp [underlying, program, ht, Sem.run_bind, Sem.run_pure, Result.andThen, Sem.run])
    simp [execOp, ho, h1, h2, notNil, binOp, eqGuard, h, Sem.run_bind, Sem.run_pure, Result.andThen]
  · have h : (Op.equal T (.iface S u) .nilIface).run P w = .ok false w := run_equal (by rw [Op.equalIn]; simp [underlying, program, ht, Sem.run_bind, Sem.run_pure, Result.andThen, Sem.run])
    simp [execOp, ho, h1, h2, notNil, binOp, eqGuard, h, Sem.run_bind, Sem.run_pure, Result.andThen]
end
end Go.Proofs.Yticnkojpfmkjeaa
