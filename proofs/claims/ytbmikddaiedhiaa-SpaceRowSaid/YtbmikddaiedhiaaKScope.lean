/- Scopes without a goto, labels, and results of which the first one lies in memory, in the logic K. No condition. -/
import Derived.Test.YtbmikddaiedhiaaKArr
import Derived.Scope
namespace Go.Proofs.Ytbmikddaiedhiaa
open Go Go.RowKit
set_option linter.unusedVariables false
set_option linter.unusedSimpArgs false
section
variable {P : Program} {n : Nat} {W0 : World} {Q : Exit → Act → World → Prop} {E : Env} {H : Heap}
theorem KC.label {l : Nat} (h : KQ n W0 Q .normal E H) : KC P n W0 Q (.label l) E H := fun a w ha hw => wp_label (h a w ha hw)
theorem KC.scope {c : Code} (h : KC P n W0 (Exit.noGoto Q) c E H) : KC P n W0 Q (.scope c) E H := fun a w ha hw => wp_scope_straight (h a w ha hw)
theorem KQ.normScope (h : KQ n W0 Q .normal E H) : KQ n W0 (Exit.noGoto Q) .normal E H := h
theorem KQ.exitScope {id : Nat} (h : KQ n W0 Q (.exit id) E H) : KQ n W0 (Exit.noGoto Q) (.exit id) E H := h
theorem KQ.panScope {ch : List PanicEntry} (h : KQ n W0 Q (.panic ch) E H) : KQ n W0 (Exit.noGoto Q) (.panic ch) E H := h
theorem KQ.retScope (h : KQ n W0 Q .ret E H) : KQ n W0 (Exit.noGoto Q) .ret E H := h
theorem KQ.finCell2 {fn : Func} {R : Value → Heap → Prop} {t T u : Nat} {cs : List Value} {x : Value} {p : Addr} {ds : TypeDesc} {m : Nat} (hr : fn.results = #[.cell t T, .tmp u]) (ht : get E t = some (.pointer (some p))) (hu : P.underlying T = some ds) (hd : isAggD ds = true) (hs : (P.info? T).map (·.size) = some m) (hc : CellsH H p cs) (hm : cs.length = m) (hx : get E u = some x) (hR : R (.tuple #[.agg cs.toArray, x]) H) : KQ n W0 (Post P fn W0 R) .normal E H :=
  KQ.fin _ (fun a w ha hw => by
    subst hm
    have h1 := ha.val t _ ht
    have h4 := ha.val u _ hx
    have h2 : (isAgg T).run P w = .ok true w := by
      cases ds <;> simp [isAggD] at hd <;> simp [isAgg, underlying, program, hu, Sem.run_bind, Sem.run_pure, Result.andThen, Sem.run]
    have h3 := run_loadCells_list (P := P) (w := w) p cs (fun j u hj => by rw [cell_w hw]; exact hc j u (by rw [nth_eq]; exact hj))
    unfold loadCells at h3
    cases hq : P.info? T with
    | none => simp [hq] at hs
    | some i =>
      simp [hq] at hs
      simp [results, hr, go_sem, Array.getD_eq_getD_getElem?, h1, h4, asAddr, loadVar, Sem.run_bind, Sem.run_pure, Result.andThen, h2, sizeOf, typeInfo, program, Sem.run, hq, hs, h3]) hR
end
end Go.Proofs.Ytbmikddaiedhiaa
