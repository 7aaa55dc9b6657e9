/- CostRound: the sum of two lists, one behind the other. No condition. -/
import Derived.Test.YtlnofmgelkohoaaCostKnown
import Derived.Test.YtlnofmgelkohoaaSlApp
namespace Go.Proofs.Ytlnofmgelkohoaa
open Go.RowKit
set_option linter.unusedVariables false

theorem Cost.sum_left (l m : List Ins) (k : Nat) (h : k ≤ l.length) : Cost.sum (l ++ m) k = Cost.sum l k := by
  induction k with
  | zero => rfl
  | succ k ih =>
    show Cost.sum (l ++ m) k + Cost.of ((l ++ m).getD k default).op = Cost.sum l k + Cost.of (l.getD k default).op
    rw [ih (by omega), List.getD_eq_getElem?_getD, List.getD_eq_getElem?_getD, List.getElem?_append_left (by omega)]
theorem Cost.sum_right (l m : List Ins) (k : Nat) : Cost.sum (l ++ m) (l.length + k) = Cost.sum l l.length + Cost.sum m k := by
  induction k with
  | zero => rw [Nat.add_zero, Cost.sum_left l m _ (Nat.le_refl _)]; simp [Cost.sum]
  | succ k ih =>
    show Cost.sum (l ++ m) (l.length + k) + Cost.of ((l ++ m).getD (l.length + k) default).op = Cost.sum l l.length + (Cost.sum m k + Cost.of (m.getD k default).op)
    rw [ih, List.getD_eq_getElem?_getD, List.getD_eq_getElem?_getD, List.getElem?_append_right (by omega), Nat.add_sub_cancel_left]
    omega
theorem Cost.sum_app (l m : List Ins) : Cost.sum ([] ++ l ++ m) ([] ++ l ++ m).length = Cost.sum l l.length + Cost.sum m m.length := by
  rw [List.nil_append, List.length_append]; exact Cost.sum_right l m _

end Go.Proofs.Ytlnofmgelkohoaa
