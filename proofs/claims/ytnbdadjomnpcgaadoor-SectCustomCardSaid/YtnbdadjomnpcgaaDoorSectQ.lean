/- Sections, in plain Lean: what a walk over sections needs, step by step. No condition but those that each law states. -/
import Derived.Test.YtnbdadjomnpcgaaDoorSectP
import Derived.Test.YtnbdadjomnpcgaaDoorKOut
namespace Go.Proofs.YtnbdadjomnpcgaaDoor
open Go Go.RowKit
set_option linter.unusedVariables false
set_option linter.unusedSimpArgs false
theorem take_succ_getD {α : Type} [Inhabited α] {l : List α} {k : Nat} (h : k < l.length) : l.take (k + 1) = l.take k ++ [l.getD k default] := by
  rw [List.take_add_one, List.getD_eq_getElem?_getD, List.getElem?_eq_getElem h]; rfl
theorem take_eq_step {α : Type} [Inhabited α] {a b : List α} {k : Nat} (ha : k < a.length) (hb : k < b.length) (h : a.take k = b.take k) (e : a.getD k default = b.getD k default) : a.take (k + 1) = b.take (k + 1) := by
  rw [take_succ_getD ha, take_succ_getD hb, h, e]
theorem take_eq_all {α : Type} {a b : List α} {k : Nat} (ha : a.length ≤ k) (hb : a.length = b.length) (h : a.take k = b.take k) : a = b := by
  rwa [List.take_of_length_le ha, List.take_of_length_le (by omega)] at h
theorem getD0_drop {α : Type} [Inhabited α] (l : List α) (k : Nat) : (l.drop k).getD 0 default = l.getD k default := by
  simp [List.getD_eq_getElem?_getD]
theorem ne_getD {α : Type} [Inhabited α] {a b : List α} (k : Nat) (h : a.getD k default ≠ b.getD k default) : a ≠ b := fun e => h (by rw [e])
namespace Sc
theorem rise_step {l : List Sec} {k : Nat} (h : k < l.length) : rise 0 (l.take (k + 1)) = (rise 0 (l.take k) && decide (lst 0 (l.take k) < (l.getD k default).1 ∧ (l.getD k default).1 ≤ 11)) := by
  rw [take_succ_getD h, rise_app]; simp [rise]
theorem lst_step {l : List Sec} {k : Nat} (h : k < l.length) : lst 0 (l.take (k + 1)) = (l.getD k default).1 := by
  rw [take_succ_getD h, lst_app]; rfl
theorem lst_prev {l : List Sec} {k : Nat} (h0 : 0 < k) (h : k ≤ l.length) : lst 0 (l.take k) = (l.getD (k - 1) default).1 := by
  obtain ⟨j, rfl⟩ : ∃ j, k = j + 1 := ⟨k - 1, by omega⟩
  rw [lst_step (by omega)]; rfl
theorem body_step {l : List Sec} {k : Nat} (h : k < l.length) : body (l.take (k + 1)) = body (l.take k) ++ ([(l.getD k default).1] ++ Lb.ap ((l.getD k default).2.length : Int) ++ (l.getD k default).2) := by
  rw [take_succ_getD h, body_app]; simp [body]
theorem body_le (l : List Sec) (k : Nat) : (body (l.take k)).length ≤ (body l).length := by
  conv => rhs; rw [← List.take_append_drop k l, body_app, List.length_append]
  omega
theorem rise_no {l : List Sec} {k : Nat} (h : rise 0 (l.take k) = false) : rise 0 l = false := by
  rw [← List.take_append_drop k l, rise_app, h, Bool.false_and]
theorem join_no {l : List Sec} {k : Nat} (h : k < l.length) (hb : ¬ (lst 0 (l.take k) < (l.getD k default).1 ∧ (l.getD k default).1 ≤ 11)) : join l = none := by
  unfold join
  rw [if_neg]
  rw [rise_no (k := k + 1) (by rw [rise_step h, decide_eq_false hb, Bool.and_false])]; simp
theorem join_yes {l : List Sec} {k : Nat} (h : l.length ≤ k) (hr : rise 0 (l.take k) = true) : join l = some (beg ++ body (l.take k)) := by
  rw [List.take_of_length_le h] at *
  unfold join; rw [if_pos hr]
theorem rise_yes {l : List Sec} {k : Nat} (h : k < l.length) (hr : rise 0 (l.take k) = true) (hb : lst 0 (l.take k) < (l.getD k default).1 ∧ (l.getD k default).1 ≤ 11) : rise 0 (l.take (k + 1)) = true := by
  rw [rise_step h, hr, decide_eq_true hb]; rfl
/-- what a joining hands back -/
def JRes (o : Option (List Int)) (bad good : Value) (u : Value) (H : Heap) : Prop := match o with
  | none => u = .tuple #[.slice none 0 0, bad]
  | some m => ∃ v, u = .tuple #[v, good] ∧ Sl 1 (EInt .u8) H v m
theorem body_bytes {l : List Sec} {k : Nat} (h : k < l.length) : (body (l.take k)).length + 1 + (Lb.ap ((l.getD k default).2.length : Int)).length + (l.getD k default).2.length = (body (l.take (k + 1))).length := by
  rw [body_step h]; simp only [List.length_append, List.length_cons, List.length_nil]; omega
/-- the entries and the bytes of sections -/
def wt : List Sec → Nat
  | [] => 0
  | s :: l => 1 + s.2.length + wt l
theorem wt_app (l m : List Sec) : wt (l ++ m) = wt l + wt m := by
  induction l with
  | nil => simp [wt]
  | cons s l ih => simp only [List.cons_append, wt, ih]; omega
theorem wt_step {l : List Sec} {k : Nat} (h : k < l.length) : wt (l.take (k + 1)) = wt (l.take k) + (1 + (l.getD k default).2.length) := by
  rw [take_succ_getD h, wt_app]; simp [wt]
theorem body_wt (l : List Sec) (h : wt l ≤ 1000000) : (body l).length ≤ 11 * wt l := by
  induction l with
  | nil => simp [body, wt]
  | cons s l ih =>
    simp only [body, wt, List.length_append, List.length_cons, List.length_nil] at *
    have := (Lb.ap_length (z := (s.2.length : Int)) (by omega) (by omega)).2
    have := ih (by omega)
    omega
end Sc
end Go.Proofs.YtnbdadjomnpcgaaDoor
