/- The stack tells the owner. No condition. -/
import Derived.Test.YtbopalmbphgedaaJumpG
namespace Go.Proofs.Ytbopalmbphgedaa
open Go Go.RowKit
set_option linter.unusedVariables false
set_option linter.unusedSimpArgs false
set_option linter.unnecessarySimpa false

/-- the owner is told by the stack -/
def OwnI (l : List Ins) (k : Nat) (opn : List Int) : Prop := ∀ d : Nat, rOwner l k d = if d < opn.length then opn.getD (opn.length - 1 - d) default else -1
theorem ownI_zero (l : List Ins) : OwnI l 0 [] := fun d => by simp [rOwner]
theorem getD_append_lt {a b : List Int} {i : Nat} (h : i < a.length) : (a ++ b).getD i default = a.getD i default := by
  simp only [List.getD_eq_getElem?_getD, List.getElem?_append_left h]
theorem getD_append_eq {a : List Int} {x : Int} : (a ++ [x]).getD a.length default = x := by
  simp [List.getD_eq_getElem?_getD]
theorem getD_take_lt {a : List Int} {i n : Nat} (h : i < n) : (a.take n).getD i default = a.getD i default := by
  simp only [List.getD_eq_getElem?_getD, List.getElem?_take]
  rw [if_pos h]
theorem OwnI.opened {l : List Ins} {k : Nat} {opn : List Int} (h : OwnI l k opn) (hx : isOpn (l.getD k default).op) : OwnI l (k + 1) (opn ++ [(k : Int)]) := by
  intro d
  rw [rOwner, if_pos hx, List.length_append, List.length_singleton]
  by_cases hd : d = 0
  · subst hd
    rw [if_pos (show ((0 : Nat) : Int) = 0 from rfl), if_pos (by omega), show opn.length + 1 - 1 - 0 = opn.length by omega, getD_append_eq]
  · rw [if_neg (by omega), show ((d : Int) - 1) = ((d - 1 : Nat) : Int) by omega, h (d - 1)]
    by_cases hl : d - 1 < opn.length
    · rw [if_pos hl, if_pos (by omega), getD_append_lt (by omega)]
      congr 1
      omega
    · rw [if_neg hl, if_neg (by omega)]
theorem OwnI.closed {l : List Ins} {k : Nat} {opn : List Int} (h : OwnI l k opn) (hx : (l.getD k default).op = 11) : OwnI l (k + 1) (opn.take (opn.length - 1)) := by
  intro d
  rw [rOwner, if_neg (by unfold isOpn; omega), if_pos hx, show ((d : Int) + 1) = ((d + 1 : Nat) : Int) by omega, h (d + 1), List.length_take]
  by_cases hl : d + 1 < opn.length
  · rw [if_pos hl, if_pos (by omega), getD_take_lt (by omega)]
    congr 1
    omega
  · rw [if_neg hl, if_neg (by omega)]
theorem OwnI.same {l : List Ins} {k : Nat} {opn : List Int} (h : OwnI l k opn) (hx : ¬ isOpn (l.getD k default).op) (hx2 : (l.getD k default).op ≠ 11) : OwnI l (k + 1) opn := by
  intro d
  rw [rOwner, if_neg hx, if_neg hx2]
  exact h d
theorem OwnI.top {l : List Ins} {k : Nat} {s : JS} (h : OwnI l k s.opn) (hl : 0 < s.opn.length) : rOwner l k 0 = s.opn.getD (s.opn.length - 1) default := by
  have := h 0
  rw [if_pos hl] at this
  exact this
theorem OwnI.none {l : List Ins} {k : Nat} {s : JS} (h : OwnI l k s.opn) (hl : s.opn.length = 0) : rOwner l k 0 = -1 := by
  have := h 0
  rw [if_neg (by omega)] at this
  exact this

end Go.Proofs.Ytbopalmbphgedaa
