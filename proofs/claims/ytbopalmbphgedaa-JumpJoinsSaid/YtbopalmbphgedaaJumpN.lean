/- The invariant. No condition. -/
import Derived.Test.YtbopalmbphgedaaJumpL
namespace Go.Proofs.Ytbopalmbphgedaa
open Go Go.RowKit
set_option linter.unusedVariables false
set_option linter.unusedSimpArgs false
set_option linter.unnecessarySimpa false

theorem rd_set {l : List Int} {a i : Nat} {x : Int} (ha : a < l.length) : rd (l.set a x) (i : Int) = if i = a then x else rd l i := by
  unfold rd
  simp only [List.length_set, Int.toNat_natCast]
  by_cases hi : i = a
  · subst hi
    rw [if_pos ⟨by omega, by omega⟩, if_pos rfl, List.getD_eq_getElem?_getD, List.getElem?_set_self ha]; rfl
  · rw [if_neg hi, List.getD_eq_getElem?_getD, List.getD_eq_getElem?_getD, List.getElem?_set_ne (fun e => hi e.symm)]
theorem rd_rep {n i : Nat} : rd (List.replicate n (-1)) (i : Int) = -1 := by
  unfold rd
  split
  · next h =>
    simp only [List.length_replicate] at h
    simp only [Int.toNat_natCast]
    rw [List.getD_eq_getElem?_getD, List.getElem?_replicate, if_pos (by omega)]; rfl
  · rfl
/-- an opener that is open at k, at place p of the stack -/
def OpI (l : List Ins) (k : Nat) (s : JS) (i p : Nat) : Prop :=
  p < s.opn.length ∧ s.opn.getD p default = i ∧ ds l (i + 1) (k - (i + 1)) = (s.opn.length : Int) - 1 - p ∧ (∀ j, 0 < j → j ≤ k - (i + 1) → 1 + ds l (i + 1) j ≠ 0) ∧
  rd s.en i = -1 ∧ rd s.el i = (rElses l (k - (i + 1)) (i + 1) 0).headD (-1) ∧ (rElses l (k - (i + 1)) (i + 1) 0).length ≤ 1 ∧ rd s.op i = -1
def ClI (l : List Ins) (k : Nat) (s : JS) (i : Nat) : Prop :=
  ∃ e : Nat, i < e ∧ e < k ∧ rEnd l (l.length - (i + 1)) (i + 1) 1 = e ∧ rd s.en i = e ∧ rd s.el i = (rElses l (e - (i + 1)) (i + 1) 0).headD (-1) ∧ rd s.op i = -1
def ElI (l : List Ins) (k : Nat) (s : JS) (i : Nat) : Prop :=
  ∃ o : Nat, rOwner l i 0 = o ∧ o < i ∧ isOpn (l.getD o default).op ∧ rd s.el i = -1 ∧ rd s.op i = o ∧
    ((∃ p, p < s.opn.length ∧ s.opn.getD p default = o ∧ rd s.el o = i ∧ rd s.en i = -1 ∧ ds l (i + 1) (k - (i + 1)) = (s.opn.length : Int) - 1 - p ∧ ∀ j, 0 < j → j ≤ k - (i + 1) → 1 + ds l (i + 1) j ≠ 0) ∨
      rd s.en i = rEnd l (l.length - (i + 1)) (i + 1) 1)
structure Inv (l : List Ins) (k : Nat) (s : JS) : Prop where
  ok : s.Ok l.length
  own : OwnI l k s.opn
  st : ∀ p, p < s.opn.length → ∃ i : Nat, s.opn.getD p default = i ∧ i < k ∧ isOpn (l.getD i default).op
  inc : ∀ p q, p < q → q < s.opn.length → s.opn.getD p default < s.opn.getD q default
  no : ∀ p, p < s.opn.length → rd s.en (s.opn.getD p default) = -1
  len : (s.opn.length : Int) = ds l 0 k
  dp : 0 ≤ s.dp
  ld : (s.opn.length : Int) ≤ s.dp
  cl : rCl l (l.length - k) k s.opn.length s.dp = rCl l l.length 0 0 0
  opn : ∀ i, i < k → isOpn (l.getD i default).op → (∃ p, OpI l k s i p) ∨ ClI l k s i
  els : ∀ i, i < k → (l.getD i default).op = 5 → ElI l k s i
  end_ : ∀ i, i < k → (l.getD i default).op = 11 → rd s.en i = -1 ∧ rd s.el i = -1 ∧ rd s.op i = rOwner l i 0
  oth : ∀ i, i < k → ¬ isOpn (l.getD i default).op → (l.getD i default).op ≠ 5 → (l.getD i default).op ≠ 11 → rd s.en i = -1 ∧ rd s.el i = -1 ∧ rd s.op i = -1
  fut : ∀ i : Nat, k ≤ i → rd s.en i = -1 ∧ rd s.el i = -1 ∧ rd s.op i = -1
theorem inv_init (l : List Ins) : Inv l 0 (JS.init l.length) := by
  have hrd : ∀ i : Nat, rd (List.replicate l.length (-1)) (i : Int) = -1 := fun i => rd_rep
  exact ⟨JS.ok_run (Nat.zero_le _) rfl, ownI_zero l, fun p hp => absurd hp (Nat.not_lt_zero _), fun p q _ hq => absurd hq (Nat.not_lt_zero _), fun p hp => absurd hp (Nat.not_lt_zero _), rfl, Int.le_refl _, Int.le_refl _, by simp [JS.init], fun i hi => absurd hi (Nat.not_lt_zero _), fun i hi => absurd hi (Nat.not_lt_zero _), fun i hi => absurd hi (Nat.not_lt_zero _), fun i hi => absurd hi (Nat.not_lt_zero _), fun i _ => ⟨hrd i, hrd i, hrd i⟩⟩

end Go.Proofs.Ytbopalmbphgedaa
