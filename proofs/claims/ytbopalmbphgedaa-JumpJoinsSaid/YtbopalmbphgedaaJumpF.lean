/- Depths. No condition. -/
import Derived.Test.YtbopalmbphgedaaJumpE
namespace Go.Proofs.Ytbopalmbphgedaa
open Go Go.RowKit
set_option linter.unusedVariables false
set_option linter.unusedSimpArgs false
set_option linter.unnecessarySimpa false

/-- what the instructions from i on, up to k, move the depth by -/
def ds (body : List Ins) (i : Nat) : Nat → Int
  | 0 => 0
  | m + 1 => ds body i m + dl (body.getD (i + m) default).op
theorem ds_head (body : List Ins) (i m : Nat) : ds body i (m + 1) = dl (body.getD i default).op + ds body (i + 1) m := by
  induction m with
  | zero => simp [ds]
  | succ m ih =>
    rw [ds, ih, ds]
    rw [show i + (m + 1) = i + 1 + m by omega]
    omega
theorem ds_add (body : List Ins) (i a b : Nat) : ds body i (a + b) = ds body i a + ds body (i + a) b := by
  induction b with
  | zero => simp [ds]
  | succ b ih =>
    rw [← Nat.add_assoc, ds, ih, ds, Nat.add_assoc i a b]
    omega
theorem rEnd_skip (body : List Ins) : ∀ (m f i : Nat) (d : Int), (∀ j, 0 < j → j ≤ m → d + ds body i j ≠ 0) → rEnd body (m + f) i d = rEnd body f (i + m) (d + ds body i m) := by
  intro m
  induction m with
  | zero => intro f i d _; simp [ds]
  | succ m ih =>
    intro f i d h
    have h1 := h 1 (by omega) (by omega)
    rw [ds_head] at h1
    simp only [ds, Int.add_zero] at h1
    rw [show m + 1 + f = (m + f) + 1 by omega, rEnd, if_neg h1, ih f (i + 1) _ ?_]
    · rw [ds_head, show i + 1 + m = i + (m + 1) by omega]
      congr 1
      omega
    · intro j h2 h3
      have := h (j + 1) (by omega) (by omega)
      rw [ds_head] at this
      omega
theorem rEnd_hit (body : List Ins) (m f i : Nat) (d : Int) (h : ∀ j, 0 < j → j ≤ m → d + ds body i j ≠ 0) (h0 : d + ds body i (m + 1) = 0) : rEnd body (m + (f + 1)) i d = ((i + m : Nat) : Int) := by
  rw [rEnd_skip body m (f + 1) i d h, rEnd, if_pos (by rw [ds] at h0; omega)]
theorem rElses_add (body : List Ins) : ∀ (a b i : Nat) (d : Int), rElses body (a + b) i d = rElses body a i d ++ rElses body b (i + a) (d + ds body i a) := by
  intro a
  induction a with
  | zero => intro b i d; simp [rElses, ds]
  | succ a ih =>
    intro b i d
    rw [show a + 1 + b = (a + b) + 1 by omega, rElses, rElses, ih b (i + 1), ds_head, show i + 1 + a = i + (a + 1) by omega, Int.add_assoc]
    split
    · rfl
    · rfl
theorem rElses_snoc (body : List Ins) (a i : Nat) (d : Int) : rElses body (a + 1) i d = rElses body a i d ++ (if (body.getD (i + a) default).op = 5 ∧ d + ds body i (a + 1) = 0 then [((i + a : Nat) : Int)] else []) := by
  rw [rElses_add]
  congr 1
  simp only [rElses]
  rw [ds, Int.add_assoc]

end Go.Proofs.Ytbopalmbphgedaa
