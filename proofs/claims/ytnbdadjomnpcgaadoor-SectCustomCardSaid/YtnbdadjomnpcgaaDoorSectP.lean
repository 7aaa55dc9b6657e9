/- Sections, in plain Lean: how bytes are split into sections, and joined. No condition but those that each law states. -/
import Derived.Test.YtnbdadjomnpcgaaDoorKRow
import Derived.Test.YtnbdadjomnpcgaaDoorKText
import Derived.Test.YtnbdadjomnpcgaaDoorLebK
import Derived.Test.YtnbdadjomnpcgaaDoorUtfR
namespace Go.Proofs.YtnbdadjomnpcgaaDoor
open Go Go.RowKit
set_option linter.unusedVariables false
set_option linter.unusedSimpArgs false
/-- a section: its number, and its bytes -/
abbrev Sec := Int × List Int
def ESec : El Sec := fun H cs x => ∃ v, cs = [.int .u8 x.1, v] ∧ Sl 1 (EInt .u8) H v x.2 ∧ InR .u8 x.1
instance keepsSec : Keeps ESec := ⟨fun ho h => by
  obtain ⟨v, hv, hs, r⟩ := h
  exact ⟨v, hv, hs.old ho, r⟩⟩
instance oneSec : One ESec := ⟨fun h u hu => by
  obtain ⟨v, rfl, hs, _⟩ := h
  simp only [List.mem_cons, List.not_mem_nil, or_false] at hu
  rcases hu with rfl | rfl <;> first | rfl | exact hs.one⟩
theorem Sl.secAt {H : Heap} {v : Value} {l : List Sec} (h : Sl 2 ESec H v l) (j : Nat) (hj : j < l.length) : ∃ u, CellsH H ((vbase v).add (j * 2)) [.int .u8 (l.getD j default).1, u] ∧ Sl 1 (EInt .u8) H u (l.getD j default).2 ∧ InR .u8 (l.getD j default).1 := by
  obtain ⟨cs, hl, hc, u, rfl, hu, h1⟩ := h.at j hj
  exact ⟨u, hc, hu, h1⟩
namespace Sc
/-- the sections of what is left, behind one of number last -/
def go : Nat → List Int → Int → Option (List Sec)
  | 0, _, _ => none
  | f + 1, r, last => if r.length = 0 then some [] else
    match Lb.tk (r.drop 1) 32 with
    | none => none
    | some (n, k) => if ((r.length - 1 - k : Nat) : Int) < n then none
      else if r.getD 0 default = 0 then (if Nm.nt ((r.drop (1 + k)).take n.toNat) = none then none else go f (r.drop (1 + k + n.toNat)) last)
      else if last < r.getD 0 default ∧ r.getD 0 default ≤ 11 then (go f (r.drop (1 + k + n.toNat)) (r.getD 0 default)).map ((r.getD 0 default, (r.drop (1 + k)).take n.toNat) :: ·)
      else none
theorem go_fuel : ∀ (f f' : Nat) (r : List Int) (last : Int), r.length < f → r.length < f' → go f r last = go f' r last := by
  intro f
  induction f with
  | zero => intro f' r last h; omega
  | succ f ih =>
    intro f' r last h h'
    obtain ⟨g, rfl⟩ : ∃ g, f' = g + 1 := ⟨f' - 1, by omega⟩
    simp only [go]
    split
    · rfl
    · split
      · rfl
      · next n k ht =>
        have := Lb.tk32 ht
        rw [List.length_drop] at this
        have hd : (r.drop (1 + k + n.toNat)).length < f ∧ (r.drop (1 + k + n.toNat)).length < g := by rw [List.length_drop]; omega
        rw [ih g _ last hd.1 hd.2, ih g _ (r.getD 0 default) hd.1 hd.2]
/-- the sections of what is left -/
def sp (r : List Int) (last : Int) : Option (List Sec) := go (r.length + 1) r last
theorem sp_nil {r : List Int} {last : Int} (h : r.length = 0) : sp r last = some [] := by unfold sp go; rw [if_pos h]
section
variable {r : List Int} {last : Int} (h : 0 < r.length)
include h
theorem sp_none (ht : Lb.tk (r.drop 1) 32 = none) : sp r last = none := by
  unfold sp go; rw [if_neg (by omega), ht]
variable {n : Int} {k : Nat} (ht : Lb.tk (r.drop 1) 32 = some (n, k))
include ht
theorem sp_long (hn : ((r.length - 1 - k : Nat) : Int) < n) : sp r last = none := by
  unfold sp go; rw [if_neg (by omega), ht]; simp only []; rw [if_pos hn]
theorem sp_cust (hn : ¬ ((r.length - 1 - k : Nat) : Int) < n) (h0 : r.getD 0 default = 0) : sp r last = if Nm.nt ((r.drop (1 + k)).take n.toNat) = none then none else sp (r.drop (1 + k + n.toNat)) last := by
  have hd := Lb.tk32 ht
  conv => lhs; unfold sp go
  rw [if_neg (by omega), ht]; simp only []; rw [if_neg hn, if_pos h0]
  split
  · rfl
  · exact go_fuel _ _ _ _ (by rw [List.length_drop]; omega) (by omega)
theorem sp_bad (hn : ¬ ((r.length - 1 - k : Nat) : Int) < n) (h0 : ¬ r.getD 0 default = 0) (hb : ¬ (last < r.getD 0 default ∧ r.getD 0 default ≤ 11)) : sp r last = none := by
  unfold sp go; rw [if_neg (by omega), ht]; simp only []; rw [if_neg hn, if_neg h0, if_neg hb]
theorem sp_good (hn : ¬ ((r.length - 1 - k : Nat) : Int) < n) (h0 : ¬ r.getD 0 default = 0) (hb : last < r.getD 0 default ∧ r.getD 0 default ≤ 11) :
    sp r last = (sp (r.drop (1 + k + n.toNat)) (r.getD 0 default)).map ((r.getD 0 default, (r.drop (1 + k)).take n.toNat) :: ·) := by
  conv => lhs; unfold sp go
  rw [if_neg (by omega), ht]; simp only []; rw [if_neg hn, if_neg h0, if_pos hb]
  rw [show go r.length (r.drop (1 + k + n.toNat)) (r.getD 0 default) = sp (r.drop (1 + k + n.toNat)) (r.getD 0 default) from go_fuel _ _ _ _ (by rw [List.length_drop]; omega) (by omega)]
end
/-- what a binary begins with -/
def beg : List Int := [0, 97, 115, 109, 1, 0, 0, 0]
/-- the sections of a binary -/
def split (l : List Int) : Option (List Sec) := if l.take 8 = beg then sp (l.drop 8) 0 else none
/-- do the numbers rise, behind last, to 11 at most? -/
def rise : Int → List Sec → Bool
  | _, [] => true
  | last, s :: l => decide (last < s.1 ∧ s.1 ≤ 11) && rise s.1 l
/-- the bytes of sections -/
def body : List Sec → List Int
  | [] => []
  | s :: l => [s.1] ++ Lb.ap (s.2.length : Int) ++ s.2 ++ body l
def join (l : List Sec) : Option (List Int) := if rise 0 l = true then some (beg ++ body l) else none
theorem body_app (l m : List Sec) : body (l ++ m) = body l ++ body m := by
  induction l with
  | nil => rfl
  | cons s l ih => simp only [List.cons_append, body, ih, List.append_assoc]
/-- the last number -/
def lst : Int → List Sec → Int
  | last, [] => last
  | _, s :: l => lst s.1 l
theorem rise_app (last : Int) (l m : List Sec) : rise last (l ++ m) = (rise last l && rise (lst last l) m) := by
  induction l generalizing last with
  | nil => simp [rise, lst]
  | cons s l ih => simp only [List.cons_append, rise, lst, ih, Bool.and_assoc]
theorem lst_app (last : Int) (l m : List Sec) : lst last (l ++ m) = lst (lst last l) m := by
  induction l generalizing last with
  | nil => rfl
  | cons s l ih => exact ih s.1
end Sc
end Go.Proofs.YtnbdadjomnpcgaaDoor
