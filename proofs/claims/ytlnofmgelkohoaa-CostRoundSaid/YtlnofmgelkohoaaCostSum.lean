/- x -/
import Derived.Test.YtlnofmgelkohoaaCostOf
import Derived.Test.YtlnofmgelkohoaaIns
namespace Go.Proofs.Ytlnofmgelkohoaa
open Go.RowKit
set_option linter.unusedVariables false

namespace Cost
/-- the costs of so many instructions -/
def sum (l : List Ins) : Nat → Int
  | 0 => 0
  | k + 1 => sum l k + of (l.getD k default).op
theorem tab_le (j : Nat) : 0 ≤ tab j ∧ tab j ≤ 20 := by
  unfold tab
  repeat' split <;> omega
theorem of_le (op : Int) : 0 ≤ of op ∧ of op ≤ 20 := by
  unfold of
  have := tab_le op.toNat
  repeat' split <;> omega
theorem sum_le (l : List Ins) (k : Nat) : 0 ≤ sum l k ∧ sum l k ≤ 20 * k := by
  induction k with
  | zero => exact ⟨Int.le_refl _, by simp [sum]⟩
  | succ k ih =>
    have := of_le (l.getD k default).op
    show 0 ≤ sum l k + _ ∧ sum l k + _ ≤ _
    omega
end Cost

set_option maxRecDepth 100000 in
set_option maxHeartbeats 1000000 in
theorem Sum_any (v : Value) (l : List Ins) (hl : l.length ≤ 1000000) (w : World) (h : IsIns w v l) : Calls Try.prog 8 #[v] w fun e w' => e = .returned (.int .u64 (Cost.sum l l.length)) ∧ Below w.heap.size w w' := by
  have h0 := h
  obtain ⟨a, cap, rfl, hc1, hc2, hc3⟩ := h
  clear hc3
  have H0 := Lib.hid h0
  clear h0
  go_enter Try.func8, Try.ntmps8
  go_wp2_with (first
    | (go_at_call 11; refine (special_any _).mono ?_; rintro e w' ⟨cs, rfl, hcs, hct, bs⟩)
    | (with_reducible refine allocArr rfl 38 rfl _ 256 info256 ?_; intro w3 a3 b3 z3)
    | (refine storeArr (w := w3) rfl 38 _ _ rfl w'.heap.size 256 _ _ (fun j => .int .u64 (Cost.tab j)) rfl a3 cs rfl hcs hct (fun _ => rfl) size256 ?_; intro w4 a4 b4 z4 o4))
  have hz := bs.size
  have B4 := Lib.hid (bs.trans ((b3.mono hz).trans (b4.mono hz)))
  have A4 := Lib.hid a4
  clear a3 b3 a4 b4 o4 bs hct
  go_loopw [4, 10] (fun n i wr => ∃ k : Nat, k ≤ l.length ∧ i = .int .i64 k ∧ n = .int .u64 (Cost.sum l k) ∧ Below w.heap.size w wr ∧ w'.heap.size < wr.heap.size ∧ Arr wr w'.heap.size 38 256 (fun j => .int .u64 (Cost.tab j))) (fun _ i _ => l.length - (intOf i).toNat)
  case atStart => exact ⟨0, by omega, rfl, rfl, B4.out, A4.out.lt, A4.out⟩
  case round =>
    obtain ⟨k, hk, rfl, rfl, hb, hsz, ha⟩ := hrel
    have hs := Cost.sum_le l k
    by_cases hlt : k < l.length
    · obtain ⟨b, off, x, v, rfl, hx, hop, hv, c0, c1, c2, c3, c4⟩ := IsIns.at (H0.out.old keeps_ins (Old.of_below hb (Nat.le_refl _))) k hlt
      obtain ⟨la, lc, rfl, -, -, -⟩ := hv
      have hs2 := Cost.sum_le l (k + 1)
      have hof := Cost.of_le x.op
      have HB := Lib.hid hb
      have HA := Lib.hid ha
      clear hb ha
      go_wp2_with (first | (go_at_call 12; refine (of_any _ _ _ _ _ _ _ hop.1 hop.2 (HA.out.below ((Below.refl _ _).alloc (Nat.le_refl _) _) hsz)).mono ?_; rintro e w9 ⟨rfl, b9⟩))
      go_roundw
      case rel =>
        have hg : l.getD k default = x := by rw [List.getD_eq_getElem?_getD, hx.out]; rfl
        have hd : Below wr.heap.size wr (wr.alloc (Obj.cells #[Value.int .u8 x.op, Value.int .u32 x.a, Value.int .u32 x.b, Value.int .i64 x.c, Value.slice la x.l.length lc] 25)) := (Below.refl _ _).alloc (Nat.le_refl _) _
        have hd9 := hd.trans (b9.mono hd.size)
        exact ⟨k + 1, by omega, by go_num, by show _ = Value.int .u64 (Cost.sum l k + Cost.of (l.getD k default).op); rw [hg], HB.out.trans (hd9.mono HB.out.size), by have := hd9.size; omega, HA.out.below hd9 hsz⟩
      case measure => simp [intOf]; omega
    · go_wp2
      go_ret
      exact ⟨by rw [show k = l.length by omega]; rfl, hb⟩
end Go.Proofs.Ytlnofmgelkohoaa
