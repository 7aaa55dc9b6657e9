/- cost.of, Of: what each answers of any instruction; nothing that was there is changed. No condition. -/
import Derived.Test.YtokidabnjodglaaCostTab
import Derived.Deep.QuietTactic
import Derived.BigQuiet
namespace Go.Proofs.Ytokidabnjodglaa
open Go.RowKit
set_option linter.unusedVariables false

theorem below_drewN {B : Nat} {a w : World} (h : Below B a w) (n : Nat) : Below B a (w.drewN n) := ⟨h.os, h.tape, h.output, h.size, h.block⟩
theorem infoI : (Try.prog.info? 41).map (·.size) = some 5 := by kernel_rfl

namespace Cost
def of (op : Int) : Int := if Opc.known op = false then 0 else if Opc.form op = 6 then 3 else tab op.toNat
end Cost

set_option maxRecDepth 100000 in
set_option maxHeartbeats 1000000 in
theorem of_1 (g : Nat) (op : Int) (a b c v : Value) (w : World) (hk : Opc.known op = false) : Calls Try.prog 19 #[.pointer (some ⟨g, 0, none⟩), .agg #[.int .u8 op, a, b, c, v]] w fun e w' => e = .returned (.int .u64 0) ∧ Below w.heap.size w w' := by
  go_enter Try.func19, Try.ntmps19
  go_wp2_with (first | (go_at_call 22; refine (Known_any _ _).mono ?_; rintro e w' ⟨rfl, rfl⟩) | (go_at_call 23; refine (Form_any _ _).mono ?_; rintro e w' ⟨rfl, rfl⟩))
  go_ret
  exact ⟨rfl, (Below.refl _ _).alloc (Nat.le_refl _) _⟩
set_option maxRecDepth 100000 in
set_option maxHeartbeats 1000000 in
theorem of_2 (g : Nat) (op : Int) (a b c v : Value) (w : World) (hk : Opc.known op = true) (hf : (Opc.form op == 6) = true) : Calls Try.prog 19 #[.pointer (some ⟨g, 0, none⟩), .agg #[.int .u8 op, a, b, c, v]] w fun e w' => e = .returned (.int .u64 3) ∧ Below w.heap.size w w' := by
  go_enter Try.func19, Try.ntmps19
  go_wp2_with (first | (go_at_call 22; refine (Known_any _ _).mono ?_; rintro e w' ⟨rfl, rfl⟩) | (go_at_call 23; refine (Form_any _ _).mono ?_; rintro e w' ⟨rfl, rfl⟩))
  go_ret
  exact ⟨rfl, (Below.refl _ _).alloc (Nat.le_refl _) _⟩
set_option maxRecDepth 100000 in
set_option maxHeartbeats 1000000 in
theorem of_3 (g : Nat) (op : Int) (a b c v : Value) (w : World) (h0 : 0 ≤ op) (h1 : op < 256) (F : Nat → Int) (hA : Arr w g 53 256 (fun j => .int .u64 (F j))) (hk : Opc.known op = true) (hf : (Opc.form op == 6) = false) : Calls Try.prog 19 #[.pointer (some ⟨g, 0, none⟩), .agg #[.int .u8 op, a, b, c, v]] w fun e w' => e = .returned (.int .u64 (F op.toNat)) ∧ Below w.heap.size w w' := by
  go_enter Try.func19, Try.ntmps19
  go_wp2_with (first | (go_at_call 22; refine (Known_any _ _).mono ?_; rintro e w' ⟨rfl, rfl⟩) | (go_at_call 23; refine (Form_any _ _).mono ?_; rintro e w' ⟨rfl, rfl⟩))
  have hA' : Arr (w.alloc (Obj.cells #[Value.int IntKind.u8 op, a, b, c, v] 41)) g 53 256 (fun j => .int .u64 (F j)) := hA.below ((Below.refl _ _).alloc (Nat.le_refl _) _) hA.lt
  have hc := hA'.cell op.toNat (by omega)
  have ho : (w.alloc (Obj.cells #[Value.int IntKind.u8 op, a, b, c, v] 41)).cell? ⟨w.heap.size, 0, none⟩ = some (.int .u8 op) := cell_of_row _ _ _ _ _ (0, 0) (heap_alloc_new _ _)
  have hb : Below w.heap.size w (w.alloc (Obj.cells #[Value.int IntKind.u8 op, a, b, c, v] 41)) := (Below.refl _ _).alloc (Nat.le_refl _) _
  clear hA hA'
  generalize w.alloc (Obj.cells #[Value.int IntKind.u8 op, a, b, c, v] 41) = w2 at *
  go_quiet (fail)
  go_wp2
  go_ret
  exact ⟨rfl, below_drewN hb _⟩

theorem of_any (g : Nat) (op : Int) (a b c v : Value) (w : World) (h0 : 0 ≤ op) (h1 : op < 256) (hA : Arr w g 53 256 (fun j => .int .u64 (Cost.tab j))) :
    Calls Try.prog 19 #[.pointer (some ⟨g, 0, none⟩), .agg #[.int .u8 op, a, b, c, v]] w fun e w' => e = .returned (.int .u64 (Cost.of op)) ∧ Below w.heap.size w w' := by
  by_cases hk : Opc.known op = false
  · exact (of_1 g op a b c v w hk).mono fun e w' h => ⟨by rw [h.1, Cost.of, if_pos hk], h.2⟩
  · by_cases hf : Opc.form op = 6
    · exact (of_2 g op a b c v w (by simpa using hk) (by simpa using hf)).mono fun e w' h => ⟨by rw [h.1, Cost.of, if_neg hk, if_pos hf], h.2⟩
    · exact (of_3 g op a b c v w h0 h1 Cost.tab hA (by simpa using hk) (by simpa using hf)).mono fun e w' h => ⟨by rw [h.1, Cost.of, if_neg hk, if_neg hf], h.2⟩

end Go.Proofs.Ytokidabnjodglaa
