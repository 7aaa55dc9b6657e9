/- cost.of, Of: what each answers of any instruction; nothing that was there is changed. No condition. -/
import Derived.Test.YtlnofmgelkohoaaCostTab
import Derived.Deep.QuietTactic
import Derived.BigQuiet
namespace Go.Proofs.Ytlnofmgelkohoaa
open Go.RowKit
set_option linter.unusedVariables false

theorem below_drewN {B : Nat} {a w : World} (h : Below B a w) (n : Nat) : Below B a (w.drewN n) := ⟨h.os, h.tape, h.output, h.size, h.block⟩
theorem infoI : (Try.prog.info? 25).map (·.size) = some 5 := by kernel_rfl

namespace Cost
def of (op : Int) : Int := if Opc.known op = false then 0 else if Opc.form op = 6 then 3 else tab op.toNat
end Cost

set_option maxRecDepth 100000 in
set_option maxHeartbeats 1000000 in
theorem of_1 (g : Nat) (op : Int) (a b c v : Value) (w : World) (hk : Opc.known op = false) : Calls Try.prog 12 #[.pointer (some ⟨g, 0, none⟩), .agg #[.int .u8 op, a, b, c, v]] w fun e w' => e = .returned (.int .u64 0) ∧ Below w.heap.size w w' := by
  go_enter Try.func12, Try.ntmps12
  go_wp2_with (first | (go_at_call 9; refine (Known_any _ _).mono ?_; rintro e w' ⟨rfl, rfl⟩) | (go_at_call 15; refine (Form_any _ _).mono ?_; rintro e w' ⟨rfl, rfl⟩))
  go_ret
  exact ⟨rfl, (Below.refl _ _).alloc (Nat.le_refl _) _⟩
set_option maxRecDepth 100000 in
set_option maxHeartbeats 1000000 in
theorem of_2 (g : Nat) (op : Int) (a b c v : Value) (w : World) (hk : Opc.known op = true) (hf : (Opc.form op == 6) = true) : Calls Try.prog 12 #[.pointer (some ⟨g, 0, none⟩), .agg #[.int .u8 op, a, b, c, v]] w fun e w' => e = .returned (.int .u64 3) ∧ Below w.heap.size w w' := by
  go_enter Try.func12, Try.ntmps12
  go_wp2_with (first | (go_at_call 9; refine (Known_any _ _).mono ?_; rintro e w' ⟨rfl, rfl⟩) | (go_at_call 15; refine (Form_any _ _).mono ?_; rintro e w' ⟨rfl, rfl⟩))
  go_ret
  exact ⟨rfl, (Below.refl _ _).alloc (Nat.le_refl _) _⟩
set_option maxRecDepth 100000 in
set_option maxHeartbeats 1000000 in
theorem of_3 (g : Nat) (op : Int) (a b c v : Value) (w : World) (h0 : 0 ≤ op) (h1 : op < 256) (F : Nat → Int) (hA : Arr w g 38 256 (fun j => .int .u64 (F j))) (hk : Opc.known op = true) (hf : (Opc.form op == 6) = false) : Calls Try.prog 12 #[.pointer (some ⟨g, 0, none⟩), .agg #[.int .u8 op, a, b, c, v]] w fun e w' => e = .returned (.int .u64 (F op.toNat)) ∧ Below w.heap.size w w' := by
  go_enter Try.func12, Try.ntmps12
  go_wp2_with (first | (go_at_call 9; refine (Known_any _ _).mono ?_; rintro e w' ⟨rfl, rfl⟩) | (go_at_call 15; refine (Form_any _ _).mono ?_; rintro e w' ⟨rfl, rfl⟩))
  have hA' : Arr (w.alloc (Obj.cells #[Value.int IntKind.u8 op, a, b, c, v] 25)) g 38 256 (fun j => .int .u64 (F j)) := hA.below ((Below.refl _ _).alloc (Nat.le_refl _) _) hA.lt
  have hc := hA'.cell op.toNat (by omega)
  have ho : (w.alloc (Obj.cells #[Value.int IntKind.u8 op, a, b, c, v] 25)).cell? ⟨w.heap.size, 0, none⟩ = some (.int .u8 op) := cell_of_row _ _ _ _ _ (0, 0) (heap_alloc_new _ _)
  have hb : Below w.heap.size w (w.alloc (Obj.cells #[Value.int IntKind.u8 op, a, b, c, v] 25)) := (Below.refl _ _).alloc (Nat.le_refl _) _
  clear hA hA'
  generalize w.alloc (Obj.cells #[Value.int IntKind.u8 op, a, b, c, v] 25) = w2 at *
  go_quiet (fail)
  go_wp2
  go_ret
  exact ⟨rfl, below_drewN hb _⟩

theorem of_any (g : Nat) (op : Int) (a b c v : Value) (w : World) (h0 : 0 ≤ op) (h1 : op < 256) (hA : Arr w g 38 256 (fun j => .int .u64 (Cost.tab j))) :
    Calls Try.prog 12 #[.pointer (some ⟨g, 0, none⟩), .agg #[.int .u8 op, a, b, c, v]] w fun e w' => e = .returned (.int .u64 (Cost.of op)) ∧ Below w.heap.size w w' := by
  by_cases hk : Opc.known op = false
  · exact (of_1 g op a b c v w hk).mono fun e w' h => ⟨by rw [h.1, Cost.of, if_pos hk], h.2⟩
  · by_cases hf : Opc.form op = 6
    · exact (of_2 g op a b c v w (by simpa using hk) (by simpa using hf)).mono fun e w' h => ⟨by rw [h.1, Cost.of, if_neg hk, if_pos hf], h.2⟩
    · exact (of_3 g op a b c v w h0 h1 Cost.tab hA (by simpa using hk) (by simpa using hf)).mono fun e w' h => ⟨by rw [h.1, Cost.of, if_neg hk, if_neg hf], h.2⟩

set_option maxRecDepth 100000 in
set_option maxHeartbeats 1000000 in
theorem Of_any (op : Int) (a b c v : Value) (w : World) (h0 : 0 ≤ op) (h1 : op < 256) : Calls Try.prog 7 #[.agg #[.int .u8 op, a, b, c, v]] w fun e w' => e = .returned (.int .u64 (Cost.of op)) ∧ Below w.heap.size w w' := by
  have hx := heap_alloc_new w (Obj.cells #[Value.int IntKind.u8 op, a, b, c, v] 25)
  have hb : Below w.heap.size w (w.alloc (Obj.cells #[Value.int IntKind.u8 op, a, b, c, v] 25)) := (Below.refl _ _).alloc (Nat.le_refl _) _
  have hz : (w.alloc (Obj.cells #[Value.int IntKind.u8 op, a, b, c, v] 25)).heap.size = w.heap.size + 1 := by simp
  go_enter Try.func7, Try.ntmps7
  go_wp2_with fail
  generalize w.alloc (Obj.cells #[Value.int IntKind.u8 op, a, b, c, v] 25) = wa at *
  go_wp2_with (first
    | (go_at_call 11; refine (special_any _).mono ?_; rintro e w' ⟨cs, rfl, hcs, hct, bs⟩)
    | (with_reducible refine allocArr rfl 38 rfl _ 256 info256 ?_; intro w3 a3 b3 z3)
    | (refine storeArr (w := w3) rfl 38 _ _ rfl w'.heap.size 256 _ _ (fun j => .int .u64 (Cost.tab j)) rfl a3 cs rfl hcs hct (fun _ => rfl) size256 ?_; intro w4 a4 b4 z4 o4; have hx4 := (o4 w.heap.size (by have := bs.size; omega)).trans ((b3.block w.heap.size (by have := bs.size; omega)).trans ((bs.block w.heap.size (by omega)).trans hx)))
    | (refine wpList_load_row (w := w4) rfl 25 _ rfl w.heap.size rfl _ _ (0, 0) _ hx4 Try.underlying25 rfl infoI ?_)
    | (go_at_call 12; refine (of_any _ _ _ _ _ _ _ h0 h1 a4).mono ?_; rintro e w9 ⟨rfl, b9⟩))
  go_ret
  exact ⟨rfl, hb.trans ((bs.mono (by omega)).trans ((b3.mono (by have := bs.size; omega)).trans ((b4.mono (by have := bs.size; omega)).trans (b9.mono (by have := bs.size; omega)))))⟩
end Go.Proofs.Ytlnofmgelkohoaa
