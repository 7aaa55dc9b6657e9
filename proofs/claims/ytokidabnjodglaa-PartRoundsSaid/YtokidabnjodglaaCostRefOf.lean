/- gabelleref13.Of of any opcode: what is behind the switch; printed by gen_ref.py. No condition. -/
import Derived.Test.YtokidabnjodglaaCostRef
namespace Go.Proofs.Ytokidabnjodglaa
open Go.RowKit
set_option linter.unusedVariables false

theorem lit_keep {w w1 : World} {X A : Array Value} {t t2 : TypeId} {u : Value} (b1 : Below ((w.alloc (.cells X t)).alloc (.cells A t2)).heap.size ((w.alloc (.cells X t)).alloc (.cells A t2)) w1) (hX : X[0]? = some u) : w1.cell? ⟨w.heap.size, 0, none⟩ = some u := by
  have h : w1.heap[w.heap.size]? = some (.cells X t) := by
    rw [b1.block _ (by simp <;> omega)]; exact (heap_alloc_old _ _ (by simp)).trans (heap_alloc_new _ _)
  rw [cell_of_row _ _ _ _ _ (0, 0) h]; exact hX
set_option maxRecDepth 100000 in
set_option maxHeartbeats 1000000 in
theorem refOf_a (op : Int) (a b c v : Value) (w : World) (n2 : (op == 2) = false) (n3 : (op == 3) = false) (n5 : (op == 5) = false) (n11 : (op == 11) = false) (n4 : (op == 4) = false) (n12 : (op == 12) = false) (n13 : (op == 13) = false) (n15 : (op == 15) = false) (n108 : (op == 108) = false) (n126 : (op == 126) = false) (n14 : (op == 14) = false) (n16 : (op == 16) = false) (n17 : (op == 17) = false) (n64 : (op == 64) = false) (n109 : (op == 109) = false) (n110 : (op == 110) = false) (n111 : (op == 111) = false) (n112 : (op == 112) = false) (n127 : (op == 127) = false) (n128 : (op == 128) = false) (n129 : (op == 129) = false) (n130 : (op == 130) = false) (x1 : hit op rng1 3 = true) : Calls Try.prog 15 #[.agg #[.int .u8 op, a, b, c, v]] w fun e w' => e = .returned (.int .u64 3) ∧ Below w.heap.size w w' := by
  go_enter Try.func15, Try.ntmps15
  go_wp2_with fail
  (go_at_call 21; refine (refIn_any op _ 0 3 (by omega) rng1 _ (cells_of_lit rng1_at (by simp))).mono ?_; rintro e w1 ⟨rfl, b1⟩; have hx1 := lit_keep b1 rfl)
  go_wp2
  go_ret
  exact ⟨rfl, (((Below.refl _ _).alloc (Nat.le_refl _) _).alloc (by simp) _).trans (b1.mono (by simp; omega))⟩
set_option maxRecDepth 100000 in
set_option maxHeartbeats 1000000 in
theorem refOf_b (op : Int) (a b c v : Value) (w : World) (n2 : (op == 2) = false) (n3 : (op == 3) = false) (n5 : (op == 5) = false) (n11 : (op == 11) = false) (n4 : (op == 4) = false) (n12 : (op == 12) = false) (n13 : (op == 13) = false) (n15 : (op == 15) = false) (n108 : (op == 108) = false) (n126 : (op == 126) = false) (n14 : (op == 14) = false) (n16 : (op == 16) = false) (n17 : (op == 17) = false) (n64 : (op == 64) = false) (n109 : (op == 109) = false) (n110 : (op == 110) = false) (n111 : (op == 111) = false) (n112 : (op == 112) = false) (n127 : (op == 127) = false) (n128 : (op == 128) = false) (n129 : (op == 129) = false) (n130 : (op == 130) = false) (x1 : hit op rng1 3 = false) (x2 : hit op rng2 9 = true) : Calls Try.prog 15 #[.agg #[.int .u8 op, a, b, c, v]] w fun e w' => e = .returned (.int .u64 1) ∧ Below w.heap.size w w' := by
  go_enter Try.func15, Try.ntmps15
  go_wp2_with fail
  (go_at_call 21; refine (refIn_any op _ 0 3 (by omega) rng1 _ (cells_of_lit rng1_at (by simp))).mono ?_; rintro e w1 ⟨rfl, b1⟩; have hx1 := lit_keep b1 rfl)
  go_wp2_with fail
  (go_at_call 21; refine (refIn_any op _ 0 9 (by omega) rng2 _ (cells_of_lit rng2_at (by simp))).mono ?_; rintro e w2 ⟨rfl, b2⟩)
  go_wp2
  go_ret
  exact ⟨rfl, ((((Below.refl _ _).alloc (Nat.le_refl _) _).alloc (by simp) _).trans (b1.mono (by simp; omega))).trans (((Below.refl _ _).alloc (by have := b1.size; simp at this; omega) _).trans (b2.mono (by have := b1.size; simp at this; simp; omega)))⟩
set_option maxRecDepth 100000 in
set_option maxHeartbeats 1000000 in
theorem refOf_c (op : Int) (a b c v : Value) (w : World) (n2 : (op == 2) = false) (n3 : (op == 3) = false) (n5 : (op == 5) = false) (n11 : (op == 11) = false) (n4 : (op == 4) = false) (n12 : (op == 12) = false) (n13 : (op == 13) = false) (n15 : (op == 15) = false) (n108 : (op == 108) = false) (n126 : (op == 126) = false) (n14 : (op == 14) = false) (n16 : (op == 16) = false) (n17 : (op == 17) = false) (n64 : (op == 64) = false) (n109 : (op == 109) = false) (n110 : (op == 110) = false) (n111 : (op == 111) = false) (n112 : (op == 112) = false) (n127 : (op == 127) = false) (n128 : (op == 128) = false) (n129 : (op == 129) = false) (n130 : (op == 130) = false) (x1 : hit op rng1 3 = false) (x2 : hit op rng2 9 = false) : Calls Try.prog 15 #[.agg #[.int .u8 op, a, b, c, v]] w fun e w' => e = .returned (.int .u64 0) ∧ Below w.heap.size w w' := by
  go_enter Try.func15, Try.ntmps15
  go_wp2_with fail
  (go_at_call 21; refine (refIn_any op _ 0 3 (by omega) rng1 _ (cells_of_lit rng1_at (by simp))).mono ?_; rintro e w1 ⟨rfl, b1⟩; have hx1 := lit_keep b1 rfl)
  go_wp2_with fail
  (go_at_call 21; refine (refIn_any op _ 0 9 (by omega) rng2 _ (cells_of_lit rng2_at (by simp))).mono ?_; rintro e w2 ⟨rfl, b2⟩)
  go_wp2
  go_ret
  exact ⟨rfl, ((((Below.refl _ _).alloc (Nat.le_refl _) _).alloc (by simp) _).trans (b1.mono (by simp; omega))).trans (((Below.refl _ _).alloc (by have := b1.size; simp at this; omega) _).trans (b2.mono (by have := b1.size; simp at this; simp; omega)))⟩

namespace Cost
def ref (op : Int) : Int :=
  if op = 2 then 0 else
  if op = 3 then 0 else
  if op = 5 then 0 else
  if op = 11 then 0 else
  if op = 4 then 2 else
  if op = 12 then 2 else
  if op = 13 then 2 else
  if op = 15 then 2 else
  if op = 108 then 2 else
  if op = 126 then 2 else
  if op = 14 then 3 else
  if op = 16 then 8 else
  if op = 17 then 10 else
  if op = 64 then 20 else
  if op = 109 then 5 else
  if op = 110 then 5 else
  if op = 111 then 5 else
  if op = 112 then 5 else
  if op = 127 then 5 else
  if op = 128 then 5 else
  if op = 129 then 5 else
  if op = 130 then 5 else
  if hit op rng1 3 = true then 3 else if hit op rng2 9 = true then 1 else 0
theorem ref_of (op : Int) (h0 : 0 ≤ op) (h1 : op < 256) : ref op = of op := by
  have H : ∀ j : Fin 256, ref (j.1 : Int) = of (j.1 : Int) := by decide +kernel
  have := H ⟨op.toNat, by omega⟩
  simpa [Int.toNat_of_nonneg h0] using this
end Cost

theorem refOf_any (op : Int) (a b c v : Value) (w : World) (h0 : 0 ≤ op) (h1 : op < 256) : Calls Try.prog 15 #[.agg #[.int .u8 op, a, b, c, v]] w fun e w' => e = .returned (.int .u64 (Cost.of op)) ∧ Below w.heap.size w w' := by
  rw [← Cost.ref_of op h0 h1]
  by_cases e2 : op = 2
  · rw [e2]; exact refOf_lit2 a b c v w
  by_cases e3 : op = 3
  · rw [e3]; exact refOf_lit3 a b c v w
  by_cases e5 : op = 5
  · rw [e5]; exact refOf_lit5 a b c v w
  by_cases e11 : op = 11
  · rw [e11]; exact refOf_lit11 a b c v w
  by_cases e4 : op = 4
  · rw [e4]; exact refOf_lit4 a b c v w
  by_cases e12 : op = 12
  · rw [e12]; exact refOf_lit12 a b c v w
  by_cases e13 : op = 13
  · rw [e13]; exact refOf_lit13 a b c v w
  by_cases e15 : op = 15
  · rw [e15]; exact refOf_lit15 a b c v w
  by_cases e108 : op = 108
  · rw [e108]; exact refOf_lit108 a b c v w
  by_cases e126 : op = 126
  · rw [e126]; exact refOf_lit126 a b c v w
  by_cases e14 : op = 14
  · rw [e14]; exact refOf_lit14 a b c v w
  by_cases e16 : op = 16
  · rw [e16]; exact refOf_lit16 a b c v w
  by_cases e17 : op = 17
  · rw [e17]; exact refOf_lit17 a b c v w
  by_cases e64 : op = 64
  · rw [e64]; exact refOf_lit64 a b c v w
  by_cases e109 : op = 109
  · rw [e109]; exact refOf_lit109 a b c v w
  by_cases e110 : op = 110
  · rw [e110]; exact refOf_lit110 a b c v w
  by_cases e111 : op = 111
  · rw [e111]; exact refOf_lit111 a b c v w
  by_cases e112 : op = 112
  · rw [e112]; exact refOf_lit112 a b c v w
  by_cases e127 : op = 127
  · rw [e127]; exact refOf_lit127 a b c v w
  by_cases e128 : op = 128
  · rw [e128]; exact refOf_lit128 a b c v w
  by_cases e129 : op = 129
  · rw [e129]; exact refOf_lit129 a b c v w
  by_cases e130 : op = 130
  · rw [e130]; exact refOf_lit130 a b c v w
  unfold Cost.ref
  rw [if_neg e2, if_neg e3, if_neg e5, if_neg e11, if_neg e4, if_neg e12, if_neg e13, if_neg e15, if_neg e108, if_neg e126, if_neg e14, if_neg e16, if_neg e17, if_neg e64, if_neg e109, if_neg e110, if_neg e111, if_neg e112, if_neg e127, if_neg e128, if_neg e129, if_neg e130]
  cases x1 : hit op rng1 3
  · rw [if_neg (by simp)]
    cases x2 : hit op rng2 9
    · rw [if_neg (by simp)]; exact refOf_c op a b c v w (by simpa using e2) (by simpa using e3) (by simpa using e5) (by simpa using e11) (by simpa using e4) (by simpa using e12) (by simpa using e13) (by simpa using e15) (by simpa using e108) (by simpa using e126) (by simpa using e14) (by simpa using e16) (by simpa using e17) (by simpa using e64) (by simpa using e109) (by simpa using e110) (by simpa using e111) (by simpa using e112) (by simpa using e127) (by simpa using e128) (by simpa using e129) (by simpa using e130) x1 x2
    · rw [if_pos rfl]; exact refOf_b op a b c v w (by simpa using e2) (by simpa using e3) (by simpa using e5) (by simpa using e11) (by simpa using e4) (by simpa using e12) (by simpa using e13) (by simpa using e15) (by simpa using e108) (by simpa using e126) (by simpa using e14) (by simpa using e16) (by simpa using e17) (by simpa using e64) (by simpa using e109) (by simpa using e110) (by simpa using e111) (by simpa using e112) (by simpa using e127) (by simpa using e128) (by simpa using e129) (by simpa using e130) x1 x2
  · rw [if_pos rfl]; exact refOf_a op a b c v w (by simpa using e2) (by simpa using e3) (by simpa using e5) (by simpa using e11) (by simpa using e4) (by simpa using e12) (by simpa using e13) (by simpa using e15) (by simpa using e108) (by simpa using e126) (by simpa using e14) (by simpa using e16) (by simpa using e17) (by simpa using e64) (by simpa using e109) (by simpa using e110) (by simpa using e111) (by simpa using e112) (by simpa using e127) (by simpa using e128) (by simpa using e129) (by simpa using e130) x1

end Go.Proofs.Ytokidabnjodglaa
