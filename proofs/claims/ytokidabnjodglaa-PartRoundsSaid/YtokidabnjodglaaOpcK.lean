/- opc.in, Float, Known, Form: what each answers of any opcode; nothing is changed. No condition. -/
import Derived.Test.YtokidabnjodglaaRows
import Derived.WalkKit
import Derived.WalkLawsBesides
import Derived.Lib.Hide
namespace Go.Proofs.Ytokidabnjodglaa
open Go.RowKit
set_option linter.unusedVariables false

namespace Opc
def inR (op a b : Int) : Bool := decide (a ≤ op ∧ op ≤ b)
def float (op : Int) : Bool := inR op 0x2a 0x2b || inR op 0x38 0x39 || inR op 0x43 0x44 || inR op 0x5b 0x66 || inR op 0x8b 0xa6 || inR op 0xa8 0xab || inR op 0xae 0xbf
def known (op : Int) : Bool := !float op && (decide (op ≤ 5) || inR op 0x0b 0x11 || inR op 0x1a 0x1b || inR op 0x20 0x24 || inR op 0x28 0xad)
def form (op : Int) : Int :=
  if known op = false then 0 else if inR op 2 4 then 1 else if op = 0x0c ∨ op = 0x0d then 2 else if op = 0x0e then 3 else if op = 0x10 ∨ inR op 0x20 0x24 then 4
  else if op = 0x11 then 5 else if inR op 0x28 0x3e then 6 else if op = 0x3f ∨ op = 0x40 then 7 else if op = 0x41 then 8 else if op = 0x42 then 9 else 0
end Opc

set_option maxRecDepth 100000 in
theorem in_any (op a b : Int) (w : World) : Calls Try.prog 25 #[.int .u8 op, .int .u8 a, .int .u8 b] w fun e w' => e = .returned (.bool (Opc.inR op a b)) ∧ w = w' := by
  have hb : Opc.inR op a b = (decide (a ≤ op) && decide (op ≤ b)) := by unfold Opc.inR; rw [Bool.eq_iff_iff]; simp
  have HB := Lib.hid hb; clear hb
  go_enter Try.func25, Try.ntmps25
  by_cases h1 : a ≤ op
  · by_cases h2 : op ≤ b
    · go_wp2
      go_ret
      exact ⟨congrArg (fun b => Ending.returned (.bool b)) (by rw [HB.out]; simp [h1, h2]), rfl⟩
    · go_wp2
      go_ret
      exact ⟨congrArg (fun b => Ending.returned (.bool b)) (by rw [HB.out]; simp; omega), rfl⟩
  · go_wp2
    go_ret
    exact ⟨congrArg (fun b => Ending.returned (.bool b)) (by rw [HB.out]; simp; omega), rfl⟩

theorem retB {x y : Bool} (h : x = y) : Ending.returned (.bool x) = Ending.returned (.bool y) := by rw [h]
theorem retU {k : IntKind} {x y : Int} (h : x = y) : Ending.returned (.int k x) = Ending.returned (.int k y) := by rw [h]

set_option maxRecDepth 100000 in
theorem Float_any (op : Int) (w : World) : Calls Try.prog 24 #[.int .u8 op] w fun e w' => e = .returned (.bool (Opc.float op)) ∧ w = w' := by
  go_enter Try.func24, Try.ntmps24
  go_wp2_with (go_at_call 25; refine (in_any _ _ _ _).mono ?_; rintro e w' ⟨rfl, rfl⟩)
  all_goals
    go_ret
    exact ⟨retB (by simp [Opc.float, *]), rfl⟩

set_option maxRecDepth 100000 in
theorem Known_any (op : Int) (w : World) : Calls Try.prog 22 #[.int .u8 op] w fun e w' => e = .returned (.bool (Opc.known op)) ∧ w = w' := by
  go_enter Try.func22, Try.ntmps22
  cases hf : Opc.float op
  · by_cases h5 : op ≤ 5
    · go_wp2_with (first | (go_at_call 24; refine (Float_any _ _).mono ?_; rintro e w' ⟨rfl, rfl⟩) | (go_at_call 25; refine (in_any _ _ _ _).mono ?_; rintro e w' ⟨rfl, rfl⟩))
      all_goals
        go_ret
        exact ⟨retB (by simp [Opc.known, *]), rfl⟩
    · go_wp2_with (first | (go_at_call 24; refine (Float_any _ _).mono ?_; rintro e w' ⟨rfl, rfl⟩) | (go_at_call 25; refine (in_any _ _ _ _).mono ?_; rintro e w' ⟨rfl, rfl⟩))
      all_goals
        go_ret
        exact ⟨retB (by simp [Opc.known, *]), rfl⟩
  · go_wp2_with (first | (go_at_call 24; refine (Float_any _ _).mono ?_; rintro e w' ⟨rfl, rfl⟩))
    all_goals
      go_ret
      exact ⟨retB (by simp [Opc.known, *]), rfl⟩

set_option maxRecDepth 100000 in
set_option maxHeartbeats 1000000 in
theorem Form_0 (op : Int) (w : World) (hf : Opc.known op = true)  (b0 : Opc.inR op 2 4 = true) : Calls Try.prog 23 #[.int .u8 op] w fun e w' => e = .returned (.int .u8 1) ∧ w = w' := by
  go_enter Try.func23, Try.ntmps23
  go_wp2_with (first | (go_at_call 22; refine (Known_any _ _).mono ?_; rintro e w' ⟨rfl, rfl⟩) | (go_at_call 25; refine (in_any _ _ _ _).mono ?_; rintro e w' ⟨rfl, rfl⟩))
  go_ret
  exact ⟨rfl, rfl⟩
set_option maxRecDepth 100000 in
set_option maxHeartbeats 1000000 in
theorem Form_1 (op : Int) (w : World) (hf : Opc.known op = true) (b0 : Opc.inR op 2 4 = false) (b1 : (op == 12) = true) : Calls Try.prog 23 #[.int .u8 op] w fun e w' => e = .returned (.int .u8 2) ∧ w = w' := by
  go_enter Try.func23, Try.ntmps23
  go_wp2_with (first | (go_at_call 22; refine (Known_any _ _).mono ?_; rintro e w' ⟨rfl, rfl⟩) | (go_at_call 25; refine (in_any _ _ _ _).mono ?_; rintro e w' ⟨rfl, rfl⟩))
  go_ret
  exact ⟨rfl, rfl⟩
set_option maxRecDepth 100000 in
set_option maxHeartbeats 1000000 in
theorem Form_2 (op : Int) (w : World) (hf : Opc.known op = true) (b0 : Opc.inR op 2 4 = false) (b1 : (op == 12) = false) (b2 : (op == 13) = true) : Calls Try.prog 23 #[.int .u8 op] w fun e w' => e = .returned (.int .u8 2) ∧ w = w' := by
  go_enter Try.func23, Try.ntmps23
  go_wp2_with (first | (go_at_call 22; refine (Known_any _ _).mono ?_; rintro e w' ⟨rfl, rfl⟩) | (go_at_call 25; refine (in_any _ _ _ _).mono ?_; rintro e w' ⟨rfl, rfl⟩))
  go_ret
  exact ⟨rfl, rfl⟩
set_option maxRecDepth 100000 in
set_option maxHeartbeats 1000000 in
theorem Form_3 (op : Int) (w : World) (hf : Opc.known op = true) (b0 : Opc.inR op 2 4 = false) (b1 : (op == 12) = false) (b2 : (op == 13) = false) (b3 : (op == 14) = true) : Calls Try.prog 23 #[.int .u8 op] w fun e w' => e = .returned (.int .u8 3) ∧ w = w' := by
  go_enter Try.func23, Try.ntmps23
  go_wp2_with (first | (go_at_call 22; refine (Known_any _ _).mono ?_; rintro e w' ⟨rfl, rfl⟩) | (go_at_call 25; refine (in_any _ _ _ _).mono ?_; rintro e w' ⟨rfl, rfl⟩))
  go_ret
  exact ⟨rfl, rfl⟩
set_option maxRecDepth 100000 in
set_option maxHeartbeats 1000000 in
theorem Form_4 (op : Int) (w : World) (hf : Opc.known op = true) (b0 : Opc.inR op 2 4 = false) (b1 : (op == 12) = false) (b2 : (op == 13) = false) (b3 : (op == 14) = false) (b4 : (op == 16) = true) : Calls Try.prog 23 #[.int .u8 op] w fun e w' => e = .returned (.int .u8 4) ∧ w = w' := by
  go_enter Try.func23, Try.ntmps23
  go_wp2_with (first | (go_at_call 22; refine (Known_any _ _).mono ?_; rintro e w' ⟨rfl, rfl⟩) | (go_at_call 25; refine (in_any _ _ _ _).mono ?_; rintro e w' ⟨rfl, rfl⟩))
  go_ret
  exact ⟨rfl, rfl⟩
set_option maxRecDepth 100000 in
set_option maxHeartbeats 1000000 in
theorem Form_5 (op : Int) (w : World) (hf : Opc.known op = true) (b0 : Opc.inR op 2 4 = false) (b1 : (op == 12) = false) (b2 : (op == 13) = false) (b3 : (op == 14) = false) (b4 : (op == 16) = false) (b5 : Opc.inR op 32 36 = true) : Calls Try.prog 23 #[.int .u8 op] w fun e w' => e = .returned (.int .u8 4) ∧ w = w' := by
  go_enter Try.func23, Try.ntmps23
  go_wp2_with (first | (go_at_call 22; refine (Known_any _ _).mono ?_; rintro e w' ⟨rfl, rfl⟩) | (go_at_call 25; refine (in_any _ _ _ _).mono ?_; rintro e w' ⟨rfl, rfl⟩))
  go_ret
  exact ⟨rfl, rfl⟩
set_option maxRecDepth 100000 in
set_option maxHeartbeats 1000000 in
theorem Form_6 (op : Int) (w : World) (hf : Opc.known op = true) (b0 : Opc.inR op 2 4 = false) (b1 : (op == 12) = false) (b2 : (op == 13) = false) (b3 : (op == 14) = false) (b4 : (op == 16) = false) (b5 : Opc.inR op 32 36 = false) (b6 : (op == 17) = true) : Calls Try.prog 23 #[.int .u8 op] w fun e w' => e = .returned (.int .u8 5) ∧ w = w' := by
  go_enter Try.func23, Try.ntmps23
  go_wp2_with (first | (go_at_call 22; refine (Known_any _ _).mono ?_; rintro e w' ⟨rfl, rfl⟩) | (go_at_call 25; refine (in_any _ _ _ _).mono ?_; rintro e w' ⟨rfl, rfl⟩))
  go_ret
  exact ⟨rfl, rfl⟩
set_option maxRecDepth 100000 in
set_option maxHeartbeats 1000000 in
theorem Form_7 (op : Int) (w : World) (hf : Opc.known op = true) (b0 : Opc.inR op 2 4 = false) (b1 : (op == 12) = false) (b2 : (op == 13) = false) (b3 : (op == 14) = false) (b4 : (op == 16) = false) (b5 : Opc.inR op 32 36 = false) (b6 : (op == 17) = false) (b7 : Opc.inR op 40 62 = true) : Calls Try.prog 23 #[.int .u8 op] w fun e w' => e = .returned (.int .u8 6) ∧ w = w' := by
  go_enter Try.func23, Try.ntmps23
  go_wp2_with (first | (go_at_call 22; refine (Known_any _ _).mono ?_; rintro e w' ⟨rfl, rfl⟩) | (go_at_call 25; refine (in_any _ _ _ _).mono ?_; rintro e w' ⟨rfl, rfl⟩))
  go_ret
  exact ⟨rfl, rfl⟩
set_option maxRecDepth 100000 in
set_option maxHeartbeats 1000000 in
theorem Form_8 (op : Int) (w : World) (hf : Opc.known op = true) (b0 : Opc.inR op 2 4 = false) (b1 : (op == 12) = false) (b2 : (op == 13) = false) (b3 : (op == 14) = false) (b4 : (op == 16) = false) (b5 : Opc.inR op 32 36 = false) (b6 : (op == 17) = false) (b7 : Opc.inR op 40 62 = false) (b8 : (op == 63) = true) : Calls Try.prog 23 #[.int .u8 op] w fun e w' => e = .returned (.int .u8 7) ∧ w = w' := by
  go_enter Try.func23, Try.ntmps23
  go_wp2_with (first | (go_at_call 22; refine (Known_any _ _).mono ?_; rintro e w' ⟨rfl, rfl⟩) | (go_at_call 25; refine (in_any _ _ _ _).mono ?_; rintro e w' ⟨rfl, rfl⟩))
  go_ret
  exact ⟨rfl, rfl⟩
set_option maxRecDepth 100000 in
set_option maxHeartbeats 1000000 in
theorem Form_9 (op : Int) (w : World) (hf : Opc.known op = true) (b0 : Opc.inR op 2 4 = false) (b1 : (op == 12) = false) (b2 : (op == 13) = false) (b3 : (op == 14) = false) (b4 : (op == 16) = false) (b5 : Opc.inR op 32 36 = false) (b6 : (op == 17) = false) (b7 : Opc.inR op 40 62 = false) (b8 : (op == 63) = false) (b9 : (op == 64) = true) : Calls Try.prog 23 #[.int .u8 op] w fun e w' => e = .returned (.int .u8 7) ∧ w = w' := by
  go_enter Try.func23, Try.ntmps23
  go_wp2_with (first | (go_at_call 22; refine (Known_any _ _).mono ?_; rintro e w' ⟨rfl, rfl⟩) | (go_at_call 25; refine (in_any _ _ _ _).mono ?_; rintro e w' ⟨rfl, rfl⟩))
  go_ret
  exact ⟨rfl, rfl⟩
set_option maxRecDepth 100000 in
set_option maxHeartbeats 1000000 in
theorem Form_10 (op : Int) (w : World) (hf : Opc.known op = true) (b0 : Opc.inR op 2 4 = false) (b1 : (op == 12) = false) (b2 : (op == 13) = false) (b3 : (op == 14) = false) (b4 : (op == 16) = false) (b5 : Opc.inR op 32 36 = false) (b6 : (op == 17) = false) (b7 : Opc.inR op 40 62 = false) (b8 : (op == 63) = false) (b9 : (op == 64) = false) (b10 : (op == 65) = true) : Calls Try.prog 23 #[.int .u8 op] w fun e w' => e = .returned (.int .u8 8) ∧ w = w' := by
  go_enter Try.func23, Try.ntmps23
  go_wp2_with (first | (go_at_call 22; refine (Known_any _ _).mono ?_; rintro e w' ⟨rfl, rfl⟩) | (go_at_call 25; refine (in_any _ _ _ _).mono ?_; rintro e w' ⟨rfl, rfl⟩))
  go_ret
  exact ⟨rfl, rfl⟩
set_option maxRecDepth 100000 in
set_option maxHeartbeats 1000000 in
theorem Form_11 (op : Int) (w : World) (hf : Opc.known op = true) (b0 : Opc.inR op 2 4 = false) (b1 : (op == 12) = false) (b2 : (op == 13) = false) (b3 : (op == 14) = false) (b4 : (op == 16) = false) (b5 : Opc.inR op 32 36 = false) (b6 : (op == 17) = false) (b7 : Opc.inR op 40 62 = false) (b8 : (op == 63) = false) (b9 : (op == 64) = false) (b10 : (op == 65) = false) (b11 : (op == 66) = true) : Calls Try.prog 23 #[.int .u8 op] w fun e w' => e = .returned (.int .u8 9) ∧ w = w' := by
  go_enter Try.func23, Try.ntmps23
  go_wp2_with (first | (go_at_call 22; refine (Known_any _ _).mono ?_; rintro e w' ⟨rfl, rfl⟩) | (go_at_call 25; refine (in_any _ _ _ _).mono ?_; rintro e w' ⟨rfl, rfl⟩))
  go_ret
  exact ⟨rfl, rfl⟩
set_option maxRecDepth 100000 in
set_option maxHeartbeats 1000000 in
theorem Form_12 (op : Int) (w : World) (hf : Opc.known op = true) (b0 : Opc.inR op 2 4 = false) (b1 : (op == 12) = false) (b2 : (op == 13) = false) (b3 : (op == 14) = false) (b4 : (op == 16) = false) (b5 : Opc.inR op 32 36 = false) (b6 : (op == 17) = false) (b7 : Opc.inR op 40 62 = false) (b8 : (op == 63) = false) (b9 : (op == 64) = false) (b10 : (op == 65) = false) (b11 : (op == 66) = false) : Calls Try.prog 23 #[.int .u8 op] w fun e w' => e = .returned (.int .u8 0) ∧ w = w' := by
  go_enter Try.func23, Try.ntmps23
  go_wp2_with (first | (go_at_call 22; refine (Known_any _ _).mono ?_; rintro e w' ⟨rfl, rfl⟩) | (go_at_call 25; refine (in_any _ _ _ _).mono ?_; rintro e w' ⟨rfl, rfl⟩))
  go_ret
  exact ⟨rfl, rfl⟩
set_option maxRecDepth 100000 in
theorem Form_no (op : Int) (w : World) (hf : Opc.known op = false) : Calls Try.prog 23 #[.int .u8 op] w fun e w' => e = .returned (.int .u8 0) ∧ w = w' := by
  go_enter Try.func23, Try.ntmps23
  go_wp2_with (first | (go_at_call 22; refine (Known_any _ _).mono ?_; rintro e w' ⟨rfl, rfl⟩) | (go_at_call 25; refine (in_any _ _ _ _).mono ?_; rintro e w' ⟨rfl, rfl⟩))
  go_ret
  exact ⟨rfl, rfl⟩

theorem Form_any (op : Int) (w : World) : Calls Try.prog 23 #[.int .u8 op] w fun e w' => e = .returned (.int .u8 (Opc.form op)) ∧ w = w' := by
  cases hf : Opc.known op
  · rw [show Opc.form op = 0 by unfold Opc.form; simp [hf]]; exact Form_no op w hf
  cases b0 : Opc.inR op 2 4
  rotate_left
  · rw [show Opc.form op = 1 by unfold Opc.form; simp [hf, b0]]; exact Form_0 op w hf b0
  cases b1 : (op == 12)
  rotate_left
  · rw [show Opc.form op = 2 by (have e := beq_iff_eq.1 b1; subst e; rfl)]; exact Form_1 op w hf b0 b1
  cases b2 : (op == 13)
  rotate_left
  · rw [show Opc.form op = 2 by (have e := beq_iff_eq.1 b2; subst e; rfl)]; exact Form_2 op w hf b0 b1 b2
  cases b3 : (op == 14)
  rotate_left
  · rw [show Opc.form op = 3 by (have e := beq_iff_eq.1 b3; subst e; rfl)]; exact Form_3 op w hf b0 b1 b2 b3
  cases b4 : (op == 16)
  rotate_left
  · rw [show Opc.form op = 4 by (have e := beq_iff_eq.1 b4; subst e; rfl)]; exact Form_4 op w hf b0 b1 b2 b3 b4
  cases b5 : Opc.inR op 32 36
  rotate_left
  · rw [show Opc.form op = 4 by unfold Opc.form; simp [hf, b0, beq_eq_false_iff_ne.1 b1, beq_eq_false_iff_ne.1 b2, beq_eq_false_iff_ne.1 b3, beq_eq_false_iff_ne.1 b4, b5]]; exact Form_5 op w hf b0 b1 b2 b3 b4 b5
  cases b6 : (op == 17)
  rotate_left
  · rw [show Opc.form op = 5 by (have e := beq_iff_eq.1 b6; subst e; rfl)]; exact Form_6 op w hf b0 b1 b2 b3 b4 b5 b6
  cases b7 : Opc.inR op 40 62
  rotate_left
  · rw [show Opc.form op = 6 by unfold Opc.form; simp [hf, b0, beq_eq_false_iff_ne.1 b1, beq_eq_false_iff_ne.1 b2, beq_eq_false_iff_ne.1 b3, beq_eq_false_iff_ne.1 b4, b5, beq_eq_false_iff_ne.1 b6, b7]]; exact Form_7 op w hf b0 b1 b2 b3 b4 b5 b6 b7
  cases b8 : (op == 63)
  rotate_left
  · rw [show Opc.form op = 7 by (have e := beq_iff_eq.1 b8; subst e; rfl)]; exact Form_8 op w hf b0 b1 b2 b3 b4 b5 b6 b7 b8
  cases b9 : (op == 64)
  rotate_left
  · rw [show Opc.form op = 7 by (have e := beq_iff_eq.1 b9; subst e; rfl)]; exact Form_9 op w hf b0 b1 b2 b3 b4 b5 b6 b7 b8 b9
  cases b10 : (op == 65)
  rotate_left
  · rw [show Opc.form op = 8 by (have e := beq_iff_eq.1 b10; subst e; rfl)]; exact Form_10 op w hf b0 b1 b2 b3 b4 b5 b6 b7 b8 b9 b10
  cases b11 : (op == 66)
  rotate_left
  · rw [show Opc.form op = 9 by (have e := beq_iff_eq.1 b11; subst e; rfl)]; exact Form_11 op w hf b0 b1 b2 b3 b4 b5 b6 b7 b8 b9 b10 b11
  · rw [show Opc.form op = 0 by unfold Opc.form; simp [hf, b0, beq_eq_false_iff_ne.1 b1, beq_eq_false_iff_ne.1 b2, beq_eq_false_iff_ne.1 b3, beq_eq_false_iff_ne.1 b4, b5, beq_eq_false_iff_ne.1 b6, b7, beq_eq_false_iff_ne.1 b8, beq_eq_false_iff_ne.1 b9, beq_eq_false_iff_ne.1 b10, beq_eq_false_iff_ne.1 b11]]; exact Form_12 op w hf b0 b1 b2 b3 b4 b5 b6 b7 b8 b9 b10 b11
end Go.Proofs.Ytokidabnjodglaa
