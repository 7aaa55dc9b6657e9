/- CostRound: where the first list is long; printed by gen_round.py. No condition. -/
import Derived.Test.YtlnofmgelkohoaaCostRoundPlain
namespace Go.Proofs.Ytlnofmgelkohoaa
open Go.RowKit
set_option linter.unusedVariables false

set_option maxRecDepth 100000 in
set_option maxHeartbeats 4000000 in
theorem round_12A (a b : Int) (v vm : Value) (l m : List Ins) (w : World) (hv : IsIns w v l) (hm : IsIns w vm m) (hl : 2000 < l.length) :
    Calls Try.prog 4 #[.int .u8 12, .int .u32 a, .int .u32 b, v, vm] w fun e w' => e = .returned (.bool true) ∧ Below w.heap.size w w' := by
  have HV := Lib.hid hv
  have HM := Lib.hid hm
  obtain ⟨la, cap, rfl, hc1, hc2, hc3⟩ := hv
  obtain ⟨ma, mcap, rfl, hd1, hd2, hd3⟩ := hm
  clear hc3 hd3
  go_enter Try.func4, Try.ntmps4
  go_wp2_with fail
  refine (known_any _).mono ?_
  rintro e w1 ⟨rfl, hb1⟩
  have B1 := Lib.hid hb1; clear hb1
  go_wp2_with fail
  refine (Of_any _ _ _ _ _ _ (by decide) (by decide)).mono ?_
  rintro e w2 ⟨rfl, hb2⟩
  have B2 := Lib.hid hb2; clear hb2
  go_wp2_with fail
  have hd3 : Below w2.heap.size w2 (w2.alloc (Obj.cells #[Value.int .u32 b] 22)) := (Below.refl _ _).alloc (Nat.le_refl _) _
  generalize w2.alloc (Obj.cells #[Value.int .u32 b] 22) = w3 at *
  have B3 := Lib.hid hd3; clear hd3
  refine (Of_any _ _ _ _ _ _ (by decide) (by decide)).mono ?_
  rintro e w4 ⟨rfl, hb4⟩
  have B4 := Lib.hid hb4; clear hb4
  have hn20 : Cost.of 12 ≤ 20 := (Cost.of_le 12).2
  have hn0 : (Cost.of 12 == 0) = false := by decide
  have hb4 : Below w.heap.size w w4 := by
    have s1 := B1.out.size; have s2 := B2.out.size; have s3 := B3.out.size
    exact B1.out.trans ((B2.out.mono s1).trans ((B3.out.mono (by omega)).trans (B4.out.mono (by omega))))
  have V4 := Lib.hid (HV.out.old keeps_ins (Old.of_below hb4 (Nat.le_refl _)))
  have M4 := Lib.hid (HM.out.old keeps_ins (Old.of_below hb4 (Nat.le_refl _)))
  have D4 := Lib.hid hb4
  clear hb4
  go_wp2_with fail
  go_ret
  exact ⟨rfl, D4.out⟩
set_option maxRecDepth 100000 in
set_option maxHeartbeats 4000000 in
theorem round_13A (a b : Int) (v vm : Value) (l m : List Ins) (w : World) (hv : IsIns w v l) (hm : IsIns w vm m) (hl : 2000 < l.length) :
    Calls Try.prog 4 #[.int .u8 13, .int .u32 a, .int .u32 b, v, vm] w fun e w' => e = .returned (.bool true) ∧ Below w.heap.size w w' := by
  have HV := Lib.hid hv
  have HM := Lib.hid hm
  obtain ⟨la, cap, rfl, hc1, hc2, hc3⟩ := hv
  obtain ⟨ma, mcap, rfl, hd1, hd2, hd3⟩ := hm
  clear hc3 hd3
  go_enter Try.func4, Try.ntmps4
  go_wp2_with fail
  refine (known_any _).mono ?_
  rintro e w1 ⟨rfl, hb1⟩
  have B1 := Lib.hid hb1; clear hb1
  go_wp2_with fail
  refine (Of_any _ _ _ _ _ _ (by decide) (by decide)).mono ?_
  rintro e w2 ⟨rfl, hb2⟩
  have B2 := Lib.hid hb2; clear hb2
  go_wp2_with fail
  have hd3 : Below w2.heap.size w2 (w2.alloc (Obj.cells #[Value.int .u32 b] 22)) := (Below.refl _ _).alloc (Nat.le_refl _) _
  generalize w2.alloc (Obj.cells #[Value.int .u32 b] 22) = w3 at *
  have B3 := Lib.hid hd3; clear hd3
  refine (Of_any _ _ _ _ _ _ (by decide) (by decide)).mono ?_
  rintro e w4 ⟨rfl, hb4⟩
  have B4 := Lib.hid hb4; clear hb4
  have hn20 : Cost.of 13 ≤ 20 := (Cost.of_le 13).2
  have hn0 : (Cost.of 13 == 0) = false := by decide
  have hb4 : Below w.heap.size w w4 := by
    have s1 := B1.out.size; have s2 := B2.out.size; have s3 := B3.out.size
    exact B1.out.trans ((B2.out.mono s1).trans ((B3.out.mono (by omega)).trans (B4.out.mono (by omega))))
  have V4 := Lib.hid (HV.out.old keeps_ins (Old.of_below hb4 (Nat.le_refl _)))
  have M4 := Lib.hid (HM.out.old keeps_ins (Old.of_below hb4 (Nat.le_refl _)))
  have D4 := Lib.hid hb4
  clear hb4
  go_wp2_with fail
  go_ret
  exact ⟨rfl, D4.out⟩
set_option maxRecDepth 100000 in
set_option maxHeartbeats 4000000 in
theorem round_14A (a b : Int) (v vm : Value) (l m : List Ins) (w : World) (hv : IsIns w v l) (hm : IsIns w vm m) (hl : 2000 < l.length) :
    Calls Try.prog 4 #[.int .u8 14, .int .u32 a, .int .u32 b, v, vm] w fun e w' => e = .returned (.bool true) ∧ Below w.heap.size w w' := by
  have HV := Lib.hid hv
  have HM := Lib.hid hm
  obtain ⟨la, cap, rfl, hc1, hc2, hc3⟩ := hv
  obtain ⟨ma, mcap, rfl, hd1, hd2, hd3⟩ := hm
  clear hc3 hd3
  go_enter Try.func4, Try.ntmps4
  go_wp2_with fail
  refine (known_any _).mono ?_
  rintro e w1 ⟨rfl, hb1⟩
  have B1 := Lib.hid hb1; clear hb1
  go_wp2_with fail
  refine (Of_any _ _ _ _ _ _ (by decide) (by decide)).mono ?_
  rintro e w2 ⟨rfl, hb2⟩
  have B2 := Lib.hid hb2; clear hb2
  go_wp2_with fail
  have hd3 : Below w2.heap.size w2 (w2.alloc (Obj.cells #[Value.int .u32 b] 22)) := (Below.refl _ _).alloc (Nat.le_refl _) _
  generalize w2.alloc (Obj.cells #[Value.int .u32 b] 22) = w3 at *
  have B3 := Lib.hid hd3; clear hd3
  refine (Of_any _ _ _ _ _ _ (by decide) (by decide)).mono ?_
  rintro e w4 ⟨rfl, hb4⟩
  have B4 := Lib.hid hb4; clear hb4
  have hn20 : Cost.of 14 ≤ 20 := (Cost.of_le 14).2
  have hn0 : (Cost.of 14 == 0) = false := by decide
  have hb4 : Below w.heap.size w w4 := by
    have s1 := B1.out.size; have s2 := B2.out.size; have s3 := B3.out.size
    exact B1.out.trans ((B2.out.mono s1).trans ((B3.out.mono (by omega)).trans (B4.out.mono (by omega))))
  have V4 := Lib.hid (HV.out.old keeps_ins (Old.of_below hb4 (Nat.le_refl _)))
  have M4 := Lib.hid (HM.out.old keeps_ins (Old.of_below hb4 (Nat.le_refl _)))
  have D4 := Lib.hid hb4
  clear hb4
  go_wp2_with fail
  go_ret
  exact ⟨rfl, D4.out⟩
set_option maxRecDepth 100000 in
set_option maxHeartbeats 4000000 in
theorem round_16A (a b : Int) (v vm : Value) (l m : List Ins) (w : World) (hv : IsIns w v l) (hm : IsIns w vm m) (hl : 2000 < l.length) :
    Calls Try.prog 4 #[.int .u8 16, .int .u32 a, .int .u32 b, v, vm] w fun e w' => e = .returned (.bool true) ∧ Below w.heap.size w w' := by
  have HV := Lib.hid hv
  have HM := Lib.hid hm
  obtain ⟨la, cap, rfl, hc1, hc2, hc3⟩ := hv
  obtain ⟨ma, mcap, rfl, hd1, hd2, hd3⟩ := hm
  clear hc3 hd3
  go_enter Try.func4, Try.ntmps4
  go_wp2_with fail
  refine (known_any _).mono ?_
  rintro e w1 ⟨rfl, hb1⟩
  have B1 := Lib.hid hb1; clear hb1
  go_wp2_with fail
  refine (Of_any _ _ _ _ _ _ (by decide) (by decide)).mono ?_
  rintro e w2 ⟨rfl, hb2⟩
  have B2 := Lib.hid hb2; clear hb2
  go_wp2_with fail
  have hd3 : Below w2.heap.size w2 (w2.alloc (Obj.cells #[Value.int .u32 b] 22)) := (Below.refl _ _).alloc (Nat.le_refl _) _
  generalize w2.alloc (Obj.cells #[Value.int .u32 b] 22) = w3 at *
  have B3 := Lib.hid hd3; clear hd3
  refine (Of_any _ _ _ _ _ _ (by decide) (by decide)).mono ?_
  rintro e w4 ⟨rfl, hb4⟩
  have B4 := Lib.hid hb4; clear hb4
  have hn20 : Cost.of 16 ≤ 20 := (Cost.of_le 16).2
  have hn0 : (Cost.of 16 == 0) = false := by decide
  have hb4 : Below w.heap.size w w4 := by
    have s1 := B1.out.size; have s2 := B2.out.size; have s3 := B3.out.size
    exact B1.out.trans ((B2.out.mono s1).trans ((B3.out.mono (by omega)).trans (B4.out.mono (by omega))))
  have V4 := Lib.hid (HV.out.old keeps_ins (Old.of_below hb4 (Nat.le_refl _)))
  have M4 := Lib.hid (HM.out.old keeps_ins (Old.of_below hb4 (Nat.le_refl _)))
  have D4 := Lib.hid hb4
  clear hb4
  go_wp2_with fail
  go_ret
  exact ⟨rfl, D4.out⟩
set_option maxRecDepth 100000 in
set_option maxHeartbeats 4000000 in
theorem round_17A (a b : Int) (v vm : Value) (l m : List Ins) (w : World) (hv : IsIns w v l) (hm : IsIns w vm m) (hl : 2000 < l.length) :
    Calls Try.prog 4 #[.int .u8 17, .int .u32 a, .int .u32 b, v, vm] w fun e w' => e = .returned (.bool true) ∧ Below w.heap.size w w' := by
  have HV := Lib.hid hv
  have HM := Lib.hid hm
  obtain ⟨la, cap, rfl, hc1, hc2, hc3⟩ := hv
  obtain ⟨ma, mcap, rfl, hd1, hd2, hd3⟩ := hm
  clear hc3 hd3
  go_enter Try.func4, Try.ntmps4
  go_wp2_with fail
  refine (known_any _).mono ?_
  rintro e w1 ⟨rfl, hb1⟩
  have B1 := Lib.hid hb1; clear hb1
  go_wp2_with fail
  refine (Of_any _ _ _ _ _ _ (by decide) (by decide)).mono ?_
  rintro e w2 ⟨rfl, hb2⟩
  have B2 := Lib.hid hb2; clear hb2
  go_wp2_with fail
  have hd3 : Below w2.heap.size w2 (w2.alloc (Obj.cells #[Value.int .u32 b] 22)) := (Below.refl _ _).alloc (Nat.le_refl _) _
  generalize w2.alloc (Obj.cells #[Value.int .u32 b] 22) = w3 at *
  have B3 := Lib.hid hd3; clear hd3
  refine (Of_any _ _ _ _ _ _ (by decide) (by decide)).mono ?_
  rintro e w4 ⟨rfl, hb4⟩
  have B4 := Lib.hid hb4; clear hb4
  have hn20 : Cost.of 17 ≤ 20 := (Cost.of_le 17).2
  have hn0 : (Cost.of 17 == 0) = false := by decide
  have hb4 : Below w.heap.size w w4 := by
    have s1 := B1.out.size; have s2 := B2.out.size; have s3 := B3.out.size
    exact B1.out.trans ((B2.out.mono s1).trans ((B3.out.mono (by omega)).trans (B4.out.mono (by omega))))
  have V4 := Lib.hid (HV.out.old keeps_ins (Old.of_below hb4 (Nat.le_refl _)))
  have M4 := Lib.hid (HM.out.old keeps_ins (Old.of_below hb4 (Nat.le_refl _)))
  have D4 := Lib.hid hb4
  clear hb4
  go_wp2_with fail
  go_ret
  exact ⟨rfl, D4.out⟩
set_option maxRecDepth 100000 in
set_option maxHeartbeats 4000000 in
theorem round_15A (a b : Int) (v vm : Value) (l m : List Ins) (w : World) (hv : IsIns w v l) (hm : IsIns w vm m) (hl : 2000 < l.length) :
    Calls Try.prog 4 #[.int .u8 15, .int .u32 a, .int .u32 b, v, vm] w fun e w' => e = .returned (.bool true) ∧ Below w.heap.size w w' := by
  have HV := Lib.hid hv
  have HM := Lib.hid hm
  obtain ⟨la, cap, rfl, hc1, hc2, hc3⟩ := hv
  obtain ⟨ma, mcap, rfl, hd1, hd2, hd3⟩ := hm
  clear hc3 hd3
  go_enter Try.func4, Try.ntmps4
  go_wp2_with fail
  refine (known_any _).mono ?_
  rintro e w1 ⟨rfl, hb1⟩
  have B1 := Lib.hid hb1; clear hb1
  go_wp2_with fail
  refine (Of_any _ _ _ _ _ _ (by decide) (by decide)).mono ?_
  rintro e w2 ⟨rfl, hb2⟩
  have B2 := Lib.hid hb2; clear hb2
  go_wp2_with fail
  have hd3 : Below w2.heap.size w2 (w2.alloc (Obj.cells #[Value.int .u32 b] 22)) := (Below.refl _ _).alloc (Nat.le_refl _) _
  generalize w2.alloc (Obj.cells #[Value.int .u32 b] 22) = w3 at *
  have B3 := Lib.hid hd3; clear hd3
  refine (Of_any _ _ _ _ _ _ (by decide) (by decide)).mono ?_
  rintro e w4 ⟨rfl, hb4⟩
  have B4 := Lib.hid hb4; clear hb4
  have hn20 : Cost.of 15 ≤ 20 := (Cost.of_le 15).2
  have hn0 : (Cost.of 15 == 0) = false := by decide
  have hb4 : Below w.heap.size w w4 := by
    have s1 := B1.out.size; have s2 := B2.out.size; have s3 := B3.out.size
    exact B1.out.trans ((B2.out.mono s1).trans ((B3.out.mono (by omega)).trans (B4.out.mono (by omega))))
  have V4 := Lib.hid (HV.out.old keeps_ins (Old.of_below hb4 (Nat.le_refl _)))
  have M4 := Lib.hid (HM.out.old keeps_ins (Old.of_below hb4 (Nat.le_refl _)))
  have D4 := Lib.hid hb4
  clear hb4
  go_wp2_with fail
  go_ret
  exact ⟨rfl, D4.out⟩
set_option maxRecDepth 100000 in
set_option maxHeartbeats 4000000 in
theorem round_2A (a b : Int) (v vm : Value) (l m : List Ins) (w : World) (hv : IsIns w v l) (hm : IsIns w vm m) (hl : 2000 < l.length) :
    Calls Try.prog 4 #[.int .u8 2, .int .u32 a, .int .u32 b, v, vm] w fun e w' => e = .returned (.bool true) ∧ Below w.heap.size w w' := by
  have HV := Lib.hid hv
  have HM := Lib.hid hm
  obtain ⟨la, cap, rfl, hc1, hc2, hc3⟩ := hv
  obtain ⟨ma, mcap, rfl, hd1, hd2, hd3⟩ := hm
  clear hc3 hd3
  go_enter Try.func4, Try.ntmps4
  go_wp2_with fail
  refine (known_any _).mono ?_
  rintro e w1 ⟨rfl, hb1⟩
  have B1 := Lib.hid hb1; clear hb1
  go_wp2_with fail
  refine (Of_any _ _ _ _ _ _ (by decide) (by decide)).mono ?_
  rintro e w2 ⟨rfl, hb2⟩
  have B2 := Lib.hid hb2; clear hb2
  go_wp2_with fail
  have hd3 : Below w2.heap.size w2 (w2.alloc (Obj.cells #[Value.int .u32 b] 22)) := (Below.refl _ _).alloc (Nat.le_refl _) _
  generalize w2.alloc (Obj.cells #[Value.int .u32 b] 22) = w3 at *
  have B3 := Lib.hid hd3; clear hd3
  refine (Of_any _ _ _ _ _ _ (by decide) (by decide)).mono ?_
  rintro e w4 ⟨rfl, hb4⟩
  have B4 := Lib.hid hb4; clear hb4
  have hn20 : Cost.of 2 ≤ 20 := (Cost.of_le 2).2
  have hn0 : (Cost.of 2 == 0) = true := by decide
  have hb4 : Below w.heap.size w w4 := by
    have s1 := B1.out.size; have s2 := B2.out.size; have s3 := B3.out.size
    exact B1.out.trans ((B2.out.mono s1).trans ((B3.out.mono (by omega)).trans (B4.out.mono (by omega))))
  have V4 := Lib.hid (HV.out.old keeps_ins (Old.of_below hb4 (Nat.le_refl _)))
  have M4 := Lib.hid (HM.out.old keeps_ins (Old.of_below hb4 (Nat.le_refl _)))
  have D4 := Lib.hid hb4
  clear hb4
  go_wp2_with fail
  go_ret
  exact ⟨rfl, D4.out⟩
set_option maxRecDepth 100000 in
set_option maxHeartbeats 4000000 in
theorem round_3A (a b : Int) (v vm : Value) (l m : List Ins) (w : World) (hv : IsIns w v l) (hm : IsIns w vm m) (hl : 2000 < l.length) :
    Calls Try.prog 4 #[.int .u8 3, .int .u32 a, .int .u32 b, v, vm] w fun e w' => e = .returned (.bool true) ∧ Below w.heap.size w w' := by
  have HV := Lib.hid hv
  have HM := Lib.hid hm
  obtain ⟨la, cap, rfl, hc1, hc2, hc3⟩ := hv
  obtain ⟨ma, mcap, rfl, hd1, hd2, hd3⟩ := hm
  clear hc3 hd3
  go_enter Try.func4, Try.ntmps4
  go_wp2_with fail
  refine (known_any _).mono ?_
  rintro e w1 ⟨rfl, hb1⟩
  have B1 := Lib.hid hb1; clear hb1
  go_wp2_with fail
  refine (Of_any _ _ _ _ _ _ (by decide) (by decide)).mono ?_
  rintro e w2 ⟨rfl, hb2⟩
  have B2 := Lib.hid hb2; clear hb2
  go_wp2_with fail
  have hd3 : Below w2.heap.size w2 (w2.alloc (Obj.cells #[Value.int .u32 b] 22)) := (Below.refl _ _).alloc (Nat.le_refl _) _
  generalize w2.alloc (Obj.cells #[Value.int .u32 b] 22) = w3 at *
  have B3 := Lib.hid hd3; clear hd3
  refine (Of_any _ _ _ _ _ _ (by decide) (by decide)).mono ?_
  rintro e w4 ⟨rfl, hb4⟩
  have B4 := Lib.hid hb4; clear hb4
  have hn20 : Cost.of 3 ≤ 20 := (Cost.of_le 3).2
  have hn0 : (Cost.of 3 == 0) = true := by decide
  have hb4 : Below w.heap.size w w4 := by
    have s1 := B1.out.size; have s2 := B2.out.size; have s3 := B3.out.size
    exact B1.out.trans ((B2.out.mono s1).trans ((B3.out.mono (by omega)).trans (B4.out.mono (by omega))))
  have V4 := Lib.hid (HV.out.old keeps_ins (Old.of_below hb4 (Nat.le_refl _)))
  have M4 := Lib.hid (HM.out.old keeps_ins (Old.of_below hb4 (Nat.le_refl _)))
  have D4 := Lib.hid hb4
  clear hb4
  go_wp2_with fail
  go_ret
  exact ⟨rfl, D4.out⟩
set_option maxRecDepth 100000 in
set_option maxHeartbeats 4000000 in
theorem round_5A (a b : Int) (v vm : Value) (l m : List Ins) (w : World) (hv : IsIns w v l) (hm : IsIns w vm m) (hl : 2000 < l.length) :
    Calls Try.prog 4 #[.int .u8 5, .int .u32 a, .int .u32 b, v, vm] w fun e w' => e = .returned (.bool true) ∧ Below w.heap.size w w' := by
  have HV := Lib.hid hv
  have HM := Lib.hid hm
  obtain ⟨la, cap, rfl, hc1, hc2, hc3⟩ := hv
  obtain ⟨ma, mcap, rfl, hd1, hd2, hd3⟩ := hm
  clear hc3 hd3
  go_enter Try.func4, Try.ntmps4
  go_wp2_with fail
  refine (known_any _).mono ?_
  rintro e w1 ⟨rfl, hb1⟩
  have B1 := Lib.hid hb1; clear hb1
  go_wp2_with fail
  refine (Of_any _ _ _ _ _ _ (by decide) (by decide)).mono ?_
  rintro e w2 ⟨rfl, hb2⟩
  have B2 := Lib.hid hb2; clear hb2
  go_wp2_with fail
  have hd3 : Below w2.heap.size w2 (w2.alloc (Obj.cells #[Value.int .u32 b] 22)) := (Below.refl _ _).alloc (Nat.le_refl _) _
  generalize w2.alloc (Obj.cells #[Value.int .u32 b] 22) = w3 at *
  have B3 := Lib.hid hd3; clear hd3
  refine (Of_any _ _ _ _ _ _ (by decide) (by decide)).mono ?_
  rintro e w4 ⟨rfl, hb4⟩
  have B4 := Lib.hid hb4; clear hb4
  have hn20 : Cost.of 5 ≤ 20 := (Cost.of_le 5).2
  have hn0 : (Cost.of 5 == 0) = true := by decide
  have hb4 : Below w.heap.size w w4 := by
    have s1 := B1.out.size; have s2 := B2.out.size; have s3 := B3.out.size
    exact B1.out.trans ((B2.out.mono s1).trans ((B3.out.mono (by omega)).trans (B4.out.mono (by omega))))
  have V4 := Lib.hid (HV.out.old keeps_ins (Old.of_below hb4 (Nat.le_refl _)))
  have M4 := Lib.hid (HM.out.old keeps_ins (Old.of_below hb4 (Nat.le_refl _)))
  have D4 := Lib.hid hb4
  clear hb4
  go_wp2_with fail
  go_ret
  exact ⟨rfl, D4.out⟩
set_option maxRecDepth 100000 in
set_option maxHeartbeats 4000000 in
theorem round_11A (a b : Int) (v vm : Value) (l m : List Ins) (w : World) (hv : IsIns w v l) (hm : IsIns w vm m) (hl : 2000 < l.length) :
    Calls Try.prog 4 #[.int .u8 11, .int .u32 a, .int .u32 b, v, vm] w fun e w' => e = .returned (.bool true) ∧ Below w.heap.size w w' := by
  have HV := Lib.hid hv
  have HM := Lib.hid hm
  obtain ⟨la, cap, rfl, hc1, hc2, hc3⟩ := hv
  obtain ⟨ma, mcap, rfl, hd1, hd2, hd3⟩ := hm
  clear hc3 hd3
  go_enter Try.func4, Try.ntmps4
  go_wp2_with fail
  refine (known_any _).mono ?_
  rintro e w1 ⟨rfl, hb1⟩
  have B1 := Lib.hid hb1; clear hb1
  go_wp2_with fail
  refine (Of_any _ _ _ _ _ _ (by decide) (by decide)).mono ?_
  rintro e w2 ⟨rfl, hb2⟩
  have B2 := Lib.hid hb2; clear hb2
  go_wp2_with fail
  have hd3 : Below w2.heap.size w2 (w2.alloc (Obj.cells #[Value.int .u32 b] 22)) := (Below.refl _ _).alloc (Nat.le_refl _) _
  generalize w2.alloc (Obj.cells #[Value.int .u32 b] 22) = w3 at *
  have B3 := Lib.hid hd3; clear hd3
  refine (Of_any _ _ _ _ _ _ (by decide) (by decide)).mono ?_
  rintro e w4 ⟨rfl, hb4⟩
  have B4 := Lib.hid hb4; clear hb4
  have hn20 : Cost.of 11 ≤ 20 := (Cost.of_le 11).2
  have hn0 : (Cost.of 11 == 0) = true := by decide
  have hb4 : Below w.heap.size w w4 := by
    have s1 := B1.out.size; have s2 := B2.out.size; have s3 := B3.out.size
    exact B1.out.trans ((B2.out.mono s1).trans ((B3.out.mono (by omega)).trans (B4.out.mono (by omega))))
  have V4 := Lib.hid (HV.out.old keeps_ins (Old.of_below hb4 (Nat.le_refl _)))
  have M4 := Lib.hid (HM.out.old keeps_ins (Old.of_below hb4 (Nat.le_refl _)))
  have D4 := Lib.hid hb4
  clear hb4
  go_wp2_with fail
  go_ret
  exact ⟨rfl, D4.out⟩
set_option maxRecDepth 100000 in
set_option maxHeartbeats 4000000 in
theorem round_tA (op : Int) (h0 : 0 ≤ op) (h1 : op < 256) (n12 : (op == 12) = false) (n13 : (op == 13) = false) (n14 : (op == 14) = false) (n16 : (op == 16) = false) (n17 : (op == 17) = false) (n15 : (op == 15) = false) (n2 : (op == 2) = false) (n3 : (op == 3) = false) (n5 : (op == 5) = false) (n11 : (op == 11) = false) (hk : Opc.known op = true) (hg : 0 < Cost.of op) (a b : Int) (v vm : Value) (l m : List Ins) (w : World) (hv : IsIns w v l) (hm : IsIns w vm m) (hl : 2000 < l.length) :
    Calls Try.prog 4 #[.int .u8 op, .int .u32 a, .int .u32 b, v, vm] w fun e w' => e = .returned (.bool true) ∧ Below w.heap.size w w' := by
  have HV := Lib.hid hv
  have HM := Lib.hid hm
  obtain ⟨la, cap, rfl, hc1, hc2, hc3⟩ := hv
  obtain ⟨ma, mcap, rfl, hd1, hd2, hd3⟩ := hm
  clear hc3 hd3
  go_enter Try.func4, Try.ntmps4
  go_wp2_with fail
  refine (known_any _).mono ?_
  rintro e w1 ⟨rfl, hb1⟩
  have B1 := Lib.hid hb1; clear hb1
  go_wp2_with fail
  refine (Of_any _ _ _ _ _ _ h0 h1).mono ?_
  rintro e w2 ⟨rfl, hb2⟩
  have B2 := Lib.hid hb2; clear hb2
  go_wp2_with fail
  have hd3 : Below w2.heap.size w2 (w2.alloc (Obj.cells #[Value.int .u32 b] 22)) := (Below.refl _ _).alloc (Nat.le_refl _) _
  generalize w2.alloc (Obj.cells #[Value.int .u32 b] 22) = w3 at *
  have B3 := Lib.hid hd3; clear hd3
  refine (Of_any _ _ _ _ _ _ h0 h1).mono ?_
  rintro e w4 ⟨rfl, hb4⟩
  have B4 := Lib.hid hb4; clear hb4
  have hn20 : Cost.of op ≤ 20 := (Cost.of_le op).2
  have hb4 : Below w.heap.size w w4 := by
    have s1 := B1.out.size; have s2 := B2.out.size; have s3 := B3.out.size
    exact B1.out.trans ((B2.out.mono s1).trans ((B3.out.mono (by omega)).trans (B4.out.mono (by omega))))
  have V4 := Lib.hid (HV.out.old keeps_ins (Old.of_below hb4 (Nat.le_refl _)))
  have M4 := Lib.hid (HM.out.old keeps_ins (Old.of_below hb4 (Nat.le_refl _)))
  have D4 := Lib.hid hb4
  clear hb4
  go_wp2_with (first | (go_at_call 9; refine (Known_any _ _).mono ?_; rintro e w' ⟨rfl, rfl⟩))
  go_ret
  exact ⟨rfl, D4.out⟩
set_option maxRecDepth 100000 in
set_option maxHeartbeats 4000000 in
theorem round_fA (op : Int) (h0 : 0 ≤ op) (h1 : op < 256) (n12 : (op == 12) = false) (n13 : (op == 13) = false) (n14 : (op == 14) = false) (n16 : (op == 16) = false) (n17 : (op == 17) = false) (n15 : (op == 15) = false) (n2 : (op == 2) = false) (n3 : (op == 3) = false) (n5 : (op == 5) = false) (n11 : (op == 11) = false) (hk : Opc.known op = false) (hg : ¬ 0 < Cost.of op) (a b : Int) (v vm : Value) (l m : List Ins) (w : World) (hv : IsIns w v l) (hm : IsIns w vm m) (hl : 2000 < l.length) :
    Calls Try.prog 4 #[.int .u8 op, .int .u32 a, .int .u32 b, v, vm] w fun e w' => e = .returned (.bool true) ∧ Below w.heap.size w w' := by
  have HV := Lib.hid hv
  have HM := Lib.hid hm
  obtain ⟨la, cap, rfl, hc1, hc2, hc3⟩ := hv
  obtain ⟨ma, mcap, rfl, hd1, hd2, hd3⟩ := hm
  clear hc3 hd3
  go_enter Try.func4, Try.ntmps4
  go_wp2_with fail
  refine (known_any _).mono ?_
  rintro e w1 ⟨rfl, hb1⟩
  have B1 := Lib.hid hb1; clear hb1
  go_wp2_with fail
  refine (Of_any _ _ _ _ _ _ h0 h1).mono ?_
  rintro e w2 ⟨rfl, hb2⟩
  have B2 := Lib.hid hb2; clear hb2
  go_wp2_with fail
  have hd3 : Below w2.heap.size w2 (w2.alloc (Obj.cells #[Value.int .u32 b] 22)) := (Below.refl _ _).alloc (Nat.le_refl _) _
  generalize w2.alloc (Obj.cells #[Value.int .u32 b] 22) = w3 at *
  have B3 := Lib.hid hd3; clear hd3
  refine (Of_any _ _ _ _ _ _ h0 h1).mono ?_
  rintro e w4 ⟨rfl, hb4⟩
  have B4 := Lib.hid hb4; clear hb4
  have hn20 : Cost.of op ≤ 20 := (Cost.of_le op).2
  have hb4 : Below w.heap.size w w4 := by
    have s1 := B1.out.size; have s2 := B2.out.size; have s3 := B3.out.size
    exact B1.out.trans ((B2.out.mono s1).trans ((B3.out.mono (by omega)).trans (B4.out.mono (by omega))))
  have V4 := Lib.hid (HV.out.old keeps_ins (Old.of_below hb4 (Nat.le_refl _)))
  have M4 := Lib.hid (HM.out.old keeps_ins (Old.of_below hb4 (Nat.le_refl _)))
  have D4 := Lib.hid hb4
  clear hb4
  go_wp2_with (first | (go_at_call 9; refine (Known_any _ _).mono ?_; rintro e w' ⟨rfl, rfl⟩))
  go_ret
  exact ⟨rfl, D4.out⟩
end Go.Proofs.Ytlnofmgelkohoaa
