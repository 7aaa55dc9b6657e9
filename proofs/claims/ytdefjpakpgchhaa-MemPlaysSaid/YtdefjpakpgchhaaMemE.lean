/- What works, and the examples. No condition. -/
import Derived.Test.YtdefjpakpgchhaaMemD
namespace Go.Proofs.Ytdefjpakpgchhaa
open Go Go.RowKit
set_option linter.unusedVariables false
set_option linter.unusedSimpArgs false
set_option linter.unnecessarySimpa false

theorem prt_putAt_take {bs l : List Int} {p w : Nat} (h : p + l.length ≤ bs.length) (hw : w ≤ l.length) : prt (putAt bs p l) p w = l.take w := by
  unfold prt putAt
  have e : (bs.take p).length = p := by simp; omega
  rw [List.append_assoc, List.take_append, List.drop_append]
  rw [List.take_of_length_le (by omega), e, Nat.sub_self, List.drop_of_length_le (by omega), List.nil_append, List.drop_zero, Nat.add_sub_cancel_left]
  rw [List.take_append_of_le_length hw]
theorem Nx.fresh {H : Heap} {B g : Nat} {v v' : Value} (h : Nx H v v') (f : Fresh B g v) (hB : B ≤ H.size) : Fresh B g v' := by
  refine ⟨f.1, ?_⟩
  rcases h with h | ⟨h1, h2⟩ | h
  · exact .inl h
  · rw [h2]; exact .inr (f.2.resolve_left h1)
  · exact .inr (by omega)
theorem zeros1_len : (zeros 1).length = 65536 := by rw [zeros_length]; rfl
def wS : List Int := putAt (zeros 1) 4 (bytesOf 4294967168 4)
theorem wS_len : wS.length = 65536 := by unfold wS; rw [putAt_length (by rw [zeros1_len, bytesOf_length]; omega), zeros1_len]
theorem wS_store : storeB (zeros 1) 54 (4 + 0) 4294967168 = wS := by
  unfold storeB
  rw [if_pos (by unfold inA; rw [zeros1_len]; decide)]
  rfl
theorem wS_ok : decide (inA (zeros 1) 54 62 54 (4 + 0)) = true := decide_eq_true (by unfold inA; rw [zeros1_len]; decide)
theorem wS_is {op x : Int} (h1 : 40 ≤ op ∧ op ≤ 53) (h2 : mw op ≠ 0 ∧ mw op ≤ 4) (hx : loadN op (ld ((bytesOf 4294967168 4).take (mw op))) = x) : (decide (inA wS 40 53 op (4 + 0)) && decide (loadX wS op (4 + 0) = x)) = true := by
  have hA : inA wS 40 53 op (4 + 0) := by unfold inA; rw [wS_len]; omega
  rw [decide_eq_true hA, Bool.true_and]
  apply decide_eq_true
  unfold loadX
  rw [if_pos hA]
  have e : prt wS (4 + 0 : Int).toNat (mw op) = (bytesOf 4294967168 4).take (mw op) := prt_putAt_take (by rw [zeros1_len, bytesOf_length]; omega) (by rw [bytesOf_length]; omega)
  rw [e, hx]
theorem wS2_len : (wS ++ zeros 15).length = 1048576 := by rw [List.length_append, wS_len, zeros_length]; rfl

set_option maxRecDepth 100000 in
set_option maxHeartbeats 4000000 in
theorem works_any {H : Heap} : Ct Try.prog 8 [] H (fun u H' => u = .bool true ∧ Old H H') := by
  refine Ct.mk Try.func8 rfl Try.ntmps8 rfl ?_
  intro W0 hW0
  have o0 : Old H H := Old.refl H
  refine KC.seq ?_
  refine KC.region ?_
  refine KL.op (R.assign rfl rfl) rfl rfl rfl ?_
  refine KL.nil ?_
  refine KQ.seq ?_
  refine KC.seq ?_
  refine KC.region ?_
  refine KL.call rfl rfl rfl rfl Try.call9 rfl rfl rfl (one_any) ?_
  rintro _ H1 ⟨g, v, rfl, hm, hf, ox⟩
  have o0 := o0.trans ox
  refine KL.op (R.assign rfl rfl) rfl rfl rfl ?_
  refine KL.nil ?_
  refine KQ.seq ?_
  refine KC.seq ?_
  refine KC.region ?_
  refine KL.op (R.move rfl rfl) rfl rfl rfl ?_
  refine KL.call rfl rfl rfl rfl Try.call14 rfl rfl rfl (Store_any _ _ _ _ hm 54 4 0 (by dsimp only [InR]; omega) (by dsimp only [InR]; omega) (by dsimp only [InR]; omega) 4294967168 (by dsimp only [InR]; omega)) ?_
  rintro _ H2 ⟨rfl, hm1, f1⟩
  rw [wS_ok]
  rw [wS_store] at hm1
  have ob1 := f1.ob (B := H.size) (by have := o0.1; omega) ⟨by have := hf.1; omega, hf.2.imp id (fun h => by omega)⟩
  have hm := hm1
  have z_ob1 := ob1.1
  have o0 := o0.then ob1 (by omega)
  refine KL.op (R.move rfl rfl) rfl rfl rfl ?_
  refine KL.op (R.move rfl rfl) rfl rfl rfl ?_
  refine KL.call rfl rfl rfl rfl Try.call26 rfl rfl rfl (is_any _ _ _ _ hm 44 4 4294967168 (by dsimp only [InR]; omega) (by dsimp only [InR]; omega)) ?_
  rintro _ H3 ⟨rfl, ox⟩
  rw [wS_is (by decide) (by decide) (by decide)]
  have o0 := o0.trans ox
  have hm := hm.old ox
  refine KL.op (R.pick rfl rfl rfl) rfl rfl rfl ?_
  refine KL.op (R.move rfl rfl) rfl rfl rfl ?_
  refine KL.op (R.move rfl rfl) rfl rfl rfl ?_
  refine KL.call rfl rfl rfl rfl Try.call26 rfl rfl rfl (is_any _ _ _ _ hm 45 4 128 (by dsimp only [InR]; omega) (by dsimp only [InR]; omega)) ?_
  rintro _ H4 ⟨rfl, ox⟩
  rw [wS_is (by decide) (by decide) (by decide)]
  have o0 := o0.trans ox
  have hm := hm.old ox
  refine KL.op (R.pick rfl rfl rfl) rfl rfl rfl ?_
  refine KL.op (R.move rfl rfl) rfl rfl rfl ?_
  refine KL.op (R.move rfl rfl) rfl rfl rfl ?_
  refine KL.call rfl rfl rfl rfl Try.call26 rfl rfl rfl (is_any _ _ _ _ hm 50 4 18446744073709551488 (by dsimp only [InR]; omega) (by dsimp only [InR]; omega)) ?_
  rintro _ H5 ⟨rfl, ox⟩
  rw [wS_is (by decide) (by decide) (by decide)]
  have o0 := o0.trans ox
  have hm := hm.old ox
  refine KL.op (R.pick rfl rfl rfl) rfl rfl rfl ?_
  refine KL.op (R.move rfl rfl) rfl rfl rfl ?_
  refine KL.op (R.move rfl rfl) rfl rfl rfl ?_
  refine KL.call rfl rfl rfl rfl Try.call16 rfl rfl rfl (Grow_any _ _ _ _ hm 15 (by dsimp only [InR]; omega)) ?_
  rintro _ H6 hR
  have hl1 := wS_len
  have hl2 := wS2_len
  rcases hR with ⟨-, rfl, v2, hm2, f2, nx⟩ | ⟨h, -, -⟩
  rotate_left
  · exact absurd (by unfold growOk; omega) h
  have hf1 : Fresh H.size g v := ⟨by have := hf.1; omega, hf.2.imp id (fun h => by omega)⟩
  have ob2 := f2.ob (B := H.size) (by have := o0.1; omega) hf1
  have hm := hm2
  have z_ob2 := ob2.1
  have o0 := o0.then ob2 (by omega)
  refine KL.op ((R.eql rfl rfl rfl).val (congrArg Value.bool (decide_eq_true (by omega)))) rfl rfl rfl ?_
  refine KL.op (R.pick rfl rfl rfl) rfl rfl rfl ?_
  refine KL.op (R.move rfl rfl) rfl rfl rfl ?_
  refine KL.op (R.move rfl rfl) rfl rfl rfl ?_
  refine KL.call rfl rfl rfl rfl Try.call16 rfl rfl rfl (Grow_any _ _ _ _ hm 1 (by dsimp only [InR]; omega)) ?_
  rintro _ H9 hR
  rcases hR with ⟨h, -⟩ | ⟨-, rfl, rfl⟩
  · exact absurd h (by unfold growOk; omega)
  refine KL.op ((R.eql rfl rfl rfl).val (congrArg Value.bool (decide_eq_true (by omega)))) rfl rfl rfl ?_
  refine KL.op (R.pick rfl rfl rfl) rfl rfl rfl ?_
  refine KL.op (R.move rfl rfl) rfl rfl rfl ?_
  refine KL.op (R.move rfl rfl) rfl rfl rfl ?_
  refine KL.call rfl rfl rfl rfl Try.call17 rfl rfl rfl (Pages_any _ _ _ _ hm) ?_
  rintro _ _ ⟨rfl, rfl⟩
  refine KL.op ((R.eql rfl rfl rfl).val (congrArg Value.bool (decide_eq_true (by omega)))) rfl rfl rfl ?_
  refine KL.op (R.pick rfl rfl rfl) rfl rfl rfl ?_
  refine KL.op (R.assign rfl rfl) rfl rfl rfl ?_
  refine KL.nil ?_
  refine KQ.seq ?_
  refine KC.ret ?_
  refine KQ.ofRet ?_
  refine KQ.fin1 Try.results8 rfl ?_
  exact ⟨rfl, o0⟩


theorem kn1 : decide (inA (zeros 1) 40 53 40 (65532 + 0)) = true := decide_eq_true (by unfold inA; rw [zeros1_len]; decide)
theorem kn2 : decide (inA (zeros 1) 40 53 40 (65533 + 0)) = false := decide_eq_false (by unfold inA; rw [zeros1_len]; decide)
theorem kn3 : decide (inA (zeros 1) 40 53 40 (4294967295 + 4294967295)) = false := decide_eq_false (by unfold inA; rw [zeros1_len]; decide)

set_option maxRecDepth 100000 in
set_option maxHeartbeats 4000000 in
theorem MemKnown_any {H : Heap} : Ct Try.prog 6 [] H (fun u H' => u = .bool true ∧ Old H H') := by
  refine Ct.mk Try.func6 rfl Try.ntmps6 rfl ?_
  intro W0 hW0
  have o0 : Old H H := Old.refl H
  refine KC.seq ?_
  refine KC.region ?_
  refine KL.op (R.assign rfl rfl) rfl rfl rfl ?_
  refine KL.nil ?_
  refine KQ.seq ?_
  refine KC.seq ?_
  refine KC.region ?_
  refine KL.call rfl rfl rfl rfl Try.call9 rfl rfl rfl (one_any) ?_
  rintro _ H1 ⟨g, v, rfl, hm, hf, ox⟩
  have o0 := o0.trans ox
  refine KL.op (R.assign rfl rfl) rfl rfl rfl ?_
  refine KL.nil ?_
  refine KQ.seq ?_
  refine KC.seq ?_
  refine KC.region ?_
  refine KL.op (R.move rfl rfl) rfl rfl rfl ?_
  refine KL.call rfl rfl rfl rfl Try.call12 rfl rfl rfl (Load_any _ _ _ _ hm 40 65532 0 (by dsimp only [InR]; omega) (by dsimp only [InR]; omega) (by dsimp only [InR]; omega)) ?_
  rintro _ H2 ⟨rfl, ox⟩
  unfold loadV
  rw [kn1]
  have o0 := o0.trans ox
  have hm := hm.old ox
  refine KL.op (R.move rfl rfl) rfl rfl rfl ?_
  refine KL.op (R.extract rfl rfl rfl) rfl rfl rfl ?_
  refine KL.op (R.extract rfl rfl rfl) rfl rfl rfl ?_
  refine KL.op (R.assign rfl rfl) rfl rfl rfl ?_
  refine KL.op (R.assign rfl rfl) rfl rfl rfl ?_
  refine KL.nil ?_
  refine KQ.seq ?_
  refine KC.seq ?_
  refine KC.region ?_
  refine KL.op (R.move rfl rfl) rfl rfl rfl ?_
  refine KL.call rfl rfl rfl rfl Try.call12 rfl rfl rfl (Load_any _ _ _ _ hm 40 65533 0 (by dsimp only [InR]; omega) (by dsimp only [InR]; omega) (by dsimp only [InR]; omega)) ?_
  rintro _ H3 ⟨rfl, ox⟩
  unfold loadV
  rw [kn2]
  have o0 := o0.trans ox
  have hm := hm.old ox
  refine KL.op (R.move rfl rfl) rfl rfl rfl ?_
  refine KL.op (R.extract rfl rfl rfl) rfl rfl rfl ?_
  refine KL.op (R.extract rfl rfl rfl) rfl rfl rfl ?_
  refine KL.op (R.assign rfl rfl) rfl rfl rfl ?_
  refine KL.op (R.assign rfl rfl) rfl rfl rfl ?_
  refine KL.nil ?_
  refine KQ.seq ?_
  refine KC.seq ?_
  refine KC.region ?_
  refine KL.op (R.move rfl rfl) rfl rfl rfl ?_
  refine KL.call rfl rfl rfl rfl Try.call12 rfl rfl rfl (Load_any _ _ _ _ hm 40 4294967295 4294967295 (by dsimp only [InR]; omega) (by dsimp only [InR]; omega) (by dsimp only [InR]; omega)) ?_
  rintro _ H4 ⟨rfl, ox⟩
  unfold loadV
  rw [kn3]
  have o0 := o0.trans ox
  have hm := hm.old ox
  refine KL.op (R.move rfl rfl) rfl rfl rfl ?_
  refine KL.op (R.extract rfl rfl rfl) rfl rfl rfl ?_
  refine KL.op (R.extract rfl rfl rfl) rfl rfl rfl ?_
  refine KL.op (R.assign rfl rfl) rfl rfl rfl ?_
  refine KL.op (R.assign rfl rfl) rfl rfl rfl ?_
  refine KL.nil ?_
  refine KQ.seq ?_
  refine KC.seq ?_
  refine KC.region ?_
  refine KL.op (R.assign rfl rfl) rfl rfl rfl ?_
  refine KL.nil ?_
  refine KQ.seq ?_
  refine KC.seq ?_
  refine KC.region ?_
  refine KL.op (R.move rfl rfl) rfl rfl rfl ?_
  refine KL.call rfl rfl rfl rfl Try.call12 rfl rfl rfl (Load_nil 40 0 0 (by dsimp only [InR]; omega) (by dsimp only [InR]; omega) (by dsimp only [InR]; omega)) ?_
  rintro _ H5 ⟨rfl, ox⟩
  have o0 := o0.trans ox
  have hm := hm.old ox
  refine KL.op (R.move rfl rfl) rfl rfl rfl ?_
  refine KL.op (R.extract rfl rfl rfl) rfl rfl rfl ?_
  refine KL.op (R.extract rfl rfl rfl) rfl rfl rfl ?_
  refine KL.op (R.assign rfl rfl) rfl rfl rfl ?_
  refine KL.op (R.assign rfl rfl) rfl rfl rfl ?_
  refine KL.nil ?_
  refine KQ.seq ?_
  refine KC.seq ?_
  refine KC.region ?_
  refine KL.op (R.move rfl rfl) rfl rfl rfl ?_
  refine KL.call rfl rfl rfl rfl Try.call13 rfl rfl rfl (Get_nil 0 0 (by dsimp only [InR]; omega) (by dsimp only [InR]; omega)) ?_
  rintro _ H6 ⟨x, rfl, ox⟩
  have o0 := o0.trans ox
  have hm := hm.old ox
  refine KL.op (R.move rfl rfl) rfl rfl rfl ?_
  refine KL.op (R.extract rfl rfl rfl) rfl rfl rfl ?_
  refine KL.op (R.extract rfl rfl rfl) rfl rfl rfl ?_
  refine KL.op (R.assign rfl rfl) rfl rfl rfl ?_
  refine KL.op (R.assign rfl rfl) rfl rfl rfl ?_
  refine KL.nil ?_
  refine KQ.seq ?_
  refine KC.seq ?_
  refine KC.region ?_
  refine KL.op (R.buildL rfl Try.underlying42 zr42 [(0, 1), (1, 1)] (fun w => by kernel_rfl) rfl ⟨⟨_, rfl, rfl⟩, ⟨_, rfl, rfl⟩, trivial⟩ rfl rfl ⟨⟨_, rfl, by first | rfl | exact hm.cells1⟩, ⟨_, rfl, by first | rfl | exact hm.cells1⟩, trivial⟩ rfl) rfl rfl rfl ?_
  refine KL.call rfl rfl rfl rfl Try.call15 rfl rfl rfl (New_any 17 (-1) (by dsimp only [InR]; omega) (by dsimp only [InR]; omega)) ?_
  rintro _ H7 ⟨ox, hR⟩
  rcases hR with ⟨h, -⟩ | ⟨-, rfl⟩
  · exact absurd h (by unfold newOk; omega)
  have o0 := o0.trans ox
  have hm := hm.old ox
  refine KL.op (R.move rfl rfl) rfl rfl rfl ?_
  refine KL.op (R.extract rfl rfl rfl) rfl rfl rfl ?_
  refine KL.op (R.extract rfl rfl rfl) rfl rfl rfl ?_
  refine KL.op (R.assign rfl rfl) rfl rfl rfl ?_
  refine KL.op (R.assign rfl rfl) rfl rfl rfl ?_
  refine KL.nil ?_
  refine KQ.seq ?_
  refine KC.seq ?_
  refine KC.region ?_
  refine KL.op (R.buildL rfl Try.underlying42 zr42 [(0, 1), (1, 1)] (fun w => by kernel_rfl) rfl ⟨⟨_, rfl, rfl⟩, ⟨_, rfl, rfl⟩, trivial⟩ rfl rfl ⟨⟨_, rfl, by first | rfl | exact hm.cells1⟩, ⟨_, rfl, by first | rfl | exact hm.cells1⟩, trivial⟩ rfl) rfl rfl rfl ?_
  refine KL.call rfl rfl rfl rfl Try.call15 rfl rfl rfl (New_any 2 1 (by dsimp only [InR]; omega) (by dsimp only [InR]; omega)) ?_
  rintro _ H8 ⟨ox, hR⟩
  rcases hR with ⟨h, -⟩ | ⟨-, rfl⟩
  · exact absurd h (by unfold newOk; omega)
  have o0 := o0.trans ox
  have hm := hm.old ox
  refine KL.op (R.move rfl rfl) rfl rfl rfl ?_
  refine KL.op (R.extract rfl rfl rfl) rfl rfl rfl ?_
  refine KL.op (R.extract rfl rfl rfl) rfl rfl rfl ?_
  refine KL.op (R.assign rfl rfl) rfl rfl rfl ?_
  refine KL.op (R.assign rfl rfl) rfl rfl rfl ?_
  refine KL.nil ?_
  refine KQ.seq ?_
  refine KC.seq ?_
  refine KC.region ?_
  refine KL.call rfl rfl rfl rfl Try.call8 rfl rfl rfl (works_any) ?_
  rintro _ H9 ⟨rfl, ox⟩
  have o0 := o0.trans ox
  have hm := hm.old ox
  refine KL.op (R.move rfl rfl) rfl rfl rfl ?_
  refine KL.op (R.move rfl rfl) rfl rfl rfl ?_
  refine KL.op (R.pick rfl rfl rfl) rfl rfl rfl ?_
  refine KL.op (R.move rfl rfl) rfl rfl rfl ?_
  refine KL.op (R.move rfl rfl) rfl rfl rfl ?_
  refine KL.op (R.not rfl rfl) rfl rfl rfl ?_
  refine KL.op (R.pick rfl rfl rfl) rfl rfl rfl ?_
  refine KL.op (R.move rfl rfl) rfl rfl rfl ?_
  refine KL.op (R.move rfl rfl) rfl rfl rfl ?_
  refine KL.op (R.not rfl rfl) rfl rfl rfl ?_
  refine KL.op (R.pick rfl rfl rfl) rfl rfl rfl ?_
  refine KL.op (R.move rfl rfl) rfl rfl rfl ?_
  refine KL.op (R.move rfl rfl) rfl rfl rfl ?_
  refine KL.op ((R.eql rfl rfl rfl).val (congrArg Value.bool (decide_eq_true (by omega)))) rfl rfl rfl ?_
  refine KL.op (R.pick rfl rfl rfl) rfl rfl rfl ?_
  refine KL.op (R.move rfl rfl) rfl rfl rfl ?_
  refine KL.op (R.move rfl rfl) rfl rfl rfl ?_
  refine KL.op ((R.eql rfl rfl rfl).val (congrArg Value.bool (decide_eq_true (by omega)))) rfl rfl rfl ?_
  refine KL.op (R.pick rfl rfl rfl) rfl rfl rfl ?_
  refine KL.op (R.move rfl rfl) rfl rfl rfl ?_
  refine KL.op (R.move rfl rfl) rfl rfl rfl ?_
  refine KL.op (R.not rfl rfl) rfl rfl rfl ?_
  refine KL.op (R.pick rfl rfl rfl) rfl rfl rfl ?_
  refine KL.op (R.move rfl rfl) rfl rfl rfl ?_
  refine KL.op (R.move rfl rfl) rfl rfl rfl ?_
  refine KL.op (R.not rfl rfl) rfl rfl rfl ?_
  refine KL.op (R.pick rfl rfl rfl) rfl rfl rfl ?_
  refine KL.op (R.move rfl rfl) rfl rfl rfl ?_
  refine KL.op (R.move rfl rfl) rfl rfl rfl ?_
  refine KL.call rfl rfl rfl rfl Try.call17 rfl rfl rfl (Pages_nil) ?_
  rintro _ _ ⟨rfl, rfl⟩
  refine KL.op ((R.eql rfl rfl rfl).val (congrArg Value.bool (decide_eq_true (by omega)))) rfl rfl rfl ?_
  refine KL.op (R.pick rfl rfl rfl) rfl rfl rfl ?_
  refine KL.op (R.move rfl rfl) rfl rfl rfl ?_
  refine KL.op (R.move rfl rfl) rfl rfl rfl ?_
  refine KL.call rfl rfl rfl rfl Try.call16 rfl rfl rfl (Grow_nil 0) ?_
  rintro _ _ ⟨rfl, rfl⟩
  refine KL.op ((R.eql rfl rfl rfl).val (congrArg Value.bool (decide_eq_true (by omega)))) rfl rfl rfl ?_
  refine KL.op (R.pick rfl rfl rfl) rfl rfl rfl ?_
  refine KL.op (R.move rfl rfl) rfl rfl rfl ?_
  refine KL.op (R.move rfl rfl) rfl rfl rfl ?_
  refine KL.call rfl rfl rfl rfl Try.call14 rfl rfl rfl (Store_nil 54 0 0 (by dsimp only [InR]; omega) (by dsimp only [InR]; omega) (by dsimp only [InR]; omega) 0) ?_
  rintro _ H10 ⟨rfl, ox⟩
  have o0 := o0.trans ox
  have hm := hm.old ox
  refine KL.op (R.not rfl rfl) rfl rfl rfl ?_
  refine KL.op (R.pick rfl rfl rfl) rfl rfl rfl ?_
  refine KL.op (R.move rfl rfl) rfl rfl rfl ?_
  refine KL.op (R.move rfl rfl) rfl rfl rfl ?_
  refine KL.call rfl rfl rfl rfl Try.call10 rfl rfl rfl (Put_nil 0 (by dsimp only [InR]; omega) _ [] (Sl.nil _ _ _) (by simp)) ?_
  rintro _ _ ⟨rfl, rfl⟩
  refine KL.op (R.not rfl rfl) rfl rfl rfl ?_
  refine KL.op (R.pick rfl rfl rfl) rfl rfl rfl ?_
  refine KL.op (R.move rfl rfl) rfl rfl rfl ?_
  refine KL.op (R.move rfl rfl) rfl rfl rfl ?_
  refine KL.call rfl rfl rfl rfl Try.call18 rfl rfl rfl (Copy_nil) ?_
  rintro _ _ ⟨rfl, rfl⟩
  refine KL.op (R.eqlP rfl Try.underlying25 rfl rfl) rfl rfl rfl ?_
  refine KL.op (R.pick rfl rfl rfl) rfl rfl rfl ?_
  refine KL.op (R.assign rfl rfl) rfl rfl rfl ?_
  refine KL.nil ?_
  refine KQ.seq ?_
  refine KC.ret ?_
  refine KQ.ofRet ?_
  refine KQ.fin1 Try.results6 rfl ?_
  exact ⟨rfl, o0⟩

end Go.Proofs.Ytdefjpakpgchhaa
