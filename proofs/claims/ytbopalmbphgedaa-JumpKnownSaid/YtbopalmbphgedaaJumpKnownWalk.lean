/- gabellelaw19.JumpKnown returns true. No condition. -/
import Derived.Test.YtbopalmbphgedaaJumpD
namespace Go.Proofs.Ytbopalmbphgedaa
open Go Go.RowKit
set_option linter.unusedVariables false
set_option linter.unusedSimpArgs false
set_option linter.unnecessarySimpa false

def bad : List (List Int) := [[11], [2], [4, 5, 5, 11], [2, 5, 11]]
theorem bad_none : ∀ l ∈ bad, JS.of (l.map mkIns) = none := by decide +kernel
theorem bad_len : ∀ l ∈ bad, l.length < 1000 := by decide +kernel
theorem mem_getD {α : Type} [Inhabited α] {l : List α} {j : Nat} (h : j < l.length) : l.getD j default ∈ l := by
  rw [List.getD_eq_getElem?_getD, List.getElem?_eq_getElem h]; exact List.getElem_mem h

set_option maxRecDepth 100000 in
theorem JumpKnown_walk {H : Heap} : Ct Try.prog 3 [] H (fun u H' => u = .bool true ∧ Old H H') := by
  refine Ct.mk Try.func3 rfl Try.ntmps3 rfl ?_
  intro W0 hW0
  have o0 : Old H H := Old.refl H
  refine KC.seq ?_
  refine KC.region ?_
  refine KL.op (R.assign rfl rfl) rfl rfl rfl ?_
  refine KL.nil ?_
  refine KQ.seq ?_
  refine KC.seq ?_
  refine KC.seq ?_
  refine KC.region ?_
  refine KL.opM (M.lit rfl Try.underlying22 zs5 (by decide) rfl rfl rfl) rfl rfl rfl ?_
  rintro _ H1 ⟨rfl, n1⟩
  have z1 := n1.2.1
  have o0 := o0.trans n1.1
  have b1 := n1.2.2
  have s1 : Sl 1 (EInt .u8) H1 _ [11] := Sl.lits n1 rfl (by decide) (by decide)
  refine KL.opM (M.lit rfl Try.underlying22 zs5 (by decide) rfl rfl rfl) rfl rfl rfl ?_
  rintro _ H2 ⟨rfl, n2⟩
  have z2 := n2.2.1
  have o0 := o0.trans n2.1
  have s1 := s1.old n2.1
  have b2 := n2.2.2
  have s2 : Sl 1 (EInt .u8) H2 _ [2] := Sl.lits n2 rfl (by decide) (by decide)
  refine KL.opM (M.lit rfl Try.underlying22 zs5 (by decide) rfl rfl rfl) rfl rfl rfl ?_
  rintro _ H3 ⟨rfl, n3⟩
  have z3 := n3.2.1
  have o0 := o0.trans n3.1
  have s1 := s1.old n3.1
  have s2 := s2.old n3.1
  have b3 := n3.2.2
  have s3 : Sl 1 (EInt .u8) H3 _ [4, 5, 5, 11] := Sl.lits n3 rfl (by decide) (by decide)
  refine KL.opM (M.lit rfl Try.underlying22 zs5 (by decide) rfl rfl rfl) rfl rfl rfl ?_
  rintro _ H4 ⟨rfl, n4⟩
  have z4 := n4.2.1
  have o0 := o0.trans n4.1
  have s1 := s1.old n4.1
  have s2 := s2.old n4.1
  have s3 := s3.old n4.1
  have b4 := n4.2.2
  have s4 : Sl 1 (EInt .u8) H4 _ [2, 5, 11] := Sl.lits n4 rfl (by decide) (by decide)
  refine KL.opM (M.lit rfl Try.underlying23 zs22 (by decide) rfl rfl rfl) rfl rfl rfl ?_
  rintro _ H5 ⟨rfl, n5⟩
  have z5 := n5.2.1
  have o0 := o0.trans n5.1
  have s1 := s1.old n5.1
  have s2 := s2.old n5.1
  have s3 := s3.old n5.1
  have s4 := s4.old n5.1
  have b5 := n5.2.2
  have hs : Sl 1 (ESl 1 (EInt .u8)) H5 _ bad := (Own.lit (E := ESl 1 (EInt .u8)) (H0 := H5) (B := 0) (l := bad) n5 (Nat.zero_le _) rfl (by unfold maxLen; decide) rfl (by intro j x u hj hu; match j, hj, hu with | 0, hj, hu => cases hj; cases hu; exact ⟨_, rfl, s1⟩ | 1, hj, hu => cases hj; cases hu; exact ⟨_, rfl, s2⟩ | 2, hj, hu => cases hj; cases hu; exact ⟨_, rfl, s3⟩ | 3, hj, hu => cases hj; cases hu; exact ⟨_, rfl, s4⟩)).sl (Old.refl _) (by omega)
  have hbl : bad.length = 4 := rfl
  refine KL.op ((by first | exact R.lenS rfl Try.underlying23 rfl (by first | exact s1 | exact s2 | exact s3 | exact s4 | assumption) | exact R.len (ty := 0) rfl Try.underlying23 rfl)) rfl rfl rfl ?_
  refine KL.op (R.move rfl rfl) rfl rfl rfl ?_
  refine KL.nil ?_
  refine KQ.seq ?_
  refine KC.block ?_
  refine KC.loopD (κ := Nat) [15, 16, 17, 2, 19, 20, 21, 18, 22, 23, 3, 4, 24, 25, 26, 27, 28, 0, 29, 14] (fun k => [(14, .int .i64 (k : Nat))]) (fun k Hl => k ≤ 4 ∧ Old H5 Hl) (fun k => 4 - k) 0 ?_ ?_ ?_
  · exact (Sub.cons rfl (Ext.sub (Ext.refl _ _)))
  · exact ⟨by omega, Old.refl _⟩
  · rintro k H6 ⟨hk, o1⟩
    have o0 := o0.trans o1
    refine KC.seq ?_
    refine KC.region ?_
    refine KL.op (R.lss rfl rfl rfl) rfl rfl rfl ?_
    refine KL.nil ?_
    refine KQ.seq ?_
    refine KC.seq ?_
    refine KC.iteL rfl ?_ ?_
    · intro hc15
      try simp only [decide_eq_true_eq, decide_eq_false_iff_not, Bool.not_eq_true', Bool.not_eq_false', Bool.and_eq_true, Bool.or_eq_false_iff] at hc15  -- hc15
      have hk4 : k < 4 := by omega
      obtain ⟨u, hu, hsu⟩ := (hs.old o1).sl1 k (by omega)
      have hm := mem_getD (l := bad) (j := k) (by omega)
      refine KC.skip ?_
      refine KQ.seq ?_
      refine KC.seq ?_
      refine KC.block ?_
      refine KC.seq ?_
      refine KC.region ?_
      refine KL.op (R.index1 (j := k) rfl Try.underlying23 sz22 rfl rfl (hs.old o1) rfl (by omega)) rfl rfl rfl ?_
      refine KL.op (R.load rfl Try.underlying22 rfl rfl (by first | exact hu | assumption)) rfl rfl rfl ?_
      refine KL.op (R.assign rfl rfl) rfl rfl rfl ?_
      refine KL.nil ?_
      refine KQ.seq ?_
      refine KC.seq ?_
      refine KC.region ?_
      refine KL.op (R.move rfl rfl) rfl rfl rfl ?_
      refine KL.call rfl rfl rfl rfl Try.call8 rfl rfl rfl (lawof_any _ _ hsu (bad_len _ hm)) ?_
      rintro v5 H7 ⟨o5, hb⟩
      have o0 := o0.trans o5
      have o1 := o1.trans o5
      refine KL.call rfl rfl rfl rfl Try.call7 rfl rfl rfl (Of_any _ _ hb (by have := bad_len _ hm; rw [List.length_map]; omega)) ?_
      rintro v6 H8 ⟨o6, hR⟩
      have hv6 : v6 = .tuple #[.pointer none, .bool false] := by
        rcases hR with ⟨s, g, h, _⟩ | h
        · rw [bad_none _ hm] at h; cases h
        · exact h.2
      subst hv6
      have o0 := o0.trans o6
      have o1 := o1.trans o6
      refine KL.op (R.move rfl rfl) rfl rfl rfl ?_
      refine KL.op (R.extract rfl rfl rfl) rfl rfl rfl ?_
      refine KL.op (R.extract rfl rfl rfl) rfl rfl rfl ?_
      refine KL.op (R.assign rfl rfl) rfl rfl rfl ?_
      refine KL.op (R.assign rfl rfl) rfl rfl rfl ?_
      refine KL.nil ?_
      refine KQ.seq ?_
      refine KC.seq ?_
      refine KC.region ?_
      refine KL.op (R.move rfl rfl) rfl rfl rfl ?_
      refine KL.op (R.move rfl rfl) rfl rfl rfl ?_
      refine KL.op (R.move rfl rfl) rfl rfl rfl ?_
      refine KL.op (R.neqP rfl Try.underlying24 rfl rfl) rfl rfl rfl ?_
      refine KL.op (R.pick rfl rfl rfl) rfl rfl rfl ?_
      refine KL.nil ?_
      refine KQ.seq ?_
      refine KC.condF rfl ?_
      refine KC.skip ?_
      refine KQ.normBlock ?_
      refine KQ.seq ?_
      refine KC.region ?_
      refine KL.op (R.add rfl rfl rfl (by dsimp only [InR]; omega)) rfl rfl rfl ?_
      refine KL.op (R.move rfl rfl) rfl rfl rfl ?_
      refine KL.nil ?_
      refine KQ.again (k + 1) ?_ ?_ ?_
      · exact (Sub.cons rfl (Ext.sub (by repeat (first | exact Ext.refl _ _ | refine Ext.put rfl ?_ | refine Ext.drop rfl ?_))))
      · omega
      · exact ⟨by omega, o1⟩
    · intro hc15
      try simp only [decide_eq_true_eq, decide_eq_false_iff_not, Bool.not_eq_true', Bool.not_eq_false', Bool.and_eq_true, Bool.or_eq_false_iff] at hc15  -- hc15
      have hs := hs
      refine KC.exit ?_
      refine KQ.exitThen ?_
      refine KQ.exitThen ?_
      refine KQ.hit ?_
      refine KQ.seq ?_
      refine KC.seq ?_
      refine KC.region ?_
      refine KL.call rfl rfl rfl rfl Try.call7 rfl rfl rfl (Of_any _ [] (Sl.nil _ _ _) (by decide)) ?_
      rintro v6 H9 ⟨o6, hR⟩
      obtain ⟨g, rfl, hj⟩ : ∃ g, v6 = .tuple #[.pointer (some ⟨g, 0, none⟩), .bool true] ∧ JM H9 g [] [] [] 0 := by
        rcases hR with ⟨s, g, h, h2, h3⟩ | h
        · have : s = ⟨[], [], [], 0, []⟩ := by rw [show JS.of [] = some ⟨[], [], [], 0, []⟩ from rfl] at h; cases h; rfl
          subst this; exact ⟨g, h2, h3⟩
        · exact absurd h.1 (by decide)
      have o0 := o0.trans o6
      have o1 := o1.trans o6
      refine KL.op (R.move rfl rfl) rfl rfl rfl ?_
      refine KL.op (R.extract rfl rfl rfl) rfl rfl rfl ?_
      refine KL.op (R.extract rfl rfl rfl) rfl rfl rfl ?_
      refine KL.op (R.assign rfl rfl) rfl rfl rfl ?_
      refine KL.op (R.assign rfl rfl) rfl rfl rfl ?_
      refine KL.nil ?_
      refine KQ.seq ?_
      refine KC.seq ?_
      refine KC.region ?_
      refine KL.op (R.assign rfl rfl) rfl rfl rfl ?_
      refine KL.nil ?_
      refine KQ.seq ?_
      refine KC.seq ?_
      refine KC.region ?_
      refine KL.call rfl rfl rfl rfl Try.call9 rfl rfl rfl (works_any) ?_
      rintro _ H10 ⟨rfl, o9⟩
      have o0 := o0.trans o9
      have o1 := o1.trans o9
      have hj := hj.old o9
      refine KL.op (R.move rfl rfl) rfl rfl rfl ?_
      refine KL.op (R.move rfl rfl) rfl rfl rfl ?_
      refine KL.op (R.pick rfl rfl rfl) rfl rfl rfl ?_
      refine KL.op (R.move rfl rfl) rfl rfl rfl ?_
      refine KL.op (R.move rfl rfl) rfl rfl rfl ?_
      refine KL.call rfl rfl rfl rfl Try.call10 rfl rfl rfl (Len_any _ _ _ _ _ hj) ?_
      rintro _ _ ⟨rfl, rfl⟩
      refine KL.op ((R.eql rfl rfl rfl).val (congrArg Value.bool (decide_eq_true (by decide)))) rfl rfl rfl ?_
      refine KL.op (R.pick rfl rfl rfl) rfl rfl rfl ?_
      refine KL.op (R.move rfl rfl) rfl rfl rfl ?_
      refine KL.op (R.move rfl rfl) rfl rfl rfl ?_
      refine KL.call rfl rfl rfl rfl Try.call11 rfl rfl rfl (Depth_any _ _ _ _ _ hj) ?_
      rintro _ _ ⟨rfl, rfl⟩
      refine KL.op ((R.eql rfl rfl rfl).val (congrArg Value.bool (decide_eq_true (by decide)))) rfl rfl rfl ?_
      refine KL.op (R.pick rfl rfl rfl) rfl rfl rfl ?_
      refine KL.op (R.move rfl rfl) rfl rfl rfl ?_
      refine KL.op (R.move rfl rfl) rfl rfl rfl ?_
      refine KL.call rfl rfl rfl rfl Try.call10 rfl rfl rfl (Len_nil) ?_
      rintro _ _ ⟨rfl, rfl⟩
      refine KL.op ((R.eql rfl rfl rfl).val (congrArg Value.bool (decide_eq_true (by decide)))) rfl rfl rfl ?_
      refine KL.op (R.pick rfl rfl rfl) rfl rfl rfl ?_
      refine KL.op (R.move rfl rfl) rfl rfl rfl ?_
      refine KL.op (R.move rfl rfl) rfl rfl rfl ?_
      refine KL.call rfl rfl rfl rfl Try.call12 rfl rfl rfl (End_nil 0) ?_
      rintro _ _ ⟨rfl, rfl⟩
      refine KL.op ((R.eql rfl rfl rfl).val (congrArg Value.bool (decide_eq_true (by decide)))) rfl rfl rfl ?_
      refine KL.op (R.pick rfl rfl rfl) rfl rfl rfl ?_
      refine KL.op (R.move rfl rfl) rfl rfl rfl ?_
      refine KL.op (R.move rfl rfl) rfl rfl rfl ?_
      refine KL.call rfl rfl rfl rfl Try.call13 rfl rfl rfl (Else_nil 0) ?_
      rintro _ _ ⟨rfl, rfl⟩
      refine KL.op ((R.eql rfl rfl rfl).val (congrArg Value.bool (decide_eq_true (by decide)))) rfl rfl rfl ?_
      refine KL.op (R.pick rfl rfl rfl) rfl rfl rfl ?_
      refine KL.op (R.move rfl rfl) rfl rfl rfl ?_
      refine KL.op (R.move rfl rfl) rfl rfl rfl ?_
      refine KL.call rfl rfl rfl rfl Try.call14 rfl rfl rfl (Open_nil 0) ?_
      rintro _ _ ⟨rfl, rfl⟩
      refine KL.op ((R.eql rfl rfl rfl).val (congrArg Value.bool (decide_eq_true (by decide)))) rfl rfl rfl ?_
      refine KL.op (R.pick rfl rfl rfl) rfl rfl rfl ?_
      refine KL.op (R.move rfl rfl) rfl rfl rfl ?_
      refine KL.op (R.move rfl rfl) rfl rfl rfl ?_
      refine KL.call rfl rfl rfl rfl Try.call11 rfl rfl rfl (Depth_nil) ?_
      rintro _ _ ⟨rfl, rfl⟩
      refine KL.op ((R.eql rfl rfl rfl).val (congrArg Value.bool (decide_eq_true (by decide)))) rfl rfl rfl ?_
      refine KL.op (R.pick rfl rfl rfl) rfl rfl rfl ?_
      refine KL.op (R.assign rfl rfl) rfl rfl rfl ?_
      refine KL.nil ?_
      refine KQ.seq ?_
      refine KC.ret ?_
      refine KQ.ofRet ?_
      refine KQ.fin1 Try.results3 rfl ?_
      exact ⟨rfl, o0⟩


theorem JumpKnown_calls (w : World) : Calls Try.prog 3 #[] w fun e w' => e = .returned (.bool true) ∧ Below w.heap.size w w' := Ct.calls JumpKnown_walk

end Go.Proofs.Ytbopalmbphgedaa
