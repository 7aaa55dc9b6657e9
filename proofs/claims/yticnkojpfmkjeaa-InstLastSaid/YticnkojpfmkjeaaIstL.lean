/- gabellelaw18.InstKnown returns true. No condition. -/
import Derived.Test.YticnkojpfmkjeaaIstK
namespace Go.Proofs.Yticnkojpfmkjeaa
open Go Go.RowKit
set_option linter.unusedVariables false
set_option linter.unusedSimpArgs false
set_option linter.unnecessarySimpa false

def mA : Md := ⟨[(3, -1)], [(1, -1)], [], [([atI 2], [5, 6])], []⟩
def mB : Md := ⟨[(3, -1)], [(1, -1)], [], [], [([atI 65533], [97, 98, 99, 100])]⟩
def mC : Md := ⟨[(3, -1)], [], [], [], [([atI 0], [97])]⟩
def mD : Md := ⟨[], [], [], [], [([atI 0], [])]⟩
theorem nofA : ¬ Fit mA := fun h => absurd (h.e _ List.mem_cons_self) (by decide +kernel)
theorem nofB : ¬ Fit mB := fun h => absurd (h.d _ List.mem_cons_self) (by decide +kernel)
theorem nofC : ¬ Fit mC := fun h => absurd (h.d _ List.mem_cons_self) (by decide +kernel)
theorem fitD : Fit mD := by
  refine ⟨?_, ?_, by decide, ?_, ?_⟩
  · intro x r h; cases h
  · intro x r h; cases h
  · intro x h; simp only [mD, List.not_mem_nil] at h
  · intro x h; simp only [mD, List.mem_cons, List.not_mem_nil, or_false] at h; subst h; decide +kernel
theorem i64R {x : Int} (h1 : -9223372036854775808 ≤ x) (h2 : x ≤ 9223372036854775807) : InR .i64 x := ⟨h1, h2⟩

set_option maxRecDepth 100000 in
set_option maxHeartbeats 4000000 in
theorem InstKnown_any {H : Heap} : Ct Try.prog 4 [] H (fun u H' => u = .bool true ∧ Old H H') := by
  refine Ct.mk Try.func4 rfl Try.ntmps4 rfl ?_
  intro W0 hW0
  have o0 : Old H H := Old.refl H
  refine KC.seq ?_
  refine KC.region ?_
  refine KL.op (R.assign rfl rfl) rfl rfl rfl ?_
  refine KL.nil ?_
  refine KQ.seq ?_
  refine KC.seq ?_
  refine KC.seq ?_
  refine KC.region ?_
  refine KL.op (R.move rfl rfl) rfl rfl rfl ?_
  refine KL.nil ?_
  refine KQ.seq ?_
  refine KC.block ?_
  refine KC.loopD (κ := Nat) [14, 15, 1, 16, 2, 17, 19, 18, 20, 21, 22, 23, 24, 26, 25, 27, 28, 29, 30, 31, 32, 34, 33, 35, 36, 37, 38, 39, 40, 41, 43, 44, 42, 45, 46, 3, 4, 47, 48, 49, 50, 51, 52, 0, 53, 13] (fun k => [(13, .int .i64 (k : Nat))]) (fun k Hl => k ≤ 3 ∧ Old H Hl) (fun k => 3 - k) 0 ?_ ?_ ?_
  · exact (Sub.cons rfl (Ext.sub (Ext.refl _ _)))
  · exact ⟨by omega, o0⟩
  · rintro k H1 ⟨hk, o0⟩
    have zl_H1 := o0.1
    refine KC.seq ?_
    refine KC.region ?_
    refine KL.op (R.lss rfl rfl rfl) rfl rfl rfl ?_
    refine KL.nil ?_
    refine KQ.seq ?_
    refine KC.seq ?_
    refine KC.iteL rfl ?_ ?_
    · intro hc14
      try simp only [decide_eq_true_eq, decide_eq_false_iff_not, Bool.not_eq_true', Bool.not_eq_false', Bool.and_eq_true, Bool.or_eq_false_iff] at hc14
      refine KC.skip ?_
      refine KQ.seq ?_
      refine KC.seq ?_
      refine KC.block ?_
      refine KC.seq ?_
      refine KC.region ?_
      refine KL.op (R.move rfl rfl) rfl rfl rfl ?_
      refine KL.op (R.assign rfl rfl) rfl rfl rfl ?_
      refine KL.nil ?_
      refine KQ.seq ?_
      refine KC.seq ?_
      refine KC.region ?_
      refine KL.call rfl rfl rfl rfl Try.call12 rfl rfl rfl (page_any) ?_
      rintro _ H2 ⟨k3, k4, rfl, h3, h4, z3, z4, h34, c3, c4, ox⟩
      have zc_H2 := (ox).1
      have o0 := o0.trans ox
      refine KL.opM (M.alloc rfl zr33 rfl) rfl rfl rfl ?_
      rintro _ H3 ⟨rfl, n3⟩
      have z3 := n3.2.1
      have o0 := o0.trans n3.1
      have c3 := (n3.1).blk c3
      have c4 := (n3.1).blk c4
      have b3 := n3.2.2
      have bm := b3
      refine KL.opS (S.storeAgg rfl sz33 rfl rfl (rfl) (by intro z hz; simp only [List.mem_cons, List.not_mem_nil, or_false] at hz; rcases hz with rfl | rfl | rfl | rfl | rfl | rfl | rfl | rfl | rfl | rfl | rfl | rfl <;> rfl) bm (by simp)) rfl rfl ?_
      rintro H4 ⟨u4, b4⟩
      have o0 := o0.upd u4 (by omega)
      have zu4 := u4.1
      have c3 := ((u4).2 _ (by omega)).trans c3
      have c4 := ((u4).2 _ (by omega)).trans c4
      have bm := b4
      rw [over_all (by rfl)] at bm
      refine KL.nil ?_
      refine KQ.seq ?_
      refine KC.seq ?_
      refine KC.seq ?_
      refine KC.region ?_
      refine KL.op (R.move rfl rfl) rfl rfl rfl ?_
      refine KL.nil ?_
      refine KQ.seq ?_
      refine KC.block ?_
      refine KC.seq ?_
      refine KC.region ?_
      refine KL.op (R.eql rfl rfl rfl) rfl rfl rfl ?_
      refine KL.op (R.assign rfl rfl) rfl rfl rfl ?_
      refine KL.nil ?_
      refine KQ.seq ?_
      refine KC.iteL rfl ?_ ?_
      · intro hc18
        try simp only [decide_eq_true_eq, decide_eq_false_iff_not, Bool.not_eq_true', Bool.not_eq_false', Bool.and_eq_true, Bool.or_eq_false_iff] at hc18
        refine KC.region ?_
        refine KL.call rfl rfl rfl rfl Try.call13 rfl rfl rfl (at_any (2)) ?_
        rintro _ H5 ⟨k5, rfl, h5, c5, ox⟩
        have zc_H5 := (ox).1
        have o0 := o0.trans ox
        have c3 := (ox).blk c3
        have c4 := (ox).blk c4
        have bm := (ox).blk bm
        have z5 := blk_lt c5
        refine KL.opM (M.lit rfl Try.underlying24 zs28 (by decide) rfl rfl rfl) rfl rfl rfl ?_
        rintro _ H6 ⟨rfl, n6⟩
        have z6 := n6.2.1
        have o0 := o0.trans n6.1
        have c3 := (n6.1).blk c3
        have c4 := (n6.1).blk c4
        have bm := (n6.1).blk bm
        have c5 := (n6.1).blk c5
        have b6 := n6.2.2
        have q19 := b6
        refine KL.op (R.buildL rfl Try.underlying45 zr45 [(0, 1), (1, 1), (2, 1)] (fun w => by kernel_rfl) rfl ⟨⟨_, rfl, rfl⟩, ⟨_, rfl, rfl⟩, trivial⟩ rfl rfl ⟨⟨_, rfl, by first | rfl⟩, ⟨_, rfl, by first | rfl⟩, trivial⟩ rfl) rfl rfl rfl ?_
        refine KL.opM (M.lit rfl Try.underlying29 zs45 (by decide) rfl rfl rfl) rfl rfl rfl ?_
        rintro _ H7 ⟨rfl, n7⟩
        have z7 := n7.2.1
        have o0 := o0.trans n7.1
        have c3 := (n7.1).blk c3
        have c4 := (n7.1).blk c4
        have bm := (n7.1).blk bm
        have c5 := (n7.1).blk c5
        have q19 := (n7.1).blk q19
        have b7 := n7.2.2
        have q21 := b7
        refine KL.op ((by first | exact R.fieldAddr rfl Try.underlying33 rfl rfl sz29 rfl | exact R.fieldAddrP rfl Try.underlying33 rfl rfl sz29 rfl)) rfl rfl rfl ?_
        refine KL.opS (S.store rfl sz29 rfl rfl rfl rfl bm (by simp)) rfl rfl ?_
        rintro H8 ⟨u8, b8⟩
        have o0 := o0.upd u8 (by omega)
        have zu8 := u8.1
        have c3 := ((u8).2 _ (by omega)).trans c3
        have c4 := ((u8).2 _ (by omega)).trans c4
        have c5 := ((u8).2 _ (by omega)).trans c5
        have q19 := ((u8).2 _ (by omega)).trans q19
        have q21 := ((u8).2 _ (by omega)).trans q21
        have bm := b8
        refine KL.nil ?_
        refine KQ.normBlock ?_
        refine KQ.seq ?_
        refine KC.seq ?_
        refine KC.region ?_
        refine KL.op (R.loadAgg rfl Try.underlying33 rfl sz33 rfl (cells_of bm) rfl) rfl rfl rfl ?_
        have mv : MI H8 (.slice none 0 0) (.slice none 0 0) (.slice none 0 0) _ _ _ (.slice none 0 0) (.bool false) (.int .u32 0) _ (.slice none 0 0) _ mA := ⟨limS (by dsimp only [InR]; omega) (i64R (by decide) (by decide)) c3, limS (by dsimp only [InR]; omega) (i64R (by decide) (by decide)) c4, (Sl.nil _ _ _), Sl.blk1 q21 rfl (by decide) ⟨_, _, _, rfl, atS (i64R (by decide) (by decide)) c5, Sl.ofCells (l := [5, 6]) q19 (by decide) (by intro y hy; simp only [List.mem_cons, List.not_mem_nil, or_false] at hy; dsimp only [InR]; omega), by decide⟩, (Sl.nil _ _ _), ⟨rfl, rfl, rfl, rfl, rfl, rfl, rfl⟩, by decide⟩
        refine KL.call rfl rfl rfl rfl Try.call7 rfl rfl rfl (NewI_any mv) ?_
        rintro u H9 hR
        obtain ⟨-, rfl, ox⟩ := hR.resolve_left (fun h => nofA h.1)
        have zc_H9 := (ox).1
        have o0 := o0.trans ox
        have c3 := (ox).blk c3
        have c4 := (ox).blk c4
        have bm := (ox).blk bm
        have c5 := (ox).blk c5
        have q19 := (ox).blk q19
        have q21 := (ox).blk q21
        refine KL.op (R.move rfl rfl) rfl rfl rfl ?_
        refine KL.op (R.extract rfl rfl rfl) rfl rfl rfl ?_
        refine KL.op (R.extract rfl rfl rfl) rfl rfl rfl ?_
        refine KL.op (R.assign rfl rfl) rfl rfl rfl ?_
        refine KL.op (R.assign rfl rfl) rfl rfl rfl ?_
        refine KL.nil ?_
        refine KQ.seq ?_
        refine KC.seq ?_
        refine KC.region ?_
        refine KL.op (R.move rfl rfl) rfl rfl rfl ?_
        refine KL.op (R.neqP rfl Try.underlying36 rfl rfl) rfl rfl rfl ?_
        refine KL.op (R.move rfl rfl) rfl rfl rfl ?_
        refine KL.op (R.move rfl rfl) rfl rfl rfl ?_
        refine KL.op ((R.neq rfl rfl rfl).val ((congrArg (fun b => Value.bool (!b)) (decide_eq_true (by rfl))))) rfl rfl rfl ?_
        refine KL.op (R.pick rfl rfl rfl) rfl rfl rfl ?_
        refine KL.nil ?_
        refine KQ.seq ?_
        refine KC.condF rfl ?_
        refine KC.skip ?_
        refine KQ.normBlock ?_
        refine KQ.seq ?_
        refine KC.region ?_
        refine KL.op ((R.add rfl rfl rfl (by dsimp only [InR]; omega)).val (congrArg (Value.int .i64) (show (k : Int) + 1 = ((k + 1 : Nat) : Int) by omega))) rfl rfl rfl ?_
        refine KL.op (R.move rfl rfl) rfl rfl rfl ?_
        refine KL.nil ?_
        refine KQ.again (k + 1) ?_ ?_ ?_
        · exact (Sub.cons rfl (Ext.sub (by repeat (first | exact Ext.refl _ _ | refine Ext.put rfl ?_ | refine Ext.drop rfl ?_))))
        · omega
        · exact ⟨by omega, o0⟩
      · intro hc18
        try simp only [decide_eq_true_eq, decide_eq_false_iff_not, Bool.not_eq_true', Bool.not_eq_false', Bool.and_eq_true, Bool.or_eq_false_iff] at hc18
        refine KC.seq ?_
        refine KC.region ?_
        refine KL.op (R.eql rfl rfl rfl) rfl rfl rfl ?_
        refine KL.op (R.assign rfl rfl) rfl rfl rfl ?_
        refine KL.nil ?_
        refine KQ.seq ?_
        refine KC.iteL rfl ?_ ?_
        · intro hc25
          try simp only [decide_eq_true_eq, decide_eq_false_iff_not, Bool.not_eq_true', Bool.not_eq_false', Bool.and_eq_true, Bool.or_eq_false_iff] at hc25
          refine KC.region ?_
          refine KL.call rfl rfl rfl rfl Try.call13 rfl rfl rfl (at_any (65533)) ?_
          rintro _ H10 ⟨k5, rfl, h5, c5, ox⟩
          have zc_H10 := (ox).1
          have o0 := o0.trans ox
          have c3 := (ox).blk c3
          have c4 := (ox).blk c4
          have bm := (ox).blk bm
          have z5 := blk_lt c5
          refine KL.opM (M.lit rfl Try.underlying49 zs5 (by decide) rfl rfl rfl) rfl rfl rfl ?_
          rintro _ H11 ⟨rfl, n11⟩
          have z11 := n11.2.1
          have o0 := o0.trans n11.1
          have c3 := (n11.1).blk c3
          have c4 := (n11.1).blk c4
          have bm := (n11.1).blk bm
          have c5 := (n11.1).blk c5
          have b11 := n11.2.2
          have q24 := b11
          refine KL.opM (M.mark rfl Try.underlying49 Try.underlying5 rfl q24) rfl rfl rfl ?_
          rintro _ H12 ⟨rfl, um, q24⟩
          have zum := um.1
          have o0 := o0.upd um (by omega)
          have c3 := (um.2 _ (by omega)).trans c3
          have c4 := (um.2 _ (by omega)).trans c4
          have bm := (um.2 _ (by omega)).trans bm
          have c5 := (um.2 _ (by omega)).trans c5
          refine KL.op (R.buildL rfl Try.underlying55 zr55 [(0, 1), (1, 1), (2, 1)] (fun w => by kernel_rfl) rfl ⟨⟨_, rfl, rfl⟩, ⟨_, rfl, rfl⟩, trivial⟩ rfl rfl ⟨⟨_, rfl, by first | rfl⟩, ⟨_, rfl, by first | rfl⟩, trivial⟩ rfl) rfl rfl rfl ?_
          refine KL.opM (M.lit rfl Try.underlying31 zs55 (by decide) rfl rfl rfl) rfl rfl rfl ?_
          rintro _ H13 ⟨rfl, n13⟩
          have z13 := n13.2.1
          have o0 := o0.trans n13.1
          have c3 := (n13.1).blk c3
          have c4 := (n13.1).blk c4
          have bm := (n13.1).blk bm
          have c5 := (n13.1).blk c5
          have q24 := (n13.1).blk q24
          have b13 := n13.2.2
          have q21 := b13
          refine KL.op ((by first | exact R.fieldAddr rfl Try.underlying33 rfl rfl sz31 rfl | exact R.fieldAddrP rfl Try.underlying33 rfl rfl sz31 rfl)) rfl rfl rfl ?_
          refine KL.opS (S.store rfl sz31 rfl rfl rfl rfl bm (by simp)) rfl rfl ?_
          rintro H14 ⟨u14, b14⟩
          have o0 := o0.upd u14 (by omega)
          have zu14 := u14.1
          have c3 := ((u14).2 _ (by omega)).trans c3
          have c4 := ((u14).2 _ (by omega)).trans c4
          have c5 := ((u14).2 _ (by omega)).trans c5
          have q24 := ((u14).2 _ (by omega)).trans q24
          have q21 := ((u14).2 _ (by omega)).trans q21
          have bm := b14
          refine KL.nil ?_
          refine KQ.normBlock ?_
          refine KQ.seq ?_
          refine KC.seq ?_
          refine KC.region ?_
          refine KL.op (R.loadAgg rfl Try.underlying33 rfl sz33 rfl (cells_of bm) rfl) rfl rfl rfl ?_
          have mv : MI H14 (.slice none 0 0) (.slice none 0 0) (.slice none 0 0) _ _ _ (.slice none 0 0) (.bool false) (.int .u32 0) _ (.slice none 0 0) _ mB := ⟨limS (by dsimp only [InR]; omega) (i64R (by decide) (by decide)) c3, limS (by dsimp only [InR]; omega) (i64R (by decide) (by decide)) c4, (Sl.nil _ _ _), (Sl.nil _ _ _), Sl.blk1 q21 rfl (by decide) ⟨_, _, _, rfl, atS (i64R (by decide) (by decide)) c5, Sl.ofCells (l := [97, 98, 99, 100]) q24 (by decide) (by intro y hy; simp only [List.mem_cons, List.not_mem_nil, or_false] at hy; dsimp only [InR]; omega), by decide⟩, ⟨rfl, rfl, rfl, rfl, rfl, rfl, rfl⟩, by decide⟩
          refine KL.call rfl rfl rfl rfl Try.call7 rfl rfl rfl (NewI_any mv) ?_
          rintro u H15 hR
          obtain ⟨-, rfl, ox⟩ := hR.resolve_left (fun h => nofB h.1)
          have zc_H15 := (ox).1
          have o0 := o0.trans ox
          have c3 := (ox).blk c3
          have c4 := (ox).blk c4
          have bm := (ox).blk bm
          have c5 := (ox).blk c5
          have q24 := (ox).blk q24
          have q21 := (ox).blk q21
          refine KL.op (R.move rfl rfl) rfl rfl rfl ?_
          refine KL.op (R.extract rfl rfl rfl) rfl rfl rfl ?_
          refine KL.op (R.extract rfl rfl rfl) rfl rfl rfl ?_
          refine KL.op (R.assign rfl rfl) rfl rfl rfl ?_
          refine KL.op (R.assign rfl rfl) rfl rfl rfl ?_
          refine KL.nil ?_
          refine KQ.seq ?_
          refine KC.seq ?_
          refine KC.region ?_
          refine KL.op (R.move rfl rfl) rfl rfl rfl ?_
          refine KL.op (R.neqP rfl Try.underlying36 rfl rfl) rfl rfl rfl ?_
          refine KL.op (R.move rfl rfl) rfl rfl rfl ?_
          refine KL.op (R.move rfl rfl) rfl rfl rfl ?_
          refine KL.op ((R.neq rfl rfl rfl).val ((congrArg (fun b => Value.bool (!b)) (decide_eq_true (by rfl))))) rfl rfl rfl ?_
          refine KL.op (R.pick rfl rfl rfl) rfl rfl rfl ?_
          refine KL.nil ?_
          refine KQ.seq ?_
          refine KC.condF rfl ?_
          refine KC.skip ?_
          refine KQ.normBlock ?_
          refine KQ.seq ?_
          refine KC.region ?_
          refine KL.op ((R.add rfl rfl rfl (by dsimp only [InR]; omega)).val (congrArg (Value.int .i64) (show (k : Int) + 1 = ((k + 1 : Nat) : Int) by omega))) rfl rfl rfl ?_
          refine KL.op (R.move rfl rfl) rfl rfl rfl ?_
          refine KL.nil ?_
          refine KQ.again (k + 1) ?_ ?_ ?_
          · exact (Sub.cons rfl (Ext.sub (by repeat (first | exact Ext.refl _ _ | refine Ext.put rfl ?_ | refine Ext.drop rfl ?_))))
          · omega
          · exact ⟨by omega, o0⟩
        · intro hc25
          try simp only [decide_eq_true_eq, decide_eq_false_iff_not, Bool.not_eq_true', Bool.not_eq_false', Bool.and_eq_true, Bool.or_eq_false_iff] at hc25
          refine KC.seq ?_
          refine KC.region ?_
          refine KL.op (R.eql rfl rfl rfl) rfl rfl rfl ?_
          refine KL.op (R.assign rfl rfl) rfl rfl rfl ?_
          refine KL.nil ?_
          refine KQ.seq ?_
          refine KC.iteL rfl ?_ ?_
          · intro hc33
            try simp only [decide_eq_true_eq, decide_eq_false_iff_not, Bool.not_eq_true', Bool.not_eq_false', Bool.and_eq_true, Bool.or_eq_false_iff] at hc33
            refine KC.region ?_
            refine KL.call rfl rfl rfl rfl Try.call13 rfl rfl rfl (at_any (0)) ?_
            rintro _ H16 ⟨k5, rfl, h5, c5, ox⟩
            have zc_H16 := (ox).1
            have o0 := o0.trans ox
            have c3 := (ox).blk c3
            have c4 := (ox).blk c4
            have bm := (ox).blk bm
            have z5 := blk_lt c5
            refine KL.opM (M.lit rfl Try.underlying49 zs5 (by decide) rfl rfl rfl) rfl rfl rfl ?_
            rintro _ H17 ⟨rfl, n17⟩
            have z17 := n17.2.1
            have o0 := o0.trans n17.1
            have c3 := (n17.1).blk c3
            have c4 := (n17.1).blk c4
            have bm := (n17.1).blk bm
            have c5 := (n17.1).blk c5
            have b17 := n17.2.2
            have q24 := b17
            refine KL.opM (M.mark rfl Try.underlying49 Try.underlying5 rfl q24) rfl rfl rfl ?_
            rintro _ H18 ⟨rfl, um, q24⟩
            have zum := um.1
            have o0 := o0.upd um (by omega)
            have c3 := (um.2 _ (by omega)).trans c3
            have c4 := (um.2 _ (by omega)).trans c4
            have bm := (um.2 _ (by omega)).trans bm
            have c5 := (um.2 _ (by omega)).trans c5
            refine KL.op (R.buildL rfl Try.underlying55 zr55 [(0, 1), (1, 1), (2, 1)] (fun w => by kernel_rfl) rfl ⟨⟨_, rfl, rfl⟩, ⟨_, rfl, rfl⟩, trivial⟩ rfl rfl ⟨⟨_, rfl, by first | rfl⟩, ⟨_, rfl, by first | rfl⟩, trivial⟩ rfl) rfl rfl rfl ?_
            refine KL.opM (M.lit rfl Try.underlying31 zs55 (by decide) rfl rfl rfl) rfl rfl rfl ?_
            rintro _ H19 ⟨rfl, n19⟩
            have z19 := n19.2.1
            have o0 := o0.trans n19.1
            have c3 := (n19.1).blk c3
            have c4 := (n19.1).blk c4
            have bm := (n19.1).blk bm
            have c5 := (n19.1).blk c5
            have q24 := (n19.1).blk q24
            have b19 := n19.2.2
            have q21 := b19
            refine KL.op ((by first | exact R.fieldAddr rfl Try.underlying33 rfl rfl sz25 rfl | exact R.fieldAddrP rfl Try.underlying33 rfl rfl sz25 rfl)) rfl rfl rfl ?_
            refine KL.opS (S.store rfl sz25 rfl rfl rfl rfl bm (by simp)) rfl rfl ?_
            rintro H20 ⟨u20, b20⟩
            have o0 := o0.upd u20 (by omega)
            have zu20 := u20.1
            have c3 := ((u20).2 _ (by omega)).trans c3
            have c4 := ((u20).2 _ (by omega)).trans c4
            have c5 := ((u20).2 _ (by omega)).trans c5
            have q24 := ((u20).2 _ (by omega)).trans q24
            have q21 := ((u20).2 _ (by omega)).trans q21
            have bm := b20
            refine KL.op ((by first | exact R.fieldAddr rfl Try.underlying33 rfl rfl sz31 rfl | exact R.fieldAddrP rfl Try.underlying33 rfl rfl sz31 rfl)) rfl rfl rfl ?_
            refine KL.opS (S.store rfl sz31 rfl rfl rfl rfl bm (by simp)) rfl rfl ?_
            rintro H21 ⟨u21, b21⟩
            have o0 := o0.upd u21 (by omega)
            have zu21 := u21.1
            have c3 := ((u21).2 _ (by omega)).trans c3
            have c4 := ((u21).2 _ (by omega)).trans c4
            have c5 := ((u21).2 _ (by omega)).trans c5
            have q24 := ((u21).2 _ (by omega)).trans q24
            have q21 := ((u21).2 _ (by omega)).trans q21
            have bm := b21
            refine KL.nil ?_
            refine KQ.normBlock ?_
            refine KQ.seq ?_
            refine KC.seq ?_
            refine KC.region ?_
            refine KL.op (R.loadAgg rfl Try.underlying33 rfl sz33 rfl (cells_of bm) rfl) rfl rfl rfl ?_
            have mv : MI H21 (.slice none 0 0) (.slice none 0 0) (.slice none 0 0) _ _ _ (.slice none 0 0) (.bool false) (.int .u32 0) _ (.slice none 0 0) _ mC := ⟨limS (by dsimp only [InR]; omega) (i64R (by decide) (by decide)) c3, (Sl.nil _ _ _), (Sl.nil _ _ _), (Sl.nil _ _ _), Sl.blk1 q21 rfl (by decide) ⟨_, _, _, rfl, atS (i64R (by decide) (by decide)) c5, Sl.ofCells (l := [97]) q24 (by decide) (by intro y hy; simp only [List.mem_cons, List.not_mem_nil, or_false] at hy; dsimp only [InR]; omega), by decide⟩, ⟨rfl, rfl, rfl, rfl, rfl, rfl, rfl⟩, by decide⟩
            refine KL.call rfl rfl rfl rfl Try.call7 rfl rfl rfl (NewI_any mv) ?_
            rintro u H22 hR
            obtain ⟨-, rfl, ox⟩ := hR.resolve_left (fun h => nofC h.1)
            have zc_H22 := (ox).1
            have o0 := o0.trans ox
            have c3 := (ox).blk c3
            have c4 := (ox).blk c4
            have bm := (ox).blk bm
            have c5 := (ox).blk c5
            have q24 := (ox).blk q24
            have q21 := (ox).blk q21
            refine KL.op (R.move rfl rfl) rfl rfl rfl ?_
            refine KL.op (R.extract rfl rfl rfl) rfl rfl rfl ?_
            refine KL.op (R.extract rfl rfl rfl) rfl rfl rfl ?_
            refine KL.op (R.assign rfl rfl) rfl rfl rfl ?_
            refine KL.op (R.assign rfl rfl) rfl rfl rfl ?_
            refine KL.nil ?_
            refine KQ.seq ?_
            refine KC.seq ?_
            refine KC.region ?_
            refine KL.op (R.move rfl rfl) rfl rfl rfl ?_
            refine KL.op (R.neqP rfl Try.underlying36 rfl rfl) rfl rfl rfl ?_
            refine KL.op (R.move rfl rfl) rfl rfl rfl ?_
            refine KL.op (R.move rfl rfl) rfl rfl rfl ?_
            refine KL.op ((R.neq rfl rfl rfl).val ((congrArg (fun b => Value.bool (!b)) (decide_eq_true (by rfl))))) rfl rfl rfl ?_
            refine KL.op (R.pick rfl rfl rfl) rfl rfl rfl ?_
            refine KL.nil ?_
            refine KQ.seq ?_
            refine KC.condF rfl ?_
            refine KC.skip ?_
            refine KQ.normBlock ?_
            refine KQ.seq ?_
            refine KC.region ?_
            refine KL.op ((R.add rfl rfl rfl (by dsimp only [InR]; omega)).val (congrArg (Value.int .i64) (show (k : Int) + 1 = ((k + 1 : Nat) : Int) by omega))) rfl rfl rfl ?_
            refine KL.op (R.move rfl rfl) rfl rfl rfl ?_
            refine KL.nil ?_
            refine KQ.again (k + 1) ?_ ?_ ?_
            · exact (Sub.cons rfl (Ext.sub (by repeat (first | exact Ext.refl _ _ | refine Ext.put rfl ?_ | refine Ext.drop rfl ?_))))
            · omega
            · exact ⟨by omega, o0⟩
          · intro hc33
            try simp only [decide_eq_true_eq, decide_eq_false_iff_not, Bool.not_eq_true', Bool.not_eq_false', Bool.and_eq_true, Bool.or_eq_false_iff] at hc33
            exfalso; omega
    · intro hc14
      try simp only [decide_eq_true_eq, decide_eq_false_iff_not, Bool.not_eq_true', Bool.not_eq_false', Bool.and_eq_true, Bool.or_eq_false_iff] at hc14
      refine KC.exit ?_
      refine KQ.exitThen ?_
      refine KQ.exitThen ?_
      refine KQ.hit ?_
      refine KQ.seq ?_
      refine KC.seq ?_
      refine KC.region ?_
      refine KL.op (R.assign rfl rfl) rfl rfl rfl ?_
      refine KL.nil ?_
      refine KQ.seq ?_
      refine KC.seq ?_
      refine KC.region ?_
      refine KL.op (R.move rfl rfl) rfl rfl rfl ?_
      refine KL.call rfl rfl rfl rfl Try.call9 rfl rfl rfl (Elem_nil 0) ?_
      rintro _ _ ⟨rfl, rfl⟩
      refine KL.op (R.move rfl rfl) rfl rfl rfl ?_
      refine KL.op (R.extract rfl rfl rfl) rfl rfl rfl ?_
      refine KL.op (R.extract rfl rfl rfl) rfl rfl rfl ?_
      refine KL.op (R.extract rfl rfl rfl) rfl rfl rfl ?_
      refine KL.op (R.assign rfl rfl) rfl rfl rfl ?_
      refine KL.op (R.assign rfl rfl) rfl rfl rfl ?_
      refine KL.op (R.assign rfl rfl) rfl rfl rfl ?_
      refine KL.nil ?_
      refine KQ.seq ?_
      refine KC.seq ?_
      refine KC.region ?_
      refine KL.op (R.move rfl rfl) rfl rfl rfl ?_
      refine KL.call rfl rfl rfl rfl Try.call14 rfl rfl rfl (Global_nil 0) ?_
      rintro _ _ ⟨rfl, rfl⟩
      refine KL.op (R.move rfl rfl) rfl rfl rfl ?_
      refine KL.op (R.extract rfl rfl rfl) rfl rfl rfl ?_
      refine KL.op (R.extract rfl rfl rfl) rfl rfl rfl ?_
      refine KL.op (R.assign rfl rfl) rfl rfl rfl ?_
      refine KL.op (R.assign rfl rfl) rfl rfl rfl ?_
      refine KL.nil ?_
      refine KQ.seq ?_
      refine KC.seq ?_
      refine KC.region ?_
      refine KL.call rfl rfl rfl rfl Try.call13 rfl rfl rfl (at_any (0)) ?_
      rintro _ H23 ⟨k5, rfl, h5, c5, ox⟩
      have zc_H23 := (ox).1
      have o0 := o0.trans ox
      have z5 := blk_lt c5
      refine KL.op (R.buildL rfl Try.underlying55 zr55 [(0, 1), (1, 1), (2, 1)] (fun w => by kernel_rfl) rfl ⟨⟨_, rfl, rfl⟩, trivial⟩ rfl rfl ⟨⟨_, rfl, by first | rfl⟩, trivial⟩ rfl) rfl rfl rfl ?_
      refine KL.opM (M.lit rfl Try.underlying31 zs55 (by decide) rfl rfl rfl) rfl rfl rfl ?_
      rintro _ H24 ⟨rfl, n24⟩
      have z24 := n24.2.1
      have o0 := o0.trans n24.1
      have c5 := (n24.1).blk c5
      have b24 := n24.2.2
      have q21 := b24
      refine KL.op (R.buildL rfl Try.underlying33 zr33 [(0, 1), (1, 1), (2, 1), (3, 1), (4, 1), (5, 1), (6, 1), (7, 1), (8, 1), (9, 1), (10, 1), (11, 1)] (fun w => by kernel_rfl) rfl ⟨⟨_, rfl, rfl⟩, trivial⟩ rfl rfl ⟨⟨_, rfl, by first | rfl⟩, trivial⟩ rfl) rfl rfl rfl ?_
      have mv : MI H24 (.slice none 0 0) (.slice none 0 0) (.slice none 0 0) (.slice none 0 0) (.slice none 0 0) (.slice none 0 0) (.slice none 0 0) (.bool false) (.int .u32 0) (.slice none 0 0) (.slice none 0 0) _ mD := ⟨(Sl.nil _ _ _), (Sl.nil _ _ _), (Sl.nil _ _ _), (Sl.nil _ _ _), Sl.blk1 q21 rfl (by decide) ⟨_, _, _, rfl, atS (i64R (by decide) (by decide)) c5, Sl.nil _ _ _, by decide⟩, ⟨rfl, rfl, rfl, rfl, rfl, rfl, rfl⟩, by decide⟩
      refine KL.call rfl rfl rfl rfl Try.call7 rfl rfl rfl (NewI_any mv) ?_
      rintro u H25 hR
      obtain ⟨-, g, mp, tv, gv, rfl, is, hgs, ox⟩ := hR.resolve_right (fun h => h.1 fitD)
      obtain rfl : mp = .pointer none := (is.mm.resolve_right (fun h => h.1 rfl)).2
      have zc_H25 := (ox).1
      have o0 := o0.trans ox
      have c5 := (ox).blk c5
      have q21 := (ox).blk q21
      refine KL.op (R.move rfl rfl) rfl rfl rfl ?_
      refine KL.op (R.extract rfl rfl rfl) rfl rfl rfl ?_
      refine KL.op (R.extract rfl rfl rfl) rfl rfl rfl ?_
      refine KL.op (R.assign rfl rfl) rfl rfl rfl ?_
      refine KL.op (R.assign rfl rfl) rfl rfl rfl ?_
      refine KL.nil ?_
      refine KQ.seq ?_
      refine KC.seq ?_
      refine KC.region ?_
      refine KL.call rfl rfl rfl rfl Try.call6 rfl rfl rfl (works_any) ?_
      rintro _ H26 ⟨rfl, ox⟩
      have zc_H26 := (ox).1
      have o0 := o0.trans ox
      have c5 := (ox).blk c5
      have q21 := (ox).blk q21
      have is := is.old ox
      refine KL.op (R.move rfl rfl) rfl rfl rfl ?_
      refine KL.op (R.move rfl rfl) rfl rfl rfl ?_
      refine KL.call rfl rfl rfl rfl Try.call10 rfl rfl rfl (Mem_nil) ?_
      rintro _ _ ⟨rfl, rfl⟩
      refine KL.op (R.eqlP rfl Try.underlying51 rfl rfl) rfl rfl rfl ?_
      refine KL.op (R.pick rfl rfl rfl) rfl rfl rfl ?_
      refine KL.op (R.move rfl rfl) rfl rfl rfl ?_
      refine KL.op (R.move rfl rfl) rfl rfl rfl ?_
      refine KL.op ((R.not rfl rfl).val (show _ = Value.bool true from rfl)) rfl rfl rfl ?_
      refine KL.op (R.pick rfl rfl rfl) rfl rfl rfl ?_
      refine KL.op (R.move rfl rfl) rfl rfl rfl ?_
      refine KL.op (R.move rfl rfl) rfl rfl rfl ?_
      refine KL.op ((R.not rfl rfl).val (show _ = Value.bool true from rfl)) rfl rfl rfl ?_
      refine KL.op (R.pick rfl rfl rfl) rfl rfl rfl ?_
      refine KL.op (R.move rfl rfl) rfl rfl rfl ?_
      refine KL.op (R.move rfl rfl) rfl rfl rfl ?_
      refine KL.op ((R.not rfl rfl).val (show _ = Value.bool true from rfl)) rfl rfl rfl ?_
      refine KL.op (R.pick rfl rfl rfl) rfl rfl rfl ?_
      refine KL.op (R.move rfl rfl) rfl rfl rfl ?_
      refine KL.op (R.move rfl rfl) rfl rfl rfl ?_
      refine KL.call rfl rfl rfl rfl Try.call15 rfl rfl rfl (Set_nil 0 1) ?_
      rintro _ _ ⟨rfl, rfl⟩
      refine KL.op ((R.not rfl rfl).val (show _ = Value.bool true from rfl)) rfl rfl rfl ?_
      refine KL.op (R.pick rfl rfl rfl) rfl rfl rfl ?_
      refine KL.op (R.move rfl rfl) rfl rfl rfl ?_
      refine KL.op (R.move rfl rfl) rfl rfl rfl ?_
      refine KL.call rfl rfl rfl rfl Try.call16 rfl rfl rfl (CopyI_nil) ?_
      rintro _ _ ⟨rfl, rfl⟩
      refine KL.op (R.eqlP rfl Try.underlying36 rfl rfl) rfl rfl rfl ?_
      refine KL.op (R.pick rfl rfl rfl) rfl rfl rfl ?_
      refine KL.op (R.move rfl rfl) rfl rfl rfl ?_
      refine KL.op (R.move rfl rfl) rfl rfl rfl ?_
      refine KL.op (R.neqP rfl Try.underlying36 rfl rfl) rfl rfl rfl ?_
      refine KL.op (R.pick rfl rfl rfl) rfl rfl rfl ?_
      refine KL.op (R.move rfl rfl) rfl rfl rfl ?_
      refine KL.op (R.move rfl rfl) rfl rfl rfl ?_
      refine KL.op ((R.eql rfl rfl rfl).val (congrArg Value.bool (decide_eq_true (by rfl)))) rfl rfl rfl ?_
      refine KL.op (R.pick rfl rfl rfl) rfl rfl rfl ?_
      refine KL.op (R.move rfl rfl) rfl rfl rfl ?_
      refine KL.op (R.move rfl rfl) rfl rfl rfl ?_
      refine KL.call rfl rfl rfl rfl Try.call10 rfl rfl rfl (Mem_any is) ?_
      rintro _ _ ⟨rfl, rfl⟩
      refine KL.op (R.eqlP rfl Try.underlying51 rfl rfl) rfl rfl rfl ?_
      refine KL.op (R.pick rfl rfl rfl) rfl rfl rfl ?_
      refine KL.op (R.assign rfl rfl) rfl rfl rfl ?_
      refine KL.nil ?_
      refine KQ.seq ?_
      refine KC.ret ?_
      refine KQ.ofRet ?_
      refine KQ.fin1 Try.results4 rfl ?_
      exact ⟨rfl, o0⟩

end Go.Proofs.Yticnkojpfmkjeaa
