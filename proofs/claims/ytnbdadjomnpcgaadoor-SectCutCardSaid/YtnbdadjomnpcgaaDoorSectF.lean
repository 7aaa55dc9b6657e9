/- SectCut, walked. No condition but that the library tables are laid, and what a tied card says of sizes. -/
import Derived.Test.YtnbdadjomnpcgaaDoorSectE
import Derived.Test.YtnbdadjomnpcgaaDoorSectS
namespace Go.Proofs.YtnbdadjomnpcgaaDoor
open Go Go.RowKit
set_option linter.unusedVariables false
set_option linter.unusedSimpArgs false
set_option linter.unnecessarySimpa false
set_option maxRecDepth 100000 in
set_option maxHeartbeats 4000000 in
theorem SectCut_any {H : Heap} (vb : Value) (b : List Int) (sb : Sl 1 (EInt .u8) H vb b) (hbl : b.length ≤ 140737488351232) (c : Int) (rc : InR .i64 c) (hT : TabU H) : Ct Tryd.prog 6 [vb, .int .i64 c] H (fun u H' => u = .bool true ∧ Old H H') := by
  refine Ct.mk Tryd.func6 rfl Tryd.ntmps6 rfl ?_
  intro W0 hW0
  have o0 : Old H H := Old.refl H
  dsimp only [InR] at rc
  refine KC.seq ?_
  refine KC.region ?_
  refine KL.op (R.assign rfl rfl) rfl rfl rfl ?_
  refine KL.nil ?_
  refine KQ.seq ?_
  refine KC.seq ?_
  refine KC.seq ?_
  refine KC.region ?_
  refine KL.call rfl rfl rfl rfl Tryd.call8 rfl rfl rfl (known_any (hT.old o0)) ?_
  rintro _ H1 ⟨rfl, ox⟩
  have zc_H1 := (ox).1
  have o0 := o0.trans ox
  refine KL.op (R.not rfl rfl) rfl rfl rfl ?_
  refine KL.nil ?_
  refine KQ.seq ?_
  refine KC.condF rfl ?_
  refine KC.skip ?_
  refine KQ.seq ?_
  refine KC.seq ?_
  refine KC.region ?_
  refine KL.op (R.move rfl rfl) rfl rfl rfl ?_
  refine KL.call rfl rfl rfl rfl Tryd.call9 rfl rfl rfl (Split_or _ _ (sb.old o0) (hT.old o0) hbl) ?_
  rintro u8_ H2 ⟨ox, hR⟩
  have zc_H2 := (ox).1
  have o0 := o0.trans ox
  rcases hR with ⟨hsp, rfl⟩ | ⟨l, vl, hsp, rfl, so⟩
  · skip
    refine KL.op (R.move rfl rfl) rfl rfl rfl ?_
    refine KL.op (R.extract rfl rfl rfl) rfl rfl rfl ?_
    refine KL.op (R.extract rfl rfl rfl) rfl rfl rfl ?_
    refine KL.op (R.assign rfl rfl) rfl rfl rfl ?_
    refine KL.op (R.assign rfl rfl) rfl rfl rfl ?_
    refine KL.nil ?_
    refine KQ.seq ?_
    refine KC.seq ?_
    refine KC.seq ?_
    refine KC.region ?_
    refine KL.op (R.move rfl rfl) rfl rfl rfl ?_
    refine KL.op (R.lenS rfl Tryd.underlying22 rfl sb) rfl rfl rfl ?_
    refine KL.op (R.gtr rfl rfl rfl) rfl rfl rfl ?_
    refine KL.op (R.move rfl rfl) rfl rfl rfl ?_
    refine KL.case (d := 26) rfl ?_ ?_
    · intro hg26
      try simp only [decide_eq_true_eq, decide_eq_false_iff_not, Bool.not_eq_true', Bool.not_eq_false', Bool.and_eq_true, Bool.or_eq_false_iff] at hg26
      refine KL.skip rfl rfl rfl ?_
      refine KL.skip rfl rfl rfl ?_
      refine KL.op (R.pick rfl rfl rfl) rfl rfl rfl ?_
      refine KL.op (R.move rfl rfl) rfl rfl rfl ?_
      refine KL.skip rfl rfl rfl ?_
      refine KL.skip rfl rfl rfl ?_
      refine KL.op (R.pick rfl rfl rfl) rfl rfl rfl ?_
      refine KL.op (R.move rfl rfl) rfl rfl rfl ?_
      refine KL.skip rfl rfl rfl ?_
      refine KL.skip rfl rfl rfl ?_
      refine KL.skip rfl rfl rfl ?_
      refine KL.skip rfl rfl rfl ?_
      refine KL.op (R.pick rfl rfl rfl) rfl rfl rfl ?_
      refine KL.nil ?_
      refine KQ.seq ?_
      refine KC.condT rfl ?_
      refine KC.seq ?_
      refine KC.region ?_
      refine KL.op (R.assign rfl rfl) rfl rfl rfl ?_
      refine KL.nil ?_
      refine KQ.seq ?_
      refine KC.ret ?_
      refine KQ.retThen ?_
      refine KQ.ofRet ?_
      refine KQ.fin1 Tryd.results6 rfl ?_
      exact ⟨rfl, o0⟩
    · intro hg26
      try simp only [decide_eq_true_eq, decide_eq_false_iff_not, Bool.not_eq_true', Bool.not_eq_false', Bool.and_eq_true, Bool.or_eq_false_iff] at hg26
      refine KL.op (R.move rfl rfl) rfl rfl rfl ?_
      refine KL.op ((R.neq rfl rfl rfl).val ((congrArg (fun b => Value.bool (!b)) (decide_eq_false (by omega))))) rfl rfl rfl ?_
      refine KL.op (R.pick rfl rfl rfl) rfl rfl rfl ?_
      refine KL.op (R.move rfl rfl) rfl rfl rfl ?_
      refine KL.skip rfl rfl rfl ?_
      refine KL.skip rfl rfl rfl ?_
      refine KL.op (R.pick rfl rfl rfl) rfl rfl rfl ?_
      refine KL.op (R.move rfl rfl) rfl rfl rfl ?_
      refine KL.skip rfl rfl rfl ?_
      refine KL.skip rfl rfl rfl ?_
      refine KL.skip rfl rfl rfl ?_
      refine KL.skip rfl rfl rfl ?_
      refine KL.op (R.pick rfl rfl rfl) rfl rfl rfl ?_
      refine KL.nil ?_
      refine KQ.seq ?_
      refine KC.condT rfl ?_
      refine KC.seq ?_
      refine KC.region ?_
      refine KL.op (R.assign rfl rfl) rfl rfl rfl ?_
      refine KL.nil ?_
      refine KQ.seq ?_
      refine KC.ret ?_
      refine KQ.retThen ?_
      refine KQ.ofRet ?_
      refine KQ.fin1 Tryd.results6 rfl ?_
      exact ⟨rfl, o0⟩
  · skip
    refine KL.op (R.move rfl rfl) rfl rfl rfl ?_
    refine KL.op (R.extract rfl rfl rfl) rfl rfl rfl ?_
    refine KL.op (R.extract rfl rfl rfl) rfl rfl rfl ?_
    refine KL.op (R.assign rfl rfl) rfl rfl rfl ?_
    refine KL.op (R.assign rfl rfl) rfl rfl rfl ?_
    refine KL.nil ?_
    refine KQ.seq ?_
    refine KC.seq ?_
    refine KC.seq ?_
    refine KC.region ?_
    refine KL.op (R.move rfl rfl) rfl rfl rfl ?_
    refine KL.op (R.lenS rfl Tryd.underlying22 rfl sb) rfl rfl rfl ?_
    refine KL.op (R.gtr rfl rfl rfl) rfl rfl rfl ?_
    refine KL.op (R.move rfl rfl) rfl rfl rfl ?_
    refine KL.case (d := 26) rfl ?_ ?_
    · intro hg26
      try simp only [decide_eq_true_eq, decide_eq_false_iff_not, Bool.not_eq_true', Bool.not_eq_false', Bool.and_eq_true, Bool.or_eq_false_iff] at hg26
      refine KL.skip rfl rfl rfl ?_
      refine KL.skip rfl rfl rfl ?_
      refine KL.op (R.pick rfl rfl rfl) rfl rfl rfl ?_
      refine KL.op (R.move rfl rfl) rfl rfl rfl ?_
      refine KL.skip rfl rfl rfl ?_
      refine KL.skip rfl rfl rfl ?_
      refine KL.op (R.pick rfl rfl rfl) rfl rfl rfl ?_
      refine KL.op (R.move rfl rfl) rfl rfl rfl ?_
      refine KL.skip rfl rfl rfl ?_
      refine KL.skip rfl rfl rfl ?_
      refine KL.skip rfl rfl rfl ?_
      refine KL.skip rfl rfl rfl ?_
      refine KL.op (R.pick rfl rfl rfl) rfl rfl rfl ?_
      refine KL.nil ?_
      refine KQ.seq ?_
      refine KC.condT rfl ?_
      refine KC.seq ?_
      refine KC.region ?_
      refine KL.op (R.assign rfl rfl) rfl rfl rfl ?_
      refine KL.nil ?_
      refine KQ.seq ?_
      refine KC.ret ?_
      refine KQ.retThen ?_
      refine KQ.ofRet ?_
      refine KQ.fin1 Tryd.results6 rfl ?_
      exact ⟨rfl, o0⟩
    · intro hg26
      try simp only [decide_eq_true_eq, decide_eq_false_iff_not, Bool.not_eq_true', Bool.not_eq_false', Bool.and_eq_true, Bool.or_eq_false_iff] at hg26
      refine KL.op (R.move rfl rfl) rfl rfl rfl ?_
      refine KL.op ((R.neq rfl rfl rfl).val ((congrArg (fun b => Value.bool (!b)) (decide_eq_true (by rfl))))) rfl rfl rfl ?_
      refine KL.op (R.pick rfl rfl rfl) rfl rfl rfl ?_
      refine KL.op (R.move rfl rfl) rfl rfl rfl ?_
      refine KL.op (R.move rfl rfl) rfl rfl rfl ?_
      refine KL.op (R.lss rfl rfl rfl) rfl rfl rfl ?_
      refine KL.op (R.pick rfl rfl rfl) rfl rfl rfl ?_
      refine KL.op (R.move rfl rfl) rfl rfl rfl ?_
      refine KL.case (d := 34) rfl ?_ ?_
      · intro hg34
        try simp only [decide_eq_true_eq, decide_eq_false_iff_not, Bool.not_eq_true', Bool.not_eq_false', Bool.and_eq_true, Bool.or_eq_false_iff] at hg34
        refine KL.skip rfl rfl rfl ?_
        refine KL.skip rfl rfl rfl ?_
        refine KL.skip rfl rfl rfl ?_
        refine KL.skip rfl rfl rfl ?_
        refine KL.op (R.pick rfl rfl rfl) rfl rfl rfl ?_
        refine KL.nil ?_
        refine KQ.seq ?_
        refine KC.condT rfl ?_
        refine KC.seq ?_
        refine KC.region ?_
        refine KL.op (R.assign rfl rfl) rfl rfl rfl ?_
        refine KL.nil ?_
        refine KQ.seq ?_
        refine KC.ret ?_
        refine KQ.retThen ?_
        refine KQ.ofRet ?_
        refine KQ.fin1 Tryd.results6 rfl ?_
        exact ⟨rfl, o0⟩
      · intro hg34
        try simp only [decide_eq_true_eq, decide_eq_false_iff_not, Bool.not_eq_true', Bool.not_eq_false', Bool.and_eq_true, Bool.or_eq_false_iff] at hg34
        refine KL.op (R.move rfl rfl) rfl rfl rfl ?_
        refine KL.op (R.move rfl rfl) rfl rfl rfl ?_
        refine KL.op (R.lenS rfl Tryd.underlying22 rfl sb) rfl rfl rfl ?_
        refine KL.op (R.gtr rfl rfl rfl) rfl rfl rfl ?_
        refine KL.op (R.pick rfl rfl rfl) rfl rfl rfl ?_
        refine KL.nil ?_
        refine KQ.seq ?_
        refine KC.iteL rfl ?_ ?_
        · intro hc39
          try simp only [decide_eq_true_eq, decide_eq_false_iff_not, Bool.not_eq_true', Bool.not_eq_false', Bool.and_eq_true, Bool.or_eq_false_iff] at hc39
          refine KC.seq ?_
          refine KC.region ?_
          refine KL.op (R.assign rfl rfl) rfl rfl rfl ?_
          refine KL.nil ?_
          refine KQ.seq ?_
          refine KC.ret ?_
          refine KQ.retThen ?_
          refine KQ.ofRet ?_
          refine KQ.fin1 Tryd.results6 rfl ?_
          exact ⟨rfl, o0⟩
        · intro hc39
          try simp only [decide_eq_true_eq, decide_eq_false_iff_not, Bool.not_eq_true', Bool.not_eq_false', Bool.and_eq_true, Bool.or_eq_false_iff] at hc39
          refine KC.skip ?_
          refine KQ.seq ?_
          refine KC.seq ?_
          refine KC.region ?_
          refine KL.op (R.move rfl rfl) rfl rfl rfl ?_
          refine KL.op ((R.eql rfl rfl rfl).val (congrArg Value.bool (show decide (c = 8) = decide (((8 : Nat) : Int) = c) from decide_eq_decide.2 ⟨fun h => by omega, fun h => by omega⟩))) rfl rfl rfl ?_
          refine KL.op (R.assign rfl rfl) rfl rfl rfl ?_
          refine KL.op (R.assign rfl rfl) rfl rfl rfl ?_
          refine KL.op (R.assign rfl rfl) rfl rfl rfl ?_
          refine KL.nil ?_
          refine KQ.seq ?_
          refine KC.seq ?_
          refine KC.block ?_
          refine KC.loopD (κ := Nat × List Sec × Int) [42, 43, 44, 45, 46, 47, 48, 49, 50, 52, 53, 54, 55, 56, 51, 57, 58, 59, 10, 11, 12, 60, 61, 4, 62, 63, 64, 65, 66, 67, 68, 9, 69, 70, 71, 72, 73, 74, 75, 7, 76, 77, 78, 8] (fun k => [(7, .int .i64 (k.1 : Nat)), (8, .bool (decide ((k.1 : Int) = c))), (9, .int .i64 (k.2.1.length : Nat))]) (fun k Hl => Sc.Cut b c.toNat l k.1 k.2.1 k.2.2 ∧ Old H Hl ∧ Old H2 Hl) (fun k => b.length - k.1) (8, [], 0) ?_ ?_ ?_
          · exact (Sub.cons rfl (Sub.cons rfl (Sub.cons rfl (Ext.sub (Ext.refl _ _)))))
          · exact ⟨Sc.cut_start hsp, o0, Old.refl _⟩
          · rintro ⟨at_, acc, last⟩ H3 ⟨hcu, o0, oS⟩
            have zl_H3 := o0.1
            dsimp only at hcu
            have hcb := hcu.1
            have hcb2 := hcu.2.1
            obtain ⟨hcb3, hpx⟩ := Sc.cut_acc hcu
            have hfew := Sc.split_few hsp
            refine KC.seq ?_
            refine KC.seq ?_
            refine KC.region ?_
            refine KL.op (R.move rfl rfl) rfl rfl rfl ?_
            refine KL.op (R.move rfl rfl) rfl rfl rfl ?_
            refine KL.op (R.lenS rfl Tryd.underlying22 rfl sb) rfl rfl rfl ?_
            refine KL.op (R.lss rfl rfl rfl) rfl rfl rfl ?_
            refine KL.op (R.move rfl rfl) rfl rfl rfl ?_
            refine KL.case (d := 46) rfl ?_ ?_
            · intro hg46
              try simp only [decide_eq_true_eq, decide_eq_false_iff_not, Bool.not_eq_true', Bool.not_eq_false', Bool.and_eq_true, Bool.or_eq_false_iff] at hg46
              refine KL.op (R.move rfl rfl) rfl rfl rfl ?_
              refine KL.op (R.move rfl rfl) rfl rfl rfl ?_
              refine KL.op (R.lss rfl rfl rfl) rfl rfl rfl ?_
              refine KL.op (R.pick rfl rfl rfl) rfl rfl rfl ?_
              refine KL.nil ?_
              refine KQ.seq ?_
              refine KC.iteL rfl ?_ ?_
              · intro hc50
                try simp only [decide_eq_true_eq, decide_eq_false_iff_not, Bool.not_eq_true', Bool.not_eq_false', Bool.and_eq_true, Bool.or_eq_false_iff] at hc50
                obtain ⟨n, k, ht, hle, hst1, hst2⟩ := Sc.cut_step hcu (by omega) (by omega)
                have hkk := Lb.tk32 ht
                have q1 := (sb.int at_ (by omega)).2
                dsimp only [InR] at q1
                refine KC.skip ?_
                refine KQ.seq ?_
                refine KC.block ?_
                refine KC.seq ?_
                refine KC.region ?_
                refine KL.op (R.move rfl rfl) rfl rfl rfl ?_
                refine KL.op (R.move rfl rfl) rfl rfl rfl ?_
                refine KL.op ((R.add rfl rfl rfl (by dsimp only [InR]; omega)).val (congrArg (Value.int .i64) (show _ = ((at_ + 1 : Nat) : Int) from by omega))) rfl rfl rfl ?_
                refine KL.op (R.slice rfl Tryd.underlying22 sz5 rfl (sb.old o0) (bnd.mk (r := at_ + 1) rfl rfl) bnd.no (by omega) (Nat.le_refl _)) rfl rfl rfl ?_
                have s1 := (sb.old o0).tail (lo := at_ + 1) (by omega)
                refine KL.call rfl rfl rfl rfl Tryd.call16 rfl rfl rfl (TakeU_some _ _ _ _ _ s1 ht) ?_
                rintro _ _ ⟨rfl, rfl⟩
                refine KL.op (R.move rfl rfl) rfl rfl rfl ?_
                refine KL.op (R.extract rfl rfl rfl) rfl rfl rfl ?_
                refine KL.op (R.extract rfl rfl rfl) rfl rfl rfl ?_
                refine KL.op (R.extract rfl rfl rfl) rfl rfl rfl ?_
                refine KL.op (R.assign rfl rfl) rfl rfl rfl ?_
                refine KL.op (R.assign rfl rfl) rfl rfl rfl ?_
                refine KL.op (R.assign rfl rfl) rfl rfl rfl ?_
                refine KL.nil ?_
                refine KQ.seq ?_
                refine KC.seq ?_
                refine KC.seq ?_
                refine KC.region ?_
                refine KL.op (R.move rfl rfl) rfl rfl rfl ?_
                refine KL.op (R.not rfl rfl) rfl rfl rfl ?_
                refine KL.nil ?_
                refine KQ.seq ?_
                refine KC.condF rfl ?_
                refine KC.skip ?_
                refine KQ.seq ?_
                refine KC.seq ?_
                refine KC.seq ?_
                refine KC.region ?_
                refine KL.op (R.move rfl rfl) rfl rfl rfl ?_
                refine KL.op (R.move rfl rfl) rfl rfl rfl ?_
                refine KL.op (R.index1 (j := at_) rfl Tryd.underlying22 sz5 rfl rfl (sb.old o0) rfl (by omega)) rfl rfl rfl ?_
                refine KL.op (R.load rfl Tryd.underlying5 rfl rfl ((sb.old o0).int at_ (by omega)).1) rfl rfl rfl ?_
                refine KL.op (R.gtr rfl rfl rfl) rfl rfl rfl ?_
                refine KL.nil ?_
                refine KQ.seq ?_
                refine KC.iteL rfl ?_ ?_
                · intro hc66
                  try simp only [decide_eq_true_eq, decide_eq_false_iff_not, Bool.not_eq_true', Bool.not_eq_false', Bool.and_eq_true, Bool.or_eq_false_iff] at hc66
                  obtain ⟨s, hinv⟩ := hst2 (by omega)
                  refine KC.region ?_
                  refine KL.op (R.move rfl rfl) rfl rfl rfl ?_
                  refine KL.op ((R.add rfl rfl rfl (by show InR .i64 ((acc.length : Int) + 1); dsimp only [InR]; omega)).val (congrArg (Value.int .i64) (show (acc.length : Int) + 1 = ((acc ++ [s]).length : Int) by rw [List.length_append, List.length_singleton]; omega))) rfl rfl rfl ?_
                  refine KL.op (R.assign rfl rfl) rfl rfl rfl ?_
                  refine KL.nil ?_
                  refine KQ.seq ?_
                  refine KC.seq ?_
                  refine KC.region ?_
                  refine KL.op (R.move rfl rfl) rfl rfl rfl ?_
                  refine KL.op (R.move rfl rfl) rfl rfl rfl ?_
                  refine KL.op (R.add rfl rfl rfl (by dsimp only [InR]; omega)) rfl rfl rfl ?_
                  refine KL.op (R.move rfl rfl) rfl rfl rfl ?_
                  refine KL.op (R.convI rfl Tryd.underlying43 Tryd.underlying3 rfl (by dsimp only [InR]; omega)) rfl rfl rfl ?_
                  refine KL.op (R.add rfl rfl rfl (by dsimp only [InR]; omega)) rfl rfl rfl ?_
                  refine KL.op ((R.add rfl rfl rfl (by dsimp only [InR]; omega)).val (congrArg (Value.int .i64) (show _ = (((at_ + (1 + k + n.toNat)) : Nat) : Int) from by omega))) rfl rfl rfl ?_
                  refine KL.op (R.assign rfl rfl) rfl rfl rfl ?_
                  refine KL.nil ?_
                  refine KQ.seq ?_
                  refine KC.region ?_
                  refine KL.op (R.move rfl rfl) rfl rfl rfl ?_
                  refine KL.op (R.move rfl rfl) rfl rfl rfl ?_
                  refine KL.op (R.eql rfl rfl rfl) rfl rfl rfl ?_
                  refine KL.op (R.assign rfl rfl) rfl rfl rfl ?_
                  refine KL.nil ?_
                  refine KQ.normBlock ?_
                  refine KQ.again (((at_ + (1 + k + n.toNat)), acc ++ [s], b.getD at_ default)) ?_ ?_ ?_
                  · exact (Sub.cons rfl (Sub.cons rfl (Sub.cons rfl (Ext.sub (by repeat (first | exact Ext.refl _ _ | refine Ext.put rfl ?_ | refine Ext.drop rfl ?_))))))
                  · show b.length - (at_ + (1 + k + n.toNat)) < b.length - at_; omega
                  · exact ⟨hinv, o0, oS⟩
                · intro hc66
                  try simp only [decide_eq_true_eq, decide_eq_false_iff_not, Bool.not_eq_true', Bool.not_eq_false', Bool.and_eq_true, Bool.or_eq_false_iff] at hc66
                  have hinv := hst1 (by omega)
                  have hacc0 : True := trivial
                  refine KC.skip ?_
                  refine KQ.seq ?_
                  refine KC.seq ?_
                  refine KC.region ?_
                  refine KL.op (R.move rfl rfl) rfl rfl rfl ?_
                  refine KL.op (R.move rfl rfl) rfl rfl rfl ?_
                  refine KL.op (R.add rfl rfl rfl (by dsimp only [InR]; omega)) rfl rfl rfl ?_
                  refine KL.op (R.move rfl rfl) rfl rfl rfl ?_
                  refine KL.op (R.convI rfl Tryd.underlying43 Tryd.underlying3 rfl (by dsimp only [InR]; omega)) rfl rfl rfl ?_
                  refine KL.op (R.add rfl rfl rfl (by dsimp only [InR]; omega)) rfl rfl rfl ?_
                  refine KL.op ((R.add rfl rfl rfl (by dsimp only [InR]; omega)).val (congrArg (Value.int .i64) (show _ = (((at_ + (1 + k + n.toNat)) : Nat) : Int) from by omega))) rfl rfl rfl ?_
                  refine KL.op (R.assign rfl rfl) rfl rfl rfl ?_
                  refine KL.nil ?_
                  refine KQ.seq ?_
                  refine KC.region ?_
                  refine KL.op (R.move rfl rfl) rfl rfl rfl ?_
                  refine KL.op (R.move rfl rfl) rfl rfl rfl ?_
                  refine KL.op (R.eql rfl rfl rfl) rfl rfl rfl ?_
                  refine KL.op (R.assign rfl rfl) rfl rfl rfl ?_
                  refine KL.nil ?_
                  refine KQ.normBlock ?_
                  refine KQ.again (((at_ + (1 + k + n.toNat)), acc, last)) ?_ ?_ ?_
                  · exact (Sub.cons rfl (Sub.cons rfl (Sub.cons rfl (Ext.sub (by repeat (first | exact Ext.refl _ _ | refine Ext.put rfl ?_ | refine Ext.drop rfl ?_))))))
                  · show b.length - (at_ + (1 + k + n.toNat)) < b.length - at_; omega
                  · exact ⟨hinv, o0, oS⟩
              · intro hc50
                try simp only [decide_eq_true_eq, decide_eq_false_iff_not, Bool.not_eq_true', Bool.not_eq_false', Bool.and_eq_true, Bool.or_eq_false_iff] at hc50
                refine KC.exit ?_
                refine KQ.exitThen ?_
                refine KQ.exitThen ?_
                refine KQ.hit ?_
                refine KQ.seq ?_
                refine KC.seq ?_
                have hge : c.toNat ≤ at_ := by omega
                have hend := Sc.cut_end hcu (by omega) hge
                refine KC.region ?_
                refine KL.op (R.move rfl rfl) rfl rfl rfl ?_
                refine KL.op (R.move rfl rfl) rfl rfl rfl ?_
                refine KL.op (R.slice rfl Tryd.underlying22 sz5 rfl (sb.old o0) bnd.no (bnd.mk (r := c.toNat) rfl (by omega)) (Nat.zero_le _) (by omega)) rfl rfl rfl ?_
                have s8 : Sl 1 (EInt .u8) H3 (subV 1 vb 0 c.toNat) (b.take c.toNat) := by
                  have h9 := (sb.old o0).sub (lo := 0) (hi := c.toNat) (Nat.zero_le _) (by omega)
                  rwa [List.drop_zero] at h9
                refine KL.call rfl rfl rfl rfl Tryd.call9 rfl rfl rfl (Split_or _ _ s8 (hT.old o0) (by rw [List.length_take]; omega)) ?_
                rintro u7_ H4 ⟨ox, hR⟩
                have zc_H4 := (ox).1
                have o0 := o0.trans ox
                have oS := oS.trans ox
                rcases hR with ⟨hsq, rfl⟩ | ⟨m, vm, hsq, rfl, sm⟩
                · skip
                  have hne : ¬ (at_ : Int) = c := by
                    rcases hend with ⟨_, h2⟩ | ⟨h1, _⟩
                    · rw [h2] at hsq; cases hsq
                    · omega
                  refine KL.op (R.move rfl rfl) rfl rfl rfl ?_
                  refine KL.op (R.extract rfl rfl rfl) rfl rfl rfl ?_
                  refine KL.op (R.extract rfl rfl rfl) rfl rfl rfl ?_
                  refine KL.op (R.assign rfl rfl) rfl rfl rfl ?_
                  refine KL.op (R.assign rfl rfl) rfl rfl rfl ?_
                  refine KL.nil ?_
                  refine KQ.seq ?_
                  refine KC.seq ?_
                  refine KC.seq ?_
                  refine KC.region ?_
                  refine KL.op (R.move rfl rfl) rfl rfl rfl ?_
                  refine KL.op ((R.not rfl rfl).val (congrArg (fun b => Value.bool (!b)) (decide_eq_false hne))) rfl rfl rfl ?_
                  refine KL.nil ?_
                  refine KQ.seq ?_
                  refine KC.condT rfl ?_
                  refine KC.seq ?_
                  refine KC.region ?_
                  refine KL.op (R.move rfl rfl) rfl rfl rfl ?_
                  refine KL.op ((R.eql rfl rfl rfl).val (congrArg Value.bool (decide_eq_true (by rfl)))) rfl rfl rfl ?_
                  refine KL.op (R.move rfl rfl) rfl rfl rfl ?_
                  refine KL.op (R.move rfl rfl) rfl rfl rfl ?_
                  refine KL.op ((by first | exact R.lenS rfl Tryd.underlying24 rfl (by first | assumption) | exact R.len (ty := 0) rfl Tryd.underlying24 rfl)) rfl rfl rfl ?_
                  refine KL.op ((R.eql rfl rfl rfl).val (congrArg Value.bool (decide_eq_true (by rfl)))) rfl rfl rfl ?_
                  refine KL.op (R.pick rfl rfl rfl) rfl rfl rfl ?_
                  refine KL.op (R.assign rfl rfl) rfl rfl rfl ?_
                  refine KL.nil ?_
                  refine KQ.seq ?_
                  refine KC.ret ?_
                  refine KQ.retThen ?_
                  refine KQ.ofRet ?_
                  refine KQ.fin1 Tryd.results6 rfl ?_
                  exact ⟨rfl, o0⟩
                · skip
                  have hne : (at_ : Int) = c := by
                    rcases hend with ⟨h1, _⟩ | ⟨_, h2⟩
                    · omega
                    · rw [h2] at hsq; cases hsq
                  obtain rfl : m = acc := by
                    rcases hend with ⟨_, h2⟩ | ⟨_, h2⟩
                    · rw [h2] at hsq; injection hsq with e; exact e.symm
                    · rw [h2] at hsq; cases hsq
                  refine KL.op (R.move rfl rfl) rfl rfl rfl ?_
                  refine KL.op (R.extract rfl rfl rfl) rfl rfl rfl ?_
                  refine KL.op (R.extract rfl rfl rfl) rfl rfl rfl ?_
                  refine KL.op (R.assign rfl rfl) rfl rfl rfl ?_
                  refine KL.op (R.assign rfl rfl) rfl rfl rfl ?_
                  refine KL.nil ?_
                  refine KQ.seq ?_
                  refine KC.seq ?_
                  refine KC.seq ?_
                  refine KC.region ?_
                  refine KL.op (R.move rfl rfl) rfl rfl rfl ?_
                  refine KL.op ((R.not rfl rfl).val (congrArg (fun b => Value.bool (!b)) (decide_eq_true hne))) rfl rfl rfl ?_
                  refine KL.nil ?_
                  refine KQ.seq ?_
                  refine KC.condF rfl ?_
                  refine KC.skip ?_
                  refine KQ.seq ?_
                  refine KC.seq ?_
                  refine KC.seq ?_
                  refine KC.region ?_
                  refine KL.op (R.move rfl rfl) rfl rfl rfl ?_
                  refine KL.op ((R.neq rfl rfl rfl).val ((congrArg (fun b => Value.bool (!b)) (decide_eq_true (by rfl))))) rfl rfl rfl ?_
                  refine KL.op (R.move rfl rfl) rfl rfl rfl ?_
                  refine KL.op (R.move rfl rfl) rfl rfl rfl ?_
                  refine KL.op (R.lenS rfl Tryd.underlying24 rfl sm) rfl rfl rfl ?_
                  refine KL.op (R.move rfl rfl) rfl rfl rfl ?_
                  refine KL.op ((R.neq rfl rfl rfl).val ((congrArg (fun b => Value.bool (!b)) (decide_eq_true (by rfl))))) rfl rfl rfl ?_
                  refine KL.op (R.pick rfl rfl rfl) rfl rfl rfl ?_
                  refine KL.op (R.move rfl rfl) rfl rfl rfl ?_
                  refine KL.op (R.move rfl rfl) rfl rfl rfl ?_
                  refine KL.op (R.move rfl rfl) rfl rfl rfl ?_
                  refine KL.op (R.lenS rfl Tryd.underlying24 rfl so) rfl rfl rfl ?_
                  refine KL.op ((R.gtr rfl rfl rfl).val (congrArg Value.bool (decide_eq_false (by (show ¬ ((l.length : Int) < (m.length : Int)); omega))))) rfl rfl rfl ?_
                  refine KL.op (R.pick rfl rfl rfl) rfl rfl rfl ?_
                  refine KL.nil ?_
                  refine KQ.seq ?_
                  refine KC.condF rfl ?_
                  refine KC.skip ?_
                  refine KQ.seq ?_
                  refine KC.seq ?_
                  refine KC.seq ?_
                  refine KC.region ?_
                  refine KL.op (R.move rfl rfl) rfl rfl rfl ?_
                  refine KL.op (R.lenS rfl Tryd.underlying24 rfl sm) rfl rfl rfl ?_
                  refine KL.op (R.move rfl rfl) rfl rfl rfl ?_
                  refine KL.nil ?_
                  refine KQ.seq ?_
                  refine KC.block ?_
                  have so2 := so.old oS
                  refine KC.loopD (κ := Nat) [112, 113, 114, 115, 15, 14, 116, 117, 118, 119, 120, 121, 122, 123, 124, 125, 126, 127, 128, 129, 130, 131, 132, 133, 134, 135, 4, 136, 111] (fun k => [(111, .int .i64 (k : Nat))]) (fun k Hl => k ≤ m.length ∧ Old H Hl ∧ Old H4 Hl) (fun k => m.length - k) 0 ?_ ?_ ?_
                  · exact (Sub.cons rfl (Ext.sub (Ext.refl _ _)))
                  · exact ⟨Nat.zero_le _, o0, Old.refl _⟩
                  · rintro k H5 ⟨hk, o0, oL⟩
                    have zl_H5 := o0.1
                    have oK : Old H5 H5 := Old.refl _
                    have zl2 := oL.1
                    refine KC.seq ?_
                    refine KC.region ?_
                    refine KL.op (R.lss rfl rfl rfl) rfl rfl rfl ?_
                    refine KL.nil ?_
                    refine KQ.seq ?_
                    refine KC.seq ?_
                    refine KC.iteL rfl ?_ ?_
                    · intro hc112
                      try simp only [decide_eq_true_eq, decide_eq_false_iff_not, Bool.not_eq_true', Bool.not_eq_false', Bool.and_eq_true, Bool.or_eq_false_iff] at hc112
                      obtain ⟨u, hcx, hu0, q0⟩ := (sm.old oL).secAt k (by omega)
                      obtain ⟨w, hcw0, hw0, q1⟩ := (so2.old oL).secAt k (by omega)
                      have hx := hpx k (by omega)
                      refine KC.skip ?_
                      refine KQ.seq ?_
                      refine KC.seq ?_
                      refine KC.block ?_
                      refine KC.seq ?_
                      refine KC.region ?_
                      refine KL.op (R.move rfl rfl) rfl rfl rfl ?_
                      refine KL.op (R.index (j := k) rfl Tryd.underlying24 sz35 rfl rfl (sm.old oL) rfl (by omega)) rfl rfl rfl ?_
                      refine KL.op (R.loadAgg rfl Tryd.underlying35 rfl sz35 rfl hcx rfl) rfl rfl rfl ?_
                      refine KL.opM (M.alloc rfl zr35 rfl) rfl rfl rfl ?_
                      rintro _ H6 ⟨rfl, n6⟩
                      have z6 := n6.2.1
                      have o0 := o0.trans n6.1
                      have oK := oK.trans n6.1
                      have b6 := n6.2.2
                      have bx := b6
                      refine KL.op (R.assign rfl rfl) rfl rfl rfl ?_
                      refine KL.opS (S.storeAgg rfl sz35 rfl rfl (rfl) (by intro q hq; simp only [List.mem_cons, List.not_mem_nil, or_false] at hq; rcases hq with rfl | rfl <;> first | rfl | exact hu0.one) bx (by simp)) rfl rfl ?_
                      rintro H7 ⟨u7, b7⟩
                      have o0 := o0.upd u7 (by omega)
                      have zu7 := u7.1
                      have oK := oK.upd u7 (by omega)
                      have bx := b7
                      have hu := hu0.old oK
                      have hw := hw0.old oK
                      have hcw := oK.cells hcw0
                      refine KL.nil ?_
                      refine KQ.seq ?_
                      refine KC.seq ?_
                      refine KC.quiet (by kernel_rfl) (by kernel_rfl) ?_
                      refine KD.op ((by first | exact R.fieldAddr rfl Tryd.underlying35 rfl rfl sz5 rfl | exact R.fieldAddrP rfl Tryd.underlying35 rfl rfl sz5 rfl)) rfl rfl rfl ?_
                      refine KD.op (R.load rfl Tryd.underlying5 rfl rfl (by first | exact cell_of bx rfl | assumption)) rfl rfl rfl ?_
                      refine KD.op (R.move rfl rfl) rfl rfl rfl ?_
                      refine KD.op (R.move rfl rfl) rfl rfl rfl ?_
                      refine KD.op (R.index (j := k) rfl Tryd.underlying24 sz35 rfl rfl (so2.old (oL.trans oK)) rfl (by omega)) rfl rfl rfl ?_
                      refine KD.op ((by first | exact R.fieldAddr rfl Tryd.underlying35 rfl rfl sz5 rfl | exact R.fieldAddrP rfl Tryd.underlying35 rfl rfl sz5 rfl)) rfl rfl rfl ?_
                      refine KD.op (R.load rfl Tryd.underlying5 rfl rfl (hcw 0 _ rfl)) rfl rfl rfl ?_
                      refine KD.op ((R.neq rfl rfl rfl).val ((congrArg (fun b => Value.bool (!b)) (decide_eq_true (by rw [hx]))))) rfl rfl rfl ?_
                      refine KD.op (R.move rfl rfl) rfl rfl rfl ?_
                      refine KD.op ((by first | exact R.fieldAddr rfl Tryd.underlying35 rfl rfl sz22 rfl | exact R.fieldAddrP rfl Tryd.underlying35 rfl rfl sz22 rfl)) rfl rfl rfl ?_
                      refine KD.op (R.load rfl Tryd.underlying22 rfl rfl (by first | exact cell_of bx rfl | assumption)) rfl rfl rfl ?_
                      refine KD.op (R.convBS rfl Tryd.underlying22 Tryd.underlying5 Tryd.underlying9 rfl hu) rfl rfl rfl ?_
                      refine KD.op (R.move rfl rfl) rfl rfl rfl ?_
                      refine KD.op (R.move rfl rfl) rfl rfl rfl ?_
                      refine KD.op (R.index (j := k) rfl Tryd.underlying24 sz35 rfl rfl (so2.old (oL.trans oK)) rfl (by omega)) rfl rfl rfl ?_
                      refine KD.op ((by first | exact R.fieldAddr rfl Tryd.underlying35 rfl rfl sz22 rfl | exact R.fieldAddrP rfl Tryd.underlying35 rfl rfl sz22 rfl)) rfl rfl rfl ?_
                      refine KD.op (R.load rfl Tryd.underlying22 rfl rfl (hcw 1 _ rfl)) rfl rfl rfl ?_
                      refine KD.op (R.convBS rfl Tryd.underlying22 Tryd.underlying5 Tryd.underlying9 rfl hw) rfl rfl rfl ?_
                      refine KD.op ((R.neqStr rfl rfl rfl).val (congrArg (fun b => Value.bool (!b)) ((bstr_eq hu.int_range hw.int_range).trans (decide_eq_true (by rw [hx]))))) rfl rfl rfl ?_
                      refine KD.op (R.pick rfl rfl rfl) rfl rfl rfl ?_
                      refine KD.nil ?_
                      refine KQ.seq ?_
                      refine KC.condF rfl ?_
                      refine KC.skip ?_
                      refine KQ.normBlock ?_
                      refine KQ.seq ?_
                      refine KC.region ?_
                      refine KL.op ((R.add rfl rfl rfl (by dsimp only [InR]; omega)).val (congrArg (Value.int .i64) (show (k : Int) + 1 = ((k + 1 : Nat) : Int) by omega))) rfl rfl rfl ?_
                      refine KL.op (R.move rfl rfl) rfl rfl rfl ?_
                      refine KL.nil ?_
                      refine KQ.again (k + 1) ?_ ?_ ?_
                      · exact (Sub.cons rfl (Ext.sub (by repeat (first | exact Ext.refl _ _ | refine Ext.put rfl ?_ | refine Ext.drop rfl ?_))))
                      · omega
                      · exact ⟨by omega, o0, oL.trans oK⟩
                    · intro hc112
                      try simp only [decide_eq_true_eq, decide_eq_false_iff_not, Bool.not_eq_true', Bool.not_eq_false', Bool.and_eq_true, Bool.or_eq_false_iff] at hc112
                      refine KC.exit ?_
                      refine KQ.exitThen ?_
                      refine KQ.exitThen ?_
                      refine KQ.hit ?_
                      refine KQ.seq ?_
                      refine KC.seq ?_
                      refine KC.region ?_
                      refine KL.op (R.assign rfl rfl) rfl rfl rfl ?_
                      refine KL.nil ?_
                      refine KQ.seq ?_
                      refine KC.ret ?_
                      refine KQ.ofRet ?_
                      refine KQ.fin1 Tryd.results6 rfl ?_
                      exact ⟨rfl, o0⟩
            · intro hg46
              try simp only [decide_eq_true_eq, decide_eq_false_iff_not, Bool.not_eq_true', Bool.not_eq_false', Bool.and_eq_true, Bool.or_eq_false_iff] at hg46
              refine KL.skip rfl rfl rfl ?_
              refine KL.skip rfl rfl rfl ?_
              refine KL.skip rfl rfl rfl ?_
              refine KL.op (R.pick rfl rfl rfl) rfl rfl rfl ?_
              refine KL.nil ?_
              refine KQ.seq ?_
              refine KC.condF rfl ?_
              refine KC.exit ?_
              refine KQ.exitThen ?_
              refine KQ.exitThen ?_
              refine KQ.hit ?_
              refine KQ.seq ?_
              refine KC.seq ?_
              have hge : c.toNat ≤ at_ := by omega
              have hend := Sc.cut_end hcu (by omega) hge
              refine KC.region ?_
              refine KL.op (R.move rfl rfl) rfl rfl rfl ?_
              refine KL.op (R.move rfl rfl) rfl rfl rfl ?_
              refine KL.op (R.slice rfl Tryd.underlying22 sz5 rfl (sb.old o0) bnd.no (bnd.mk (r := c.toNat) rfl (by omega)) (Nat.zero_le _) (by omega)) rfl rfl rfl ?_
              have s8 : Sl 1 (EInt .u8) H3 (subV 1 vb 0 c.toNat) (b.take c.toNat) := by
                have h9 := (sb.old o0).sub (lo := 0) (hi := c.toNat) (Nat.zero_le _) (by omega)
                rwa [List.drop_zero] at h9
              refine KL.call rfl rfl rfl rfl Tryd.call9 rfl rfl rfl (Split_or _ _ s8 (hT.old o0) (by rw [List.length_take]; omega)) ?_
              rintro u7_ H8 ⟨ox, hR⟩
              have zc_H8 := (ox).1
              have o0 := o0.trans ox
              have oS := oS.trans ox
              rcases hR with ⟨hsq, rfl⟩ | ⟨m, vm, hsq, rfl, sm⟩
              · skip
                have hne : ¬ (at_ : Int) = c := by
                  rcases hend with ⟨_, h2⟩ | ⟨h1, _⟩
                  · rw [h2] at hsq; cases hsq
                  · omega
                refine KL.op (R.move rfl rfl) rfl rfl rfl ?_
                refine KL.op (R.extract rfl rfl rfl) rfl rfl rfl ?_
                refine KL.op (R.extract rfl rfl rfl) rfl rfl rfl ?_
                refine KL.op (R.assign rfl rfl) rfl rfl rfl ?_
                refine KL.op (R.assign rfl rfl) rfl rfl rfl ?_
                refine KL.nil ?_
                refine KQ.seq ?_
                refine KC.seq ?_
                refine KC.seq ?_
                refine KC.region ?_
                refine KL.op (R.move rfl rfl) rfl rfl rfl ?_
                refine KL.op ((R.not rfl rfl).val (congrArg (fun b => Value.bool (!b)) (decide_eq_false hne))) rfl rfl rfl ?_
                refine KL.nil ?_
                refine KQ.seq ?_
                refine KC.condT rfl ?_
                refine KC.seq ?_
                refine KC.region ?_
                refine KL.op (R.move rfl rfl) rfl rfl rfl ?_
                refine KL.op ((R.eql rfl rfl rfl).val (congrArg Value.bool (decide_eq_true (by rfl)))) rfl rfl rfl ?_
                refine KL.op (R.move rfl rfl) rfl rfl rfl ?_
                refine KL.op (R.move rfl rfl) rfl rfl rfl ?_
                refine KL.op ((by first | exact R.lenS rfl Tryd.underlying24 rfl (by first | assumption) | exact R.len (ty := 0) rfl Tryd.underlying24 rfl)) rfl rfl rfl ?_
                refine KL.op ((R.eql rfl rfl rfl).val (congrArg Value.bool (decide_eq_true (by rfl)))) rfl rfl rfl ?_
                refine KL.op (R.pick rfl rfl rfl) rfl rfl rfl ?_
                refine KL.op (R.assign rfl rfl) rfl rfl rfl ?_
                refine KL.nil ?_
                refine KQ.seq ?_
                refine KC.ret ?_
                refine KQ.retThen ?_
                refine KQ.ofRet ?_
                refine KQ.fin1 Tryd.results6 rfl ?_
                exact ⟨rfl, o0⟩
              · skip
                have hne : (at_ : Int) = c := by
                  rcases hend with ⟨h1, _⟩ | ⟨_, h2⟩
                  · omega
                  · rw [h2] at hsq; cases hsq
                obtain rfl : m = acc := by
                  rcases hend with ⟨_, h2⟩ | ⟨_, h2⟩
                  · rw [h2] at hsq; injection hsq with e; exact e.symm
                  · rw [h2] at hsq; cases hsq
                refine KL.op (R.move rfl rfl) rfl rfl rfl ?_
                refine KL.op (R.extract rfl rfl rfl) rfl rfl rfl ?_
                refine KL.op (R.extract rfl rfl rfl) rfl rfl rfl ?_
                refine KL.op (R.assign rfl rfl) rfl rfl rfl ?_
                refine KL.op (R.assign rfl rfl) rfl rfl rfl ?_
                refine KL.nil ?_
                refine KQ.seq ?_
                refine KC.seq ?_
                refine KC.seq ?_
                refine KC.region ?_
                refine KL.op (R.move rfl rfl) rfl rfl rfl ?_
                refine KL.op ((R.not rfl rfl).val (congrArg (fun b => Value.bool (!b)) (decide_eq_true hne))) rfl rfl rfl ?_
                refine KL.nil ?_
                refine KQ.seq ?_
                refine KC.condF rfl ?_
                refine KC.skip ?_
                refine KQ.seq ?_
                refine KC.seq ?_
                refine KC.seq ?_
                refine KC.region ?_
                refine KL.op (R.move rfl rfl) rfl rfl rfl ?_
                refine KL.op ((R.neq rfl rfl rfl).val ((congrArg (fun b => Value.bool (!b)) (decide_eq_true (by rfl))))) rfl rfl rfl ?_
                refine KL.op (R.move rfl rfl) rfl rfl rfl ?_
                refine KL.op (R.move rfl rfl) rfl rfl rfl ?_
                refine KL.op (R.lenS rfl Tryd.underlying24 rfl sm) rfl rfl rfl ?_
                refine KL.op (R.move rfl rfl) rfl rfl rfl ?_
                refine KL.op ((R.neq rfl rfl rfl).val ((congrArg (fun b => Value.bool (!b)) (decide_eq_true (by rfl))))) rfl rfl rfl ?_
                refine KL.op (R.pick rfl rfl rfl) rfl rfl rfl ?_
                refine KL.op (R.move rfl rfl) rfl rfl rfl ?_
                refine KL.op (R.move rfl rfl) rfl rfl rfl ?_
                refine KL.op (R.move rfl rfl) rfl rfl rfl ?_
                refine KL.op (R.lenS rfl Tryd.underlying24 rfl so) rfl rfl rfl ?_
                refine KL.op ((R.gtr rfl rfl rfl).val (congrArg Value.bool (decide_eq_false (by (show ¬ ((l.length : Int) < (m.length : Int)); omega))))) rfl rfl rfl ?_
                refine KL.op (R.pick rfl rfl rfl) rfl rfl rfl ?_
                refine KL.nil ?_
                refine KQ.seq ?_
                refine KC.condF rfl ?_
                refine KC.skip ?_
                refine KQ.seq ?_
                refine KC.seq ?_
                refine KC.seq ?_
                refine KC.region ?_
                refine KL.op (R.move rfl rfl) rfl rfl rfl ?_
                refine KL.op (R.lenS rfl Tryd.underlying24 rfl sm) rfl rfl rfl ?_
                refine KL.op (R.move rfl rfl) rfl rfl rfl ?_
                refine KL.nil ?_
                refine KQ.seq ?_
                refine KC.block ?_
                have so2 := so.old oS
                refine KC.loopD (κ := Nat) [112, 113, 114, 115, 15, 14, 116, 117, 118, 119, 120, 121, 122, 123, 124, 125, 126, 127, 128, 129, 130, 131, 132, 133, 134, 135, 4, 136, 111] (fun k => [(111, .int .i64 (k : Nat))]) (fun k Hl => k ≤ m.length ∧ Old H Hl ∧ Old H8 Hl) (fun k => m.length - k) 0 ?_ ?_ ?_
                · exact (Sub.cons rfl (Ext.sub (Ext.refl _ _)))
                · exact ⟨Nat.zero_le _, o0, Old.refl _⟩
                · rintro k H9 ⟨hk, o0, oL⟩
                  have zl_H9 := o0.1
                  have oK : Old H9 H9 := Old.refl _
                  have zl2 := oL.1
                  refine KC.seq ?_
                  refine KC.region ?_
                  refine KL.op (R.lss rfl rfl rfl) rfl rfl rfl ?_
                  refine KL.nil ?_
                  refine KQ.seq ?_
                  refine KC.seq ?_
                  refine KC.iteL rfl ?_ ?_
                  · intro hc112
                    try simp only [decide_eq_true_eq, decide_eq_false_iff_not, Bool.not_eq_true', Bool.not_eq_false', Bool.and_eq_true, Bool.or_eq_false_iff] at hc112
                    obtain ⟨u, hcx, hu0, q0⟩ := (sm.old oL).secAt k (by omega)
                    obtain ⟨w, hcw0, hw0, q1⟩ := (so2.old oL).secAt k (by omega)
                    have hx := hpx k (by omega)
                    refine KC.skip ?_
                    refine KQ.seq ?_
                    refine KC.seq ?_
                    refine KC.block ?_
                    refine KC.seq ?_
                    refine KC.region ?_
                    refine KL.op (R.move rfl rfl) rfl rfl rfl ?_
                    refine KL.op (R.index (j := k) rfl Tryd.underlying24 sz35 rfl rfl (sm.old oL) rfl (by omega)) rfl rfl rfl ?_
                    refine KL.op (R.loadAgg rfl Tryd.underlying35 rfl sz35 rfl hcx rfl) rfl rfl rfl ?_
                    refine KL.opM (M.alloc rfl zr35 rfl) rfl rfl rfl ?_
                    rintro _ H10 ⟨rfl, n10⟩
                    have z10 := n10.2.1
                    have o0 := o0.trans n10.1
                    have oK := oK.trans n10.1
                    have b10 := n10.2.2
                    have bx := b10
                    refine KL.op (R.assign rfl rfl) rfl rfl rfl ?_
                    refine KL.opS (S.storeAgg rfl sz35 rfl rfl (rfl) (by intro q hq; simp only [List.mem_cons, List.not_mem_nil, or_false] at hq; rcases hq with rfl | rfl <;> first | rfl | exact hu0.one) bx (by simp)) rfl rfl ?_
                    rintro H11 ⟨u11, b11⟩
                    have o0 := o0.upd u11 (by omega)
                    have zu11 := u11.1
                    have oK := oK.upd u11 (by omega)
                    have bx := b11
                    have hu := hu0.old oK
                    have hw := hw0.old oK
                    have hcw := oK.cells hcw0
                    refine KL.nil ?_
                    refine KQ.seq ?_
                    refine KC.seq ?_
                    refine KC.quiet (by kernel_rfl) (by kernel_rfl) ?_
                    refine KD.op ((by first | exact R.fieldAddr rfl Tryd.underlying35 rfl rfl sz5 rfl | exact R.fieldAddrP rfl Tryd.underlying35 rfl rfl sz5 rfl)) rfl rfl rfl ?_
                    refine KD.op (R.load rfl Tryd.underlying5 rfl rfl (by first | exact cell_of bx rfl | assumption)) rfl rfl rfl ?_
                    refine KD.op (R.move rfl rfl) rfl rfl rfl ?_
                    refine KD.op (R.move rfl rfl) rfl rfl rfl ?_
                    refine KD.op (R.index (j := k) rfl Tryd.underlying24 sz35 rfl rfl (so2.old (oL.trans oK)) rfl (by omega)) rfl rfl rfl ?_
                    refine KD.op ((by first | exact R.fieldAddr rfl Tryd.underlying35 rfl rfl sz5 rfl | exact R.fieldAddrP rfl Tryd.underlying35 rfl rfl sz5 rfl)) rfl rfl rfl ?_
                    refine KD.op (R.load rfl Tryd.underlying5 rfl rfl (hcw 0 _ rfl)) rfl rfl rfl ?_
                    refine KD.op ((R.neq rfl rfl rfl).val ((congrArg (fun b => Value.bool (!b)) (decide_eq_true (by rw [hx]))))) rfl rfl rfl ?_
                    refine KD.op (R.move rfl rfl) rfl rfl rfl ?_
                    refine KD.op ((by first | exact R.fieldAddr rfl Tryd.underlying35 rfl rfl sz22 rfl | exact R.fieldAddrP rfl Tryd.underlying35 rfl rfl sz22 rfl)) rfl rfl rfl ?_
                    refine KD.op (R.load rfl Tryd.underlying22 rfl rfl (by first | exact cell_of bx rfl | assumption)) rfl rfl rfl ?_
                    refine KD.op (R.convBS rfl Tryd.underlying22 Tryd.underlying5 Tryd.underlying9 rfl hu) rfl rfl rfl ?_
                    refine KD.op (R.move rfl rfl) rfl rfl rfl ?_
                    refine KD.op (R.move rfl rfl) rfl rfl rfl ?_
                    refine KD.op (R.index (j := k) rfl Tryd.underlying24 sz35 rfl rfl (so2.old (oL.trans oK)) rfl (by omega)) rfl rfl rfl ?_
                    refine KD.op ((by first | exact R.fieldAddr rfl Tryd.underlying35 rfl rfl sz22 rfl | exact R.fieldAddrP rfl Tryd.underlying35 rfl rfl sz22 rfl)) rfl rfl rfl ?_
                    refine KD.op (R.load rfl Tryd.underlying22 rfl rfl (hcw 1 _ rfl)) rfl rfl rfl ?_
                    refine KD.op (R.convBS rfl Tryd.underlying22 Tryd.underlying5 Tryd.underlying9 rfl hw) rfl rfl rfl ?_
                    refine KD.op ((R.neqStr rfl rfl rfl).val (congrArg (fun b => Value.bool (!b)) ((bstr_eq hu.int_range hw.int_range).trans (decide_eq_true (by rw [hx]))))) rfl rfl rfl ?_
                    refine KD.op (R.pick rfl rfl rfl) rfl rfl rfl ?_
                    refine KD.nil ?_
                    refine KQ.seq ?_
                    refine KC.condF rfl ?_
                    refine KC.skip ?_
                    refine KQ.normBlock ?_
                    refine KQ.seq ?_
                    refine KC.region ?_
                    refine KL.op ((R.add rfl rfl rfl (by dsimp only [InR]; omega)).val (congrArg (Value.int .i64) (show (k : Int) + 1 = ((k + 1 : Nat) : Int) by omega))) rfl rfl rfl ?_
                    refine KL.op (R.move rfl rfl) rfl rfl rfl ?_
                    refine KL.nil ?_
                    refine KQ.again (k + 1) ?_ ?_ ?_
                    · exact (Sub.cons rfl (Ext.sub (by repeat (first | exact Ext.refl _ _ | refine Ext.put rfl ?_ | refine Ext.drop rfl ?_))))
                    · omega
                    · exact ⟨by omega, o0, oL.trans oK⟩
                  · intro hc112
                    try simp only [decide_eq_true_eq, decide_eq_false_iff_not, Bool.not_eq_true', Bool.not_eq_false', Bool.and_eq_true, Bool.or_eq_false_iff] at hc112
                    refine KC.exit ?_
                    refine KQ.exitThen ?_
                    refine KQ.exitThen ?_
                    refine KQ.hit ?_
                    refine KQ.seq ?_
                    refine KC.seq ?_
                    refine KC.region ?_
                    refine KL.op (R.assign rfl rfl) rfl rfl rfl ?_
                    refine KL.nil ?_
                    refine KQ.seq ?_
                    refine KC.ret ?_
                    refine KQ.ofRet ?_
                    refine KQ.fin1 Tryd.results6 rfl ?_
                    exact ⟨rfl, o0⟩

end Go.Proofs.YtnbdadjomnpcgaaDoor
