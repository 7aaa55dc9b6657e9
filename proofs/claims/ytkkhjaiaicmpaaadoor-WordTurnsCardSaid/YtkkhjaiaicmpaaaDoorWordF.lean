/- gabellelaw16.WordTurns returns true. No condition. -/
import Derived.Test.YtkkhjaiaicmpaaaDoorWordT
namespace Go.Proofs.YtkkhjaiaicmpaaaDoor
open Go Go.RowKit
set_option linter.unusedVariables false
set_option linter.unusedSimpArgs false
set_option linter.unnecessarySimpa false
set_option maxRecDepth 100000 in
set_option maxHeartbeats 4000000 in
theorem WordTurns_any {H : Heap} (a b c : Int) (ra : InR .u64 a) (rb : InR .u64 b) (rc : InR .u64 c) : Ct Tryd.prog 6 [.int .u64 a, .int .u64 b, .int .u64 c] H (fun u H' => u = .bool true ∧ Old H H') := by
  refine Ct.mk Tryd.func6 rfl Tryd.ntmps6 rfl ?_
  intro W0 hW0
  have o0 : Old H H := Old.refl H
  have ra2 := ra; have rb2 := rb; have rc2 := rc; dsimp only [InR] at ra2 rb2 rc2
  refine KC.seq ?_
  refine KC.region ?_
  refine KL.op (R.assign rfl rfl) rfl rfl rfl ?_
  refine KL.nil ?_
  refine KQ.seq ?_
  refine KC.seq ?_
  refine KC.seq ?_
  refine KC.region ?_
  refine KL.opM (M.lit rfl Tryd.underlying29 zs5 (by decide) rfl rfl rfl) rfl rfl rfl ?_
  rintro _ H1 ⟨rfl, n1⟩
  have z1 := n1.2.1
  have o0 := o0.trans n1.1
  have b1 := n1.2.2
  have sn : Sl 1 (EInt .u8) H1 (.slice (some ⟨H.size, 0, none⟩) 2 2) [106, 124] := Sl.ofCells (k := .u8) (l := [106, 124]) n1.2.2 (by decide) (by intro x hx; simp at hx; dsimp only [InR]; omega)
  refine KL.op ((R.lenS rfl Tryd.underlying29 rfl sn).val ((rfl : Value.int .i64 _ = Value.int .i64 2))) rfl rfl rfl ?_
  refine KL.op (R.move rfl rfl) rfl rfl rfl ?_
  refine KL.nil ?_
  refine KQ.seq ?_
  refine KC.block ?_
  refine KC.loopD (κ := Nat) [21, 22, 23, 8, 24, 25, 26, 27, 28, 29, 30, 31, 32, 9, 10, 11, 12, 13, 33, 34, 35, 36, 14, 15, 37, 38, 39, 16, 40, 41, 42, 43, 44, 45, 46, 47, 48, 49, 50, 51, 52, 53, 54, 55, 56, 57, 58, 59, 60, 61, 62, 63, 64, 65, 66, 67, 68, 69, 70, 6, 71, 72, 73, 74, 75, 76, 77, 78, 79, 80, 81, 82, 83, 84, 85, 86, 87, 88, 89, 90, 91, 92, 93, 94, 95, 96, 97, 98, 99, 100, 101, 102, 103, 104, 105, 106, 107, 108, 109, 110, 111, 112, 113, 114, 115, 116, 117, 118, 119, 120, 121, 122, 17, 123, 124, 125, 126, 127, 128, 129, 130, 131, 132, 133, 134, 135, 136, 137, 138, 139, 140, 141, 142, 143, 144, 145, 146, 147, 148, 149, 150, 151, 152, 153, 154, 155, 156, 157, 20] (fun k => [(20, .int .i64 (k : Nat))]) (fun k Hl => H1 = Hl ∧ k ≤ 2) (fun k => 2 - k) 0 ?_ ?_ ?_
  · exact (Sub.cons rfl (Ext.sub (Ext.refl _ _)))
  · exact ⟨rfl, Nat.zero_le _⟩
  · rintro k H2 ⟨rfl, hk⟩
    refine KC.seq ?_
    refine KC.region ?_
    refine KL.op (R.lss rfl rfl rfl) rfl rfl rfl ?_
    refine KL.nil ?_
    refine KQ.seq ?_
    refine KC.seq ?_
    refine KC.iteL rfl ?_ ?_
    · intro hc21
      try simp only [decide_eq_true_eq, decide_eq_false_iff_not, Bool.not_eq_true', Bool.not_eq_false', Bool.and_eq_true, Bool.or_eq_false_iff] at hc21
      refine KC.skip ?_
      refine KQ.seq ?_
      refine KC.seq ?_
      refine KC.block ?_
      refine KC.seq ?_
      refine KC.region ?_
      refine KL.op (R.index1 rfl Tryd.underlying29 sz5 rfl rfl sn rfl (by show k < 2; omega)) rfl rfl rfl ?_
      obtain ⟨w, hB, hB2⟩ := Wd.baseW (k := k) (by omega)
      have tt := Wd.turns w ra rb rc
      refine KL.op ((R.load rfl Tryd.underlying5 rfl rfl ((sn.int k (by show k < 2; omega)).1)).val (congrArg (Value.int .u8) hB)) rfl rfl rfl ?_
      refine KL.op (R.assign rfl rfl) rfl rfl rfl ?_
      refine KL.nil ?_
      refine KQ.seq ?_
      refine KC.seq ?_
      refine KC.region ?_
      refine KL.op (R.move rfl rfl) rfl rfl rfl ?_
      refine KL.op (R.move rfl rfl) rfl rfl rfl ?_
      refine KL.op (R.add rfl rfl rfl (by dsimp only [InR]; omega)) rfl rfl rfl ?_
      refine KL.op (R.move rfl rfl) rfl rfl rfl ?_
      refine KL.op (R.add rfl rfl rfl (by dsimp only [InR]; omega)) rfl rfl rfl ?_
      refine KL.op (R.move rfl rfl) rfl rfl rfl ?_
      refine KL.op (R.add rfl rfl rfl (by dsimp only [InR]; omega)) rfl rfl rfl ?_
      refine KL.op (R.move rfl rfl) rfl rfl rfl ?_
      refine KL.op (R.add rfl rfl rfl (by dsimp only [InR]; omega)) rfl rfl rfl ?_
      refine KL.op (R.assign rfl rfl) rfl rfl rfl ?_
      refine KL.op (R.assign rfl rfl) rfl rfl rfl ?_
      refine KL.op (R.assign rfl rfl) rfl rfl rfl ?_
      refine KL.op (R.assign rfl rfl) rfl rfl rfl ?_
      refine KL.op (R.assign rfl rfl) rfl rfl rfl ?_
      refine KL.nil ?_
      refine KQ.seq ?_
      refine KC.seq ?_
      refine KC.region ?_
      refine KL.op (R.move rfl rfl) rfl rfl rfl ?_
      refine KL.op (R.add rfl rfl rfl (by dsimp only [InR]; omega)) rfl rfl rfl ?_
      refine KL.op (R.move rfl rfl) rfl rfl rfl ?_
      refine KL.op (R.add rfl rfl rfl (by dsimp only [InR]; omega)) rfl rfl rfl ?_
      refine KL.op (R.assign rfl rfl) rfl rfl rfl ?_
      refine KL.op (R.assign rfl rfl) rfl rfl rfl ?_
      refine KL.nil ?_
      refine KQ.seq ?_
      refine KC.seq ?_
      refine KC.region ?_
      refine KL.op (R.move rfl rfl) rfl rfl rfl ?_
      refine KL.op (R.move rfl rfl) rfl rfl rfl ?_
      refine KL.call rfl rfl rfl rfl Tryd.call14 rfl rfl rfl (do_any _ _ _ (by unfold Wd.Sup; omega) ra (by dsimp only [InR]; omega)) ?_
      rintro _ _ ⟨rfl, rfl⟩
      refine KL.op (R.assign rfl rfl) rfl rfl rfl ?_
      refine KL.nil ?_
      refine KQ.seq ?_
      refine KC.seq ?_
      refine KC.seq ?_
      refine KC.region ?_
      refine KL.op (R.move rfl rfl) rfl rfl rfl ?_
      refine KL.op (R.move rfl rfl) rfl rfl rfl ?_
      refine KL.op (R.move rfl rfl) rfl rfl rfl ?_
      refine KL.op (R.move rfl rfl) rfl rfl rfl ?_
      refine KL.call rfl rfl rfl rfl Tryd.call14 rfl rfl rfl (do_any _ _ _ (by unfold Wd.Sup; omega) ra rb) ?_
      rintro _ _ ⟨rfl, rfl⟩
      refine KL.op (R.move rfl rfl) rfl rfl rfl ?_
      refine KL.call rfl rfl rfl rfl Tryd.call14 rfl rfl rfl (do_any _ _ _ (by unfold Wd.Sup; omega) (Wd.D_R (by unfold Wd.Sup; omega) ra rb) rb) ?_
      rintro _ _ ⟨rfl, rfl⟩
      refine KL.op (R.move rfl rfl) rfl rfl rfl ?_
      refine KL.op ((R.neq rfl rfl rfl).val ((congrArg (fun b => Value.bool (!b)) (decide_eq_true (by exact tt.rot))))) rfl rfl rfl ?_
      refine KL.op (R.move rfl rfl) rfl rfl rfl ?_
      refine KL.op (R.move rfl rfl) rfl rfl rfl ?_
      refine KL.op (R.move rfl rfl) rfl rfl rfl ?_
      refine KL.op (R.move rfl rfl) rfl rfl rfl ?_
      refine KL.op (R.move rfl rfl) rfl rfl rfl ?_
      refine KL.call rfl rfl rfl rfl Tryd.call14 rfl rfl rfl (do_any _ _ _ (by unfold Wd.Sup; omega) ra rb) ?_
      rintro _ _ ⟨rfl, rfl⟩
      refine KL.op (R.move rfl rfl) rfl rfl rfl ?_
      refine KL.call rfl rfl rfl rfl Tryd.call14 rfl rfl rfl (do_any _ _ _ (by unfold Wd.Sup; omega) (Wd.D_R (by unfold Wd.Sup; omega) ra rb) rb) ?_
      rintro _ _ ⟨rfl, rfl⟩
      refine KL.op (R.move rfl rfl) rfl rfl rfl ?_
      refine KL.op ((R.neq rfl rfl rfl).val ((congrArg (fun b => Value.bool (!b)) (decide_eq_true (by exact tt.sub))))) rfl rfl rfl ?_
      refine KL.op (R.pick rfl rfl rfl) rfl rfl rfl ?_
      refine KL.op (R.move rfl rfl) rfl rfl rfl ?_
      refine KL.op (R.move rfl rfl) rfl rfl rfl ?_
      refine KL.op (R.move rfl rfl) rfl rfl rfl ?_
      refine KL.op (R.move rfl rfl) rfl rfl rfl ?_
      refine KL.op (R.move rfl rfl) rfl rfl rfl ?_
      refine KL.call rfl rfl rfl rfl Tryd.call14 rfl rfl rfl (do_any _ _ _ (by unfold Wd.Sup; omega) ra rb) ?_
      rintro _ _ ⟨rfl, rfl⟩
      refine KL.op (R.move rfl rfl) rfl rfl rfl ?_
      refine KL.call rfl rfl rfl rfl Tryd.call14 rfl rfl rfl (do_any _ _ _ (by unfold Wd.Sup; omega) (Wd.D_R (by unfold Wd.Sup; omega) ra rb) rb) ?_
      rintro _ _ ⟨rfl, rfl⟩
      refine KL.op (R.move rfl rfl) rfl rfl rfl ?_
      refine KL.op ((R.neq rfl rfl rfl).val ((congrArg (fun b => Value.bool (!b)) (decide_eq_true (by exact tt.xor))))) rfl rfl rfl ?_
      refine KL.op (R.pick rfl rfl rfl) rfl rfl rfl ?_
      refine KL.nil ?_
      refine KQ.seq ?_
      refine KC.condF rfl ?_
      refine KC.skip ?_
      refine KQ.seq ?_
      refine KC.seq ?_
      refine KC.seq ?_
      refine KC.region ?_
      refine KL.op (R.move rfl rfl) rfl rfl rfl ?_
      refine KL.op (R.move rfl rfl) rfl rfl rfl ?_
      refine KL.op (R.move rfl rfl) rfl rfl rfl ?_
      refine KL.op (R.move rfl rfl) rfl rfl rfl ?_
      refine KL.call rfl rfl rfl rfl Tryd.call14 rfl rfl rfl (do_any _ _ _ (by unfold Wd.Sup; omega) ra rb) ?_
      rintro _ _ ⟨rfl, rfl⟩
      refine KL.op (R.move rfl rfl) rfl rfl rfl ?_
      refine KL.op (R.move rfl rfl) rfl rfl rfl ?_
      refine KL.op (R.move rfl rfl) rfl rfl rfl ?_
      refine KL.call rfl rfl rfl rfl Tryd.call14 rfl rfl rfl (do_any _ _ _ (by unfold Wd.Sup; omega) ra rb) ?_
      rintro _ _ ⟨rfl, rfl⟩
      refine KL.call rfl rfl rfl rfl Tryd.call14 rfl rfl rfl (do_any _ _ _ (by unfold Wd.Sup; omega) (Wd.D_R (by unfold Wd.Sup; omega) ra rb) (Wd.D_R (by unfold Wd.Sup; omega) ra rb)) ?_
      rintro _ _ ⟨rfl, rfl⟩
      refine KL.op (R.move rfl rfl) rfl rfl rfl ?_
      refine KL.op (R.move rfl rfl) rfl rfl rfl ?_
      refine KL.op (R.move rfl rfl) rfl rfl rfl ?_
      refine KL.call rfl rfl rfl rfl Tryd.call14 rfl rfl rfl (do_any _ _ _ (by unfold Wd.Sup; omega) ra rb) ?_
      rintro _ _ ⟨rfl, rfl⟩
      refine KL.op ((R.neq rfl rfl rfl).val ((congrArg (fun b => Value.bool (!b)) (decide_eq_true (by exact tt.add))))) rfl rfl rfl ?_
      refine KL.op (R.move rfl rfl) rfl rfl rfl ?_
      refine KL.op (R.move rfl rfl) rfl rfl rfl ?_
      refine KL.op (R.move rfl rfl) rfl rfl rfl ?_
      refine KL.op (R.move rfl rfl) rfl rfl rfl ?_
      refine KL.op (R.move rfl rfl) rfl rfl rfl ?_
      refine KL.op (R.move rfl rfl) rfl rfl rfl ?_
      refine KL.call rfl rfl rfl rfl Tryd.call14 rfl rfl rfl (do_any _ _ _ (by unfold Wd.Sup; omega) rb rc) ?_
      rintro _ _ ⟨rfl, rfl⟩
      refine KL.call rfl rfl rfl rfl Tryd.call14 rfl rfl rfl (do_any _ _ _ (by unfold Wd.Sup; omega) ra (Wd.D_R (by unfold Wd.Sup; omega) rb rc)) ?_
      rintro _ _ ⟨rfl, rfl⟩
      refine KL.op (R.move rfl rfl) rfl rfl rfl ?_
      refine KL.op (R.move rfl rfl) rfl rfl rfl ?_
      refine KL.op (R.move rfl rfl) rfl rfl rfl ?_
      refine KL.op (R.move rfl rfl) rfl rfl rfl ?_
      refine KL.call rfl rfl rfl rfl Tryd.call14 rfl rfl rfl (do_any _ _ _ (by unfold Wd.Sup; omega) ra rb) ?_
      rintro _ _ ⟨rfl, rfl⟩
      refine KL.op (R.move rfl rfl) rfl rfl rfl ?_
      refine KL.op (R.move rfl rfl) rfl rfl rfl ?_
      refine KL.op (R.move rfl rfl) rfl rfl rfl ?_
      refine KL.call rfl rfl rfl rfl Tryd.call14 rfl rfl rfl (do_any _ _ _ (by unfold Wd.Sup; omega) ra rc) ?_
      rintro _ _ ⟨rfl, rfl⟩
      refine KL.call rfl rfl rfl rfl Tryd.call14 rfl rfl rfl (do_any _ _ _ (by unfold Wd.Sup; omega) (Wd.D_R (by unfold Wd.Sup; omega) ra rb) (Wd.D_R (by unfold Wd.Sup; omega) ra rc)) ?_
      rintro _ _ ⟨rfl, rfl⟩
      refine KL.op ((R.neq rfl rfl rfl).val ((congrArg (fun b => Value.bool (!b)) (decide_eq_true (by exact tt.dis))))) rfl rfl rfl ?_
      refine KL.op (R.pick rfl rfl rfl) rfl rfl rfl ?_
      refine KL.op (R.move rfl rfl) rfl rfl rfl ?_
      refine KL.op (R.move rfl rfl) rfl rfl rfl ?_
      refine KL.op (R.move rfl rfl) rfl rfl rfl ?_
      refine KL.op (R.move rfl rfl) rfl rfl rfl ?_
      refine KL.op (R.move rfl rfl) rfl rfl rfl ?_
      refine KL.op (R.move rfl rfl) rfl rfl rfl ?_
      refine KL.call rfl rfl rfl rfl Tryd.call14 rfl rfl rfl (do_any _ _ _ (by unfold Wd.Sup; omega) rb rc) ?_
      rintro _ _ ⟨rfl, rfl⟩
      refine KL.call rfl rfl rfl rfl Tryd.call14 rfl rfl rfl (do_any _ _ _ (by unfold Wd.Sup; omega) ra (Wd.D_R (by unfold Wd.Sup; omega) rb rc)) ?_
      rintro _ _ ⟨rfl, rfl⟩
      refine KL.op (R.move rfl rfl) rfl rfl rfl ?_
      refine KL.op (R.move rfl rfl) rfl rfl rfl ?_
      refine KL.op (R.move rfl rfl) rfl rfl rfl ?_
      refine KL.op (R.move rfl rfl) rfl rfl rfl ?_
      refine KL.call rfl rfl rfl rfl Tryd.call14 rfl rfl rfl (do_any _ _ _ (by unfold Wd.Sup; omega) ra rb) ?_
      rintro _ _ ⟨rfl, rfl⟩
      refine KL.op (R.move rfl rfl) rfl rfl rfl ?_
      refine KL.call rfl rfl rfl rfl Tryd.call14 rfl rfl rfl (do_any _ _ _ (by unfold Wd.Sup; omega) (Wd.D_R (by unfold Wd.Sup; omega) ra rb) rc) ?_
      rintro _ _ ⟨rfl, rfl⟩
      refine KL.op ((R.neq rfl rfl rfl).val ((congrArg (fun b => Value.bool (!b)) (decide_eq_true (by exact tt.ass))))) rfl rfl rfl ?_
      refine KL.op (R.pick rfl rfl rfl) rfl rfl rfl ?_
      refine KL.nil ?_
      refine KQ.seq ?_
      refine KC.condF rfl ?_
      refine KC.skip ?_
      refine KQ.seq ?_
      refine KC.seq ?_
      refine KC.region ?_
      refine KL.op (R.assign rfl rfl) rfl rfl rfl ?_
      refine KL.nil ?_
      refine KQ.seq ?_
      refine KC.seq ?_
      refine KC.seq ?_
      refine KC.region ?_
      refine KL.op (R.move rfl rfl) rfl rfl rfl ?_
      refine KL.op (R.eql rfl rfl rfl) rfl rfl rfl ?_
      refine KL.nil ?_
      refine KQ.seq ?_
      refine KC.iteL rfl ?_ ?_
      · intro hw
        try simp only [decide_eq_true_eq, decide_eq_false_iff_not, Bool.not_eq_true', Bool.not_eq_false', Bool.and_eq_true, Bool.or_eq_false_iff] at hw
        have hn := Wd.nn64 hw
        refine KC.region ?_
        refine KL.op (R.assign rfl rfl) rfl rfl rfl ?_
        refine KL.nil ?_
        refine KQ.seq ?_
        refine KC.seq ?_
        refine KC.quiet (by kernel_rfl) (by kernel_rfl) ?_
        refine KD.op (R.move rfl rfl) rfl rfl rfl ?_
        refine KD.op (R.add rfl rfl rfl (by dsimp only [InR]; omega)) rfl rfl rfl ?_
        refine KD.op (R.move rfl rfl) rfl rfl rfl ?_
        refine KD.op (R.move rfl rfl) rfl rfl rfl ?_
        refine KD.call rfl rfl rfl rfl Tryd.call14 rfl rfl rfl (do_any _ _ _ (by unfold Wd.Sup; omega) ra (by dsimp only [InR]; omega)) ?_
        refine KD.op (R.move rfl rfl) rfl rfl rfl ?_
        refine KD.op ((R.neq rfl rfl rfl).val ((congrArg (fun b => Value.bool (!b)) (decide_eq_true (by rw [← hn]; exact tt.shl))))) rfl rfl rfl ?_
        refine KD.op (R.move rfl rfl) rfl rfl rfl ?_
        refine KD.op (R.move rfl rfl) rfl rfl rfl ?_
        refine KD.op (R.add rfl rfl rfl (by dsimp only [InR]; omega)) rfl rfl rfl ?_
        refine KD.op (R.move rfl rfl) rfl rfl rfl ?_
        refine KD.op (R.move rfl rfl) rfl rfl rfl ?_
        refine KD.op (R.mul rfl rfl rfl (by dsimp only [InR]; omega)) rfl rfl rfl ?_
        refine KD.call rfl rfl rfl rfl Tryd.call14 rfl rfl rfl (do_any _ _ _ (by unfold Wd.Sup; omega) ra (by dsimp only [InR]; omega)) ?_
        refine KD.op (R.move rfl rfl) rfl rfl rfl ?_
        refine KD.op ((R.neq rfl rfl rfl).val ((congrArg (fun b => Value.bool (!b)) (decide_eq_true (by rw [← hn]; exact tt.shr))))) rfl rfl rfl ?_
        refine KD.op (R.pick rfl rfl rfl) rfl rfl rfl ?_
        refine KD.op (R.move rfl rfl) rfl rfl rfl ?_
        refine KD.op (R.move rfl rfl) rfl rfl rfl ?_
        refine KD.op (R.move rfl rfl) rfl rfl rfl ?_
        refine KD.op (R.move rfl rfl) rfl rfl rfl ?_
        refine KD.call rfl rfl rfl rfl Tryd.call14 rfl rfl rfl (do_any _ _ _ (by unfold Wd.Sup; omega) ra rb) ?_
        refine KD.op (R.move rfl rfl) rfl rfl rfl ?_
        refine KD.op (R.move rfl rfl) rfl rfl rfl ?_
        refine KD.op (R.move rfl rfl) rfl rfl rfl ?_
        refine KD.op (R.move rfl rfl) rfl rfl rfl ?_
        refine KD.op (R.move rfl rfl) rfl rfl rfl ?_
        refine KD.op (R.rem rfl rfl rfl (by omega) (by omega)) rfl rfl rfl ?_
        refine KD.op (R.sub rfl rfl rfl (by dsimp only [InR]; omega)) rfl rfl rfl ?_
        refine KD.call rfl rfl rfl rfl Tryd.call14 rfl rfl rfl (do_any _ _ _ (by unfold Wd.Sup; omega) ra (by dsimp only [InR]; omega)) ?_
        refine KD.op ((R.neq rfl rfl rfl).val ((congrArg (fun b => Value.bool (!b)) (decide_eq_true (by have t9 := tt.tur; rw [hn] at t9; exact t9))))) rfl rfl rfl ?_
        refine KD.op (R.pick rfl rfl rfl) rfl rfl rfl ?_
        refine KD.nil ?_
        refine KQ.seq ?_
        refine KC.condF rfl ?_
        refine KC.skip ?_
        refine KQ.normBlock ?_
        refine KQ.seq ?_
        refine KC.region ?_
        refine KL.op ((R.add rfl rfl rfl (by dsimp only [InR]; omega)).val (congrArg (Value.int .i64) (show _ = ((k + 1 : Nat) : Int) from by omega))) rfl rfl rfl ?_
        refine KL.op (R.move rfl rfl) rfl rfl rfl ?_
        refine KL.nil ?_
        refine KQ.again (k + 1) ?_ ?_ ?_
        · exact (Sub.cons rfl (Ext.sub (by repeat (first | exact Ext.refl _ _ | refine Ext.put rfl ?_ | refine Ext.drop rfl ?_))))
        · omega
        · exact ⟨rfl, by omega⟩
      · intro hw
        try simp only [decide_eq_true_eq, decide_eq_false_iff_not, Bool.not_eq_true', Bool.not_eq_false', Bool.and_eq_true, Bool.or_eq_false_iff] at hw
        have hn := Wd.nn32 hw
        refine KC.skip ?_
        refine KQ.seq ?_
        refine KC.seq ?_
        refine KC.quiet (by kernel_rfl) (by kernel_rfl) ?_
        refine KD.op (R.move rfl rfl) rfl rfl rfl ?_
        refine KD.op (R.add rfl rfl rfl (by dsimp only [InR]; omega)) rfl rfl rfl ?_
        refine KD.op (R.move rfl rfl) rfl rfl rfl ?_
        refine KD.op (R.move rfl rfl) rfl rfl rfl ?_
        refine KD.call rfl rfl rfl rfl Tryd.call14 rfl rfl rfl (do_any _ _ _ (by unfold Wd.Sup; omega) ra (by dsimp only [InR]; omega)) ?_
        refine KD.op (R.move rfl rfl) rfl rfl rfl ?_
        refine KD.op ((R.neq rfl rfl rfl).val ((congrArg (fun b => Value.bool (!b)) (decide_eq_true (by rw [← hn]; exact tt.shl))))) rfl rfl rfl ?_
        refine KD.op (R.move rfl rfl) rfl rfl rfl ?_
        refine KD.op (R.move rfl rfl) rfl rfl rfl ?_
        refine KD.op (R.add rfl rfl rfl (by dsimp only [InR]; omega)) rfl rfl rfl ?_
        refine KD.op (R.move rfl rfl) rfl rfl rfl ?_
        refine KD.op (R.move rfl rfl) rfl rfl rfl ?_
        refine KD.op (R.mul rfl rfl rfl (by dsimp only [InR]; omega)) rfl rfl rfl ?_
        refine KD.call rfl rfl rfl rfl Tryd.call14 rfl rfl rfl (do_any _ _ _ (by unfold Wd.Sup; omega) ra (by dsimp only [InR]; omega)) ?_
        refine KD.op (R.move rfl rfl) rfl rfl rfl ?_
        refine KD.op ((R.neq rfl rfl rfl).val ((congrArg (fun b => Value.bool (!b)) (decide_eq_true (by rw [← hn]; exact tt.shr))))) rfl rfl rfl ?_
        refine KD.op (R.pick rfl rfl rfl) rfl rfl rfl ?_
        refine KD.op (R.move rfl rfl) rfl rfl rfl ?_
        refine KD.op (R.move rfl rfl) rfl rfl rfl ?_
        refine KD.op (R.move rfl rfl) rfl rfl rfl ?_
        refine KD.op (R.move rfl rfl) rfl rfl rfl ?_
        refine KD.call rfl rfl rfl rfl Tryd.call14 rfl rfl rfl (do_any _ _ _ (by unfold Wd.Sup; omega) ra rb) ?_
        refine KD.op (R.move rfl rfl) rfl rfl rfl ?_
        refine KD.op (R.move rfl rfl) rfl rfl rfl ?_
        refine KD.op (R.move rfl rfl) rfl rfl rfl ?_
        refine KD.op (R.move rfl rfl) rfl rfl rfl ?_
        refine KD.op (R.move rfl rfl) rfl rfl rfl ?_
        refine KD.op (R.rem rfl rfl rfl (by omega) (by omega)) rfl rfl rfl ?_
        refine KD.op (R.sub rfl rfl rfl (by dsimp only [InR]; omega)) rfl rfl rfl ?_
        refine KD.call rfl rfl rfl rfl Tryd.call14 rfl rfl rfl (do_any _ _ _ (by unfold Wd.Sup; omega) ra (by dsimp only [InR]; omega)) ?_
        refine KD.op ((R.neq rfl rfl rfl).val ((congrArg (fun b => Value.bool (!b)) (decide_eq_true (by have t9 := tt.tur; rw [hn] at t9; exact t9))))) rfl rfl rfl ?_
        refine KD.op (R.pick rfl rfl rfl) rfl rfl rfl ?_
        refine KD.nil ?_
        refine KQ.seq ?_
        refine KC.condF rfl ?_
        refine KC.skip ?_
        refine KQ.normBlock ?_
        refine KQ.seq ?_
        refine KC.region ?_
        refine KL.op ((R.add rfl rfl rfl (by dsimp only [InR]; omega)).val (congrArg (Value.int .i64) (show _ = ((k + 1 : Nat) : Int) from by omega))) rfl rfl rfl ?_
        refine KL.op (R.move rfl rfl) rfl rfl rfl ?_
        refine KL.nil ?_
        refine KQ.again (k + 1) ?_ ?_ ?_
        · exact (Sub.cons rfl (Ext.sub (by repeat (first | exact Ext.refl _ _ | refine Ext.put rfl ?_ | refine Ext.drop rfl ?_))))
        · omega
        · exact ⟨rfl, by omega⟩
    · intro hc21
      try simp only [decide_eq_true_eq, decide_eq_false_iff_not, Bool.not_eq_true', Bool.not_eq_false', Bool.and_eq_true, Bool.or_eq_false_iff] at hc21
      refine KC.exit ?_
      refine KQ.exitThen ?_
      refine KQ.exitThen ?_
      refine KQ.hit ?_
      refine KQ.seq ?_
      refine KC.seq ?_
      refine KC.region ?_
      refine KL.call rfl rfl rfl rfl Tryd.call9 rfl rfl rfl (works_any) ?_
      rintro _ _ ⟨rfl, rfl⟩
      refine KL.op (R.assign rfl rfl) rfl rfl rfl ?_
      refine KL.nil ?_
      refine KQ.seq ?_
      refine KC.ret ?_
      refine KQ.ofRet ?_
      refine KQ.fin1 Tryd.results6 rfl ?_
      exact ⟨rfl, o0⟩

end Go.Proofs.YtkkhjaiaicmpaaaDoor
