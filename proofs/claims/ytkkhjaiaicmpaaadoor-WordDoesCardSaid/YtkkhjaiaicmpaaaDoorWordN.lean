/- The document's Do, opcode by opcode. No condition but sizes. -/
import Derived.Test.YtkkhjaiaicmpaaaDoorWordW
namespace Go.Proofs.YtkkhjaiaicmpaaaDoor
open Go Go.RowKit
set_option linter.unusedVariables false
set_option linter.unusedSimpArgs false
set_option linter.unnecessarySimpa false

theorem cutN32 {H : Heap} (a : Nat) (ha : a < 18446744073709551616) : Ct Tryd.prog 22 [.int .u64 (a : Nat), .int .i64 32] H (fun u H' => u = .int .u64 ((a % 4294967296 : Nat) : Int) ∧ H = H') :=
  (cut32_k (a : Int) (by dsimp only [InR]; omega)).mono fun u H' h => ⟨h.1.trans (congrArg (Value.int .u64) (by omega)), h.2⟩

theorem num_69 {H : Heap} : Ct Tryd.prog 21 [.int .u8 69] H (fun u H' => u = .tuple #[.int .i64 (-1), .int .i64 0, .int .i64 0] ∧ H = H') := number_k 69 (by dsimp only [InR]; omega)
theorem num_70 {H : Heap} : Ct Tryd.prog 21 [.int .u8 70] H (fun u H' => u = .tuple #[.int .i64 (0), .int .i64 0, .int .i64 32] ∧ H = H') := number_k 70 (by dsimp only [InR]; omega)
theorem num_71 {H : Heap} : Ct Tryd.prog 21 [.int .u8 71] H (fun u H' => u = .tuple #[.int .i64 (0), .int .i64 1, .int .i64 32] ∧ H = H') := number_k 71 (by dsimp only [InR]; omega)
theorem num_72 {H : Heap} : Ct Tryd.prog 21 [.int .u8 72] H (fun u H' => u = .tuple #[.int .i64 (0), .int .i64 2, .int .i64 32] ∧ H = H') := number_k 72 (by dsimp only [InR]; omega)
theorem num_73 {H : Heap} : Ct Tryd.prog 21 [.int .u8 73] H (fun u H' => u = .tuple #[.int .i64 (0), .int .i64 3, .int .i64 32] ∧ H = H') := number_k 73 (by dsimp only [InR]; omega)
theorem num_74 {H : Heap} : Ct Tryd.prog 21 [.int .u8 74] H (fun u H' => u = .tuple #[.int .i64 (0), .int .i64 4, .int .i64 32] ∧ H = H') := number_k 74 (by dsimp only [InR]; omega)
theorem num_75 {H : Heap} : Ct Tryd.prog 21 [.int .u8 75] H (fun u H' => u = .tuple #[.int .i64 (0), .int .i64 5, .int .i64 32] ∧ H = H') := number_k 75 (by dsimp only [InR]; omega)
theorem num_76 {H : Heap} : Ct Tryd.prog 21 [.int .u8 76] H (fun u H' => u = .tuple #[.int .i64 (0), .int .i64 6, .int .i64 32] ∧ H = H') := number_k 76 (by dsimp only [InR]; omega)
theorem num_77 {H : Heap} : Ct Tryd.prog 21 [.int .u8 77] H (fun u H' => u = .tuple #[.int .i64 (0), .int .i64 7, .int .i64 32] ∧ H = H') := number_k 77 (by dsimp only [InR]; omega)
theorem num_78 {H : Heap} : Ct Tryd.prog 21 [.int .u8 78] H (fun u H' => u = .tuple #[.int .i64 (0), .int .i64 8, .int .i64 32] ∧ H = H') := number_k 78 (by dsimp only [InR]; omega)
theorem num_79 {H : Heap} : Ct Tryd.prog 21 [.int .u8 79] H (fun u H' => u = .tuple #[.int .i64 (0), .int .i64 9, .int .i64 32] ∧ H = H') := number_k 79 (by dsimp only [InR]; omega)
theorem num_80 {H : Heap} : Ct Tryd.prog 21 [.int .u8 80] H (fun u H' => u = .tuple #[.int .i64 (-1), .int .i64 0, .int .i64 0] ∧ H = H') := number_k 80 (by dsimp only [InR]; omega)
theorem num_81 {H : Heap} : Ct Tryd.prog 21 [.int .u8 81] H (fun u H' => u = .tuple #[.int .i64 (0), .int .i64 0, .int .i64 64] ∧ H = H') := number_k 81 (by dsimp only [InR]; omega)
theorem num_82 {H : Heap} : Ct Tryd.prog 21 [.int .u8 82] H (fun u H' => u = .tuple #[.int .i64 (0), .int .i64 1, .int .i64 64] ∧ H = H') := number_k 82 (by dsimp only [InR]; omega)
theorem num_83 {H : Heap} : Ct Tryd.prog 21 [.int .u8 83] H (fun u H' => u = .tuple #[.int .i64 (0), .int .i64 2, .int .i64 64] ∧ H = H') := number_k 83 (by dsimp only [InR]; omega)
theorem num_84 {H : Heap} : Ct Tryd.prog 21 [.int .u8 84] H (fun u H' => u = .tuple #[.int .i64 (0), .int .i64 3, .int .i64 64] ∧ H = H') := number_k 84 (by dsimp only [InR]; omega)
theorem num_85 {H : Heap} : Ct Tryd.prog 21 [.int .u8 85] H (fun u H' => u = .tuple #[.int .i64 (0), .int .i64 4, .int .i64 64] ∧ H = H') := number_k 85 (by dsimp only [InR]; omega)
theorem num_86 {H : Heap} : Ct Tryd.prog 21 [.int .u8 86] H (fun u H' => u = .tuple #[.int .i64 (0), .int .i64 5, .int .i64 64] ∧ H = H') := number_k 86 (by dsimp only [InR]; omega)
theorem num_87 {H : Heap} : Ct Tryd.prog 21 [.int .u8 87] H (fun u H' => u = .tuple #[.int .i64 (0), .int .i64 6, .int .i64 64] ∧ H = H') := number_k 87 (by dsimp only [InR]; omega)
theorem num_88 {H : Heap} : Ct Tryd.prog 21 [.int .u8 88] H (fun u H' => u = .tuple #[.int .i64 (0), .int .i64 7, .int .i64 64] ∧ H = H') := number_k 88 (by dsimp only [InR]; omega)
theorem num_89 {H : Heap} : Ct Tryd.prog 21 [.int .u8 89] H (fun u H' => u = .tuple #[.int .i64 (0), .int .i64 8, .int .i64 64] ∧ H = H') := number_k 89 (by dsimp only [InR]; omega)
theorem num_90 {H : Heap} : Ct Tryd.prog 21 [.int .u8 90] H (fun u H' => u = .tuple #[.int .i64 (0), .int .i64 9, .int .i64 64] ∧ H = H') := number_k 90 (by dsimp only [InR]; omega)
theorem num_103 {H : Heap} : Ct Tryd.prog 21 [.int .u8 103] H (fun u H' => u = .tuple #[.int .i64 (1), .int .i64 0, .int .i64 32] ∧ H = H') := number_k 103 (by dsimp only [InR]; omega)
theorem num_104 {H : Heap} : Ct Tryd.prog 21 [.int .u8 104] H (fun u H' => u = .tuple #[.int .i64 (1), .int .i64 1, .int .i64 32] ∧ H = H') := number_k 104 (by dsimp only [InR]; omega)
theorem num_105 {H : Heap} : Ct Tryd.prog 21 [.int .u8 105] H (fun u H' => u = .tuple #[.int .i64 (1), .int .i64 2, .int .i64 32] ∧ H = H') := number_k 105 (by dsimp only [InR]; omega)
theorem num_106 {H : Heap} : Ct Tryd.prog 21 [.int .u8 106] H (fun u H' => u = .tuple #[.int .i64 (2), .int .i64 0, .int .i64 32] ∧ H = H') := number_k 106 (by dsimp only [InR]; omega)
theorem num_107 {H : Heap} : Ct Tryd.prog 21 [.int .u8 107] H (fun u H' => u = .tuple #[.int .i64 (2), .int .i64 1, .int .i64 32] ∧ H = H') := number_k 107 (by dsimp only [InR]; omega)
theorem num_108 {H : Heap} : Ct Tryd.prog 21 [.int .u8 108] H (fun u H' => u = .tuple #[.int .i64 (2), .int .i64 2, .int .i64 32] ∧ H = H') := number_k 108 (by dsimp only [InR]; omega)
theorem num_121 {H : Heap} : Ct Tryd.prog 21 [.int .u8 121] H (fun u H' => u = .tuple #[.int .i64 (1), .int .i64 0, .int .i64 64] ∧ H = H') := number_k 121 (by dsimp only [InR]; omega)
theorem num_122 {H : Heap} : Ct Tryd.prog 21 [.int .u8 122] H (fun u H' => u = .tuple #[.int .i64 (1), .int .i64 1, .int .i64 64] ∧ H = H') := number_k 122 (by dsimp only [InR]; omega)
theorem num_123 {H : Heap} : Ct Tryd.prog 21 [.int .u8 123] H (fun u H' => u = .tuple #[.int .i64 (1), .int .i64 2, .int .i64 64] ∧ H = H') := number_k 123 (by dsimp only [InR]; omega)
theorem num_124 {H : Heap} : Ct Tryd.prog 21 [.int .u8 124] H (fun u H' => u = .tuple #[.int .i64 (2), .int .i64 0, .int .i64 64] ∧ H = H') := number_k 124 (by dsimp only [InR]; omega)
theorem num_125 {H : Heap} : Ct Tryd.prog 21 [.int .u8 125] H (fun u H' => u = .tuple #[.int .i64 (2), .int .i64 1, .int .i64 64] ∧ H = H') := number_k 125 (by dsimp only [InR]; omega)
theorem num_126 {H : Heap} : Ct Tryd.prog 21 [.int .u8 126] H (fun u H' => u = .tuple #[.int .i64 (2), .int .i64 2, .int .i64 64] ∧ H = H') := number_k 126 (by dsimp only [InR]; omega)
theorem num_167 {H : Heap} : Ct Tryd.prog 21 [.int .u8 167] H (fun u H' => u = .tuple #[.int .i64 (-1), .int .i64 0, .int .i64 0] ∧ H = H') := number_k 167 (by dsimp only [InR]; omega)
theorem num_172 {H : Heap} : Ct Tryd.prog 21 [.int .u8 172] H (fun u H' => u = .tuple #[.int .i64 (-1), .int .i64 0, .int .i64 0] ∧ H = H') := number_k 172 (by dsimp only [InR]; omega)
theorem num_173 {H : Heap} : Ct Tryd.prog 21 [.int .u8 173] H (fun u H' => u = .tuple #[.int .i64 (-1), .int .i64 0, .int .i64 0] ∧ H = H') := number_k 173 (by dsimp only [InR]; omega)
set_option maxRecDepth 100000 in
set_option maxHeartbeats 4000000 in
theorem rDo_69 {H : Heap} (a b : Nat) (ha : a < 18446744073709551616) (hb : b < 18446744073709551616) : Ct Tryd.prog 12 [.int .u8 69, .int .u64 (a : Nat), .int .u64 (b : Nat)] H (fun u H' => u = .tuple #[.int .u64 (Wd.E 69 a b).1, .int .u8 (Wd.E 69 a b).2] ∧ Old H H') := by
  refine Ct.mk Tryd.func12 rfl Tryd.ntmps12 rfl ?_
  intro W0 hW0
  have o0 : Old H H := Old.refl H
  refine KC.seq (KC.region (KL.op (R.assign rfl rfl) rfl rfl rfl (KL.op (R.assign rfl rfl) rfl rfl rfl (KL.nil (KQ.seq (KC.seq (KC.region (KL.op (R.move rfl rfl) rfl rfl rfl ?_))))))))
  refine KL.call rfl rfl rfl rfl Tryd.call21 rfl rfl rfl (num_69) ?_
  rintro _ _ ⟨rfl, rfl⟩
  refine KL.op (R.move rfl rfl) rfl rfl rfl (KL.op (R.extract rfl rfl rfl) rfl rfl rfl (KL.op (R.extract rfl rfl rfl) rfl rfl rfl (KL.op (R.extract rfl rfl rfl) rfl rfl rfl (KL.op (R.assign rfl rfl) rfl rfl rfl (KL.op (R.assign rfl rfl) rfl rfl rfl (KL.op (R.assign rfl rfl) rfl rfl rfl (KL.nil (KQ.seq (KC.seq ?_)))))))))
  refine KC.region (KL.op (R.move rfl rfl) rfl rfl rfl (KL.op (R.move rfl rfl) rfl rfl rfl (KL.op (R.assign rfl rfl) rfl rfl rfl (KL.op (R.assign rfl rfl) rfl rfl rfl (KL.nil (KQ.seq (KC.seq (KC.seq (KC.region ?_)))))))))
  refine KL.op (R.move rfl rfl) rfl rfl rfl ?_
  refine KL.op ((R.eql rfl rfl rfl).val (congrArg Value.bool (decide_eq_false (by decide)))) rfl rfl rfl ?_
  refine KL.nil (KQ.seq (KC.condF rfl ?_))
  refine KC.skip ?_
  refine KQ.seq (KC.seq (KC.seq (KC.region (KL.op (R.move rfl rfl) rfl rfl rfl (KL.nil (KQ.seq (KC.block (KC.seq (KC.region ?_)))))))))
  refine KL.op ((R.eql rfl rfl rfl).val (congrArg Value.bool (decide_eq_false (by decide)))) rfl rfl rfl ?_
  refine KL.op (R.assign rfl rfl) rfl rfl rfl (KL.nil (KQ.seq (KC.condF rfl (KC.seq (KC.region ?_)))))
  refine KL.op ((R.eql rfl rfl rfl).val (congrArg Value.bool (decide_eq_false (by decide)))) rfl rfl rfl ?_
  refine KL.op (R.assign rfl rfl) rfl rfl rfl (KL.nil (KQ.seq (KC.condF rfl (KC.seq (KC.region ?_)))))
  refine KL.op ((R.eql rfl rfl rfl).val (congrArg Value.bool (decide_eq_false (by decide)))) rfl rfl rfl ?_
  refine KL.op (R.assign rfl rfl) rfl rfl rfl (KL.nil (KQ.seq (KC.condF rfl ?_)))
  refine KC.skip ?_
  refine KQ.normBlock (KQ.seq (KC.seq (KC.region (KL.op (R.move rfl rfl) rfl rfl rfl ?_))))
  refine KL.call rfl rfl rfl rfl Tryd.call22 rfl rfl rfl (cutN32 a ha) ?_
  rintro _ _ ⟨rfl, rfl⟩
  refine KL.op (R.assign rfl rfl) rfl rfl rfl (KL.nil (KQ.seq (KC.seq (KC.seq (KC.region (KL.op (R.move rfl rfl) rfl rfl rfl (KL.nil (KQ.seq (KC.block ?_)))))))))
  refine KC.seq (KC.region ?_)
  refine KL.op ((R.eql rfl rfl rfl).val (congrArg Value.bool (decide_eq_true (by rfl)))) rfl rfl rfl ?_
  refine KL.op (R.assign rfl rfl) rfl rfl rfl (KL.nil (KQ.seq (KC.condT rfl (KC.seq (KC.region (KL.op (R.move rfl rfl) rfl rfl rfl ?_))))))
  refine KL.op (R.eql rfl rfl rfl) rfl rfl rfl ?_
  refine KL.call rfl rfl rfl rfl Tryd.call24 rfl rfl rfl (rone_k _) ?_
  rintro _ _ ⟨rfl, rfl⟩
  refine KL.op (R.assign rfl rfl) rfl rfl rfl (KL.op (R.assign rfl rfl) rfl rfl rfl (KL.nil (KQ.seq (KC.ret (KQ.retBlock (KQ.retThen (KQ.ofRet ?_)))))))
  refine KQ.fin2 Tryd.results12 rfl rfl ?_
  exact ⟨Wr.tupR (by rw [Wd.E69, Wr.low32]), o0⟩

set_option maxRecDepth 100000 in
set_option maxHeartbeats 4000000 in
theorem rDo_70 {H : Heap} (a b : Nat) (ha : a < 18446744073709551616) (hb : b < 18446744073709551616) : Ct Tryd.prog 12 [.int .u8 70, .int .u64 (a : Nat), .int .u64 (b : Nat)] H (fun u H' => u = .tuple #[.int .u64 (Wd.E 70 a b).1, .int .u8 (Wd.E 70 a b).2] ∧ Old H H') := by
  refine Ct.mk Tryd.func12 rfl Tryd.ntmps12 rfl ?_
  intro W0 hW0
  have o0 : Old H H := Old.refl H
  refine KC.seq (KC.region (KL.op (R.assign rfl rfl) rfl rfl rfl (KL.op (R.assign rfl rfl) rfl rfl rfl (KL.nil (KQ.seq (KC.seq (KC.region (KL.op (R.move rfl rfl) rfl rfl rfl ?_))))))))
  refine KL.call rfl rfl rfl rfl Tryd.call21 rfl rfl rfl (num_70) ?_
  rintro _ _ ⟨rfl, rfl⟩
  refine KL.op (R.move rfl rfl) rfl rfl rfl (KL.op (R.extract rfl rfl rfl) rfl rfl rfl (KL.op (R.extract rfl rfl rfl) rfl rfl rfl (KL.op (R.extract rfl rfl rfl) rfl rfl rfl (KL.op (R.assign rfl rfl) rfl rfl rfl (KL.op (R.assign rfl rfl) rfl rfl rfl (KL.op (R.assign rfl rfl) rfl rfl rfl (KL.nil (KQ.seq (KC.seq ?_)))))))))
  refine KC.region (KL.op (R.move rfl rfl) rfl rfl rfl (KL.op (R.move rfl rfl) rfl rfl rfl (KL.op (R.assign rfl rfl) rfl rfl rfl (KL.op (R.assign rfl rfl) rfl rfl rfl (KL.nil (KQ.seq (KC.seq (KC.seq (KC.region ?_)))))))))
  refine KL.op (R.move rfl rfl) rfl rfl rfl ?_
  refine KL.op ((R.eql rfl rfl rfl).val (congrArg Value.bool (decide_eq_true (by rfl)))) rfl rfl rfl ?_
  refine KL.nil (KQ.seq (KC.condT rfl (KC.seq (KC.region (KL.op (R.move rfl rfl) rfl rfl rfl ?_)))))
  refine KL.call rfl rfl rfl rfl Tryd.call22 rfl rfl rfl (cutN32 a ha) ?_
  rintro _ _ ⟨rfl, rfl⟩
  refine KL.op (R.assign rfl rfl) rfl rfl rfl (KL.nil (KQ.seq (KC.region (KL.op (R.move rfl rfl) rfl rfl rfl ?_))))
  refine KL.call rfl rfl rfl rfl Tryd.call22 rfl rfl rfl (cutN32 b hb) ?_
  rintro _ _ ⟨rfl, rfl⟩
  refine KL.op (R.assign rfl rfl) rfl rfl rfl (KL.nil (KQ.seq (KC.seq (KC.seq (KC.region (KL.op (R.move rfl rfl) rfl rfl rfl (KL.nil (KQ.seq (KC.block ?_)))))))))
  refine KC.seq (KC.region ?_)
  refine KL.op ((R.eql rfl rfl rfl).val (congrArg Value.bool (decide_eq_true (by rfl)))) rfl rfl rfl ?_
  refine KL.op (R.assign rfl rfl) rfl rfl rfl (KL.nil (KQ.seq (KC.condT rfl (KC.seq (KC.region (KL.op (R.move rfl rfl) rfl rfl rfl (KL.op (R.move rfl rfl) rfl rfl rfl (KL.op (R.move rfl rfl) rfl rfl rfl ?_))))))))
  refine KL.call rfl rfl rfl rfl Tryd.call23 rfl rfl rfl (below32_k (a % 4294967296) (b % 4294967296) (by omega) (by omega)) ?_
  rintro _ _ ⟨rfl, rfl⟩
  refine KL.op (R.move rfl rfl) rfl rfl rfl (KL.op (R.move rfl rfl) rfl rfl rfl (KL.op (R.move rfl rfl) rfl rfl rfl ?_))
  refine KL.call rfl rfl rfl rfl Tryd.call23 rfl rfl rfl (below32_k (b % 4294967296) (a % 4294967296) (by omega) (by omega)) ?_
  rintro _ _ ⟨rfl, rfl⟩
  refine KL.op (R.assign rfl rfl) rfl rfl rfl (KL.op (R.assign rfl rfl) rfl rfl rfl (KL.nil (KQ.seq (KC.seq (KC.seq (KC.region (KL.op (R.move rfl rfl) rfl rfl rfl ?_)))))))
  refine KL.op ((R.gtr rfl rfl rfl).val (congrArg Value.bool (decide_eq_false (by decide)))) rfl rfl rfl ?_
  refine KL.op (R.move rfl rfl) rfl rfl rfl ?_
  refine KL.skip rfl rfl rfl ?_
  refine KL.skip rfl rfl rfl ?_
  refine KL.skip rfl rfl rfl ?_
  refine KL.op (R.pick rfl rfl rfl) rfl rfl rfl ?_
  refine KL.nil (KQ.seq (KC.condF rfl ?_))
  refine KC.skip ?_
  refine KQ.seq (KC.seq (KC.seq (KC.region (KL.op (R.move rfl rfl) rfl rfl rfl (KL.nil (KQ.seq (KC.block (KC.seq (KC.region ?_)))))))))
  refine KL.op ((R.eql rfl rfl rfl).val (congrArg Value.bool (decide_eq_true (by rfl)))) rfl rfl rfl ?_
  refine KL.op (R.assign rfl rfl) rfl rfl rfl (KL.nil (KQ.seq (KC.condT rfl (KC.seq (KC.region (KL.op (R.move rfl rfl) rfl rfl rfl (KL.op (R.move rfl rfl) rfl rfl rfl ?_)))))))
  refine KL.op (R.eql rfl rfl rfl) rfl rfl rfl ?_
  refine KL.call rfl rfl rfl rfl Tryd.call24 rfl rfl rfl (rone_k _) ?_
  rintro _ _ ⟨rfl, rfl⟩
  refine KL.op (R.assign rfl rfl) rfl rfl rfl (KL.op (R.assign rfl rfl) rfl rfl rfl (KL.nil (KQ.seq (KC.ret (KQ.retBlock (KQ.retThen (KQ.retBlock (KQ.retThen (KQ.ofRet ?_)))))))))
  refine KQ.fin2 Tryd.results12 rfl rfl ?_
  exact ⟨Wr.tupR (by rw [Wd.E70 ⟨by decide, by decide⟩, Wr.low32, Wr.low32]; apply Wr.pair; rfl), o0⟩

set_option maxRecDepth 100000 in
set_option maxHeartbeats 4000000 in
theorem rDo_71 {H : Heap} (a b : Nat) (ha : a < 18446744073709551616) (hb : b < 18446744073709551616) : Ct Tryd.prog 12 [.int .u8 71, .int .u64 (a : Nat), .int .u64 (b : Nat)] H (fun u H' => u = .tuple #[.int .u64 (Wd.E 71 a b).1, .int .u8 (Wd.E 71 a b).2] ∧ Old H H') := by
  refine Ct.mk Tryd.func12 rfl Tryd.ntmps12 rfl ?_
  intro W0 hW0
  have o0 : Old H H := Old.refl H
  refine KC.seq (KC.region (KL.op (R.assign rfl rfl) rfl rfl rfl (KL.op (R.assign rfl rfl) rfl rfl rfl (KL.nil (KQ.seq (KC.seq (KC.region (KL.op (R.move rfl rfl) rfl rfl rfl ?_))))))))
  refine KL.call rfl rfl rfl rfl Tryd.call21 rfl rfl rfl (num_71) ?_
  rintro _ _ ⟨rfl, rfl⟩
  refine KL.op (R.move rfl rfl) rfl rfl rfl (KL.op (R.extract rfl rfl rfl) rfl rfl rfl (KL.op (R.extract rfl rfl rfl) rfl rfl rfl (KL.op (R.extract rfl rfl rfl) rfl rfl rfl (KL.op (R.assign rfl rfl) rfl rfl rfl (KL.op (R.assign rfl rfl) rfl rfl rfl (KL.op (R.assign rfl rfl) rfl rfl rfl (KL.nil (KQ.seq (KC.seq ?_)))))))))
  refine KC.region (KL.op (R.move rfl rfl) rfl rfl rfl (KL.op (R.move rfl rfl) rfl rfl rfl (KL.op (R.assign rfl rfl) rfl rfl rfl (KL.op (R.assign rfl rfl) rfl rfl rfl (KL.nil (KQ.seq (KC.seq (KC.seq (KC.region ?_)))))))))
  refine KL.op (R.move rfl rfl) rfl rfl rfl ?_
  refine KL.op ((R.eql rfl rfl rfl).val (congrArg Value.bool (decide_eq_true (by rfl)))) rfl rfl rfl ?_
  refine KL.nil (KQ.seq (KC.condT rfl (KC.seq (KC.region (KL.op (R.move rfl rfl) rfl rfl rfl ?_)))))
  refine KL.call rfl rfl rfl rfl Tryd.call22 rfl rfl rfl (cutN32 a ha) ?_
  rintro _ _ ⟨rfl, rfl⟩
  refine KL.op (R.assign rfl rfl) rfl rfl rfl (KL.nil (KQ.seq (KC.region (KL.op (R.move rfl rfl) rfl rfl rfl ?_))))
  refine KL.call rfl rfl rfl rfl Tryd.call22 rfl rfl rfl (cutN32 b hb) ?_
  rintro _ _ ⟨rfl, rfl⟩
  refine KL.op (R.assign rfl rfl) rfl rfl rfl (KL.nil (KQ.seq (KC.seq (KC.seq (KC.region (KL.op (R.move rfl rfl) rfl rfl rfl (KL.nil (KQ.seq (KC.block ?_)))))))))
  refine KC.seq (KC.region ?_)
  refine KL.op ((R.eql rfl rfl rfl).val (congrArg Value.bool (decide_eq_true (by rfl)))) rfl rfl rfl ?_
  refine KL.op (R.assign rfl rfl) rfl rfl rfl (KL.nil (KQ.seq (KC.condT rfl (KC.seq (KC.region (KL.op (R.move rfl rfl) rfl rfl rfl (KL.op (R.move rfl rfl) rfl rfl rfl (KL.op (R.move rfl rfl) rfl rfl rfl ?_))))))))
  refine KL.call rfl rfl rfl rfl Tryd.call23 rfl rfl rfl (below32_k (a % 4294967296) (b % 4294967296) (by omega) (by omega)) ?_
  rintro _ _ ⟨rfl, rfl⟩
  refine KL.op (R.move rfl rfl) rfl rfl rfl (KL.op (R.move rfl rfl) rfl rfl rfl (KL.op (R.move rfl rfl) rfl rfl rfl ?_))
  refine KL.call rfl rfl rfl rfl Tryd.call23 rfl rfl rfl (below32_k (b % 4294967296) (a % 4294967296) (by omega) (by omega)) ?_
  rintro _ _ ⟨rfl, rfl⟩
  refine KL.op (R.assign rfl rfl) rfl rfl rfl (KL.op (R.assign rfl rfl) rfl rfl rfl (KL.nil (KQ.seq (KC.seq (KC.seq (KC.region (KL.op (R.move rfl rfl) rfl rfl rfl ?_)))))))
  refine KL.op ((R.gtr rfl rfl rfl).val (congrArg Value.bool (decide_eq_false (by decide)))) rfl rfl rfl ?_
  refine KL.op (R.move rfl rfl) rfl rfl rfl ?_
  refine KL.skip rfl rfl rfl ?_
  refine KL.skip rfl rfl rfl ?_
  refine KL.skip rfl rfl rfl ?_
  refine KL.op (R.pick rfl rfl rfl) rfl rfl rfl ?_
  refine KL.nil (KQ.seq (KC.condF rfl ?_))
  refine KC.skip ?_
  refine KQ.seq (KC.seq (KC.seq (KC.region (KL.op (R.move rfl rfl) rfl rfl rfl (KL.nil (KQ.seq (KC.block (KC.seq (KC.region ?_)))))))))
  refine KL.op ((R.eql rfl rfl rfl).val (congrArg Value.bool (decide_eq_false (by decide)))) rfl rfl rfl ?_
  refine KL.op (R.assign rfl rfl) rfl rfl rfl (KL.nil (KQ.seq (KC.condF rfl (KC.seq (KC.region ?_)))))
  refine KL.op ((R.eql rfl rfl rfl).val (congrArg Value.bool (decide_eq_true (by rfl)))) rfl rfl rfl ?_
  refine KL.op (R.assign rfl rfl) rfl rfl rfl (KL.nil (KQ.seq (KC.condT rfl (KC.seq (KC.region (KL.op (R.move rfl rfl) rfl rfl rfl (KL.op (R.move rfl rfl) rfl rfl rfl ?_)))))))
  refine KL.op (R.neq rfl rfl rfl) rfl rfl rfl ?_
  refine KL.call rfl rfl rfl rfl Tryd.call24 rfl rfl rfl (rone_k _) ?_
  rintro _ _ ⟨rfl, rfl⟩
  refine KL.op (R.assign rfl rfl) rfl rfl rfl (KL.op (R.assign rfl rfl) rfl rfl rfl (KL.nil (KQ.seq (KC.ret (KQ.retBlock (KQ.retThen (KQ.retBlock (KQ.retThen (KQ.ofRet ?_)))))))))
  refine KQ.fin2 Tryd.results12 rfl rfl ?_
  exact ⟨Wr.tupR (by rw [Wd.E70 ⟨by decide, by decide⟩, Wr.low32, Wr.low32]; apply Wr.pair; rfl), o0⟩

set_option maxRecDepth 100000 in
set_option maxHeartbeats 4000000 in
theorem rDo_72 {H : Heap} (a b : Nat) (ha : a < 18446744073709551616) (hb : b < 18446744073709551616) : Ct Tryd.prog 12 [.int .u8 72, .int .u64 (a : Nat), .int .u64 (b : Nat)] H (fun u H' => u = .tuple #[.int .u64 (Wd.E 72 a b).1, .int .u8 (Wd.E 72 a b).2] ∧ Old H H') := by
  refine Ct.mk Tryd.func12 rfl Tryd.ntmps12 rfl ?_
  intro W0 hW0
  have o0 : Old H H := Old.refl H
  refine KC.seq (KC.region (KL.op (R.assign rfl rfl) rfl rfl rfl (KL.op (R.assign rfl rfl) rfl rfl rfl (KL.nil (KQ.seq (KC.seq (KC.region (KL.op (R.move rfl rfl) rfl rfl rfl ?_))))))))
  refine KL.call rfl rfl rfl rfl Tryd.call21 rfl rfl rfl (num_72) ?_
  rintro _ _ ⟨rfl, rfl⟩
  refine KL.op (R.move rfl rfl) rfl rfl rfl (KL.op (R.extract rfl rfl rfl) rfl rfl rfl (KL.op (R.extract rfl rfl rfl) rfl rfl rfl (KL.op (R.extract rfl rfl rfl) rfl rfl rfl (KL.op (R.assign rfl rfl) rfl rfl rfl (KL.op (R.assign rfl rfl) rfl rfl rfl (KL.op (R.assign rfl rfl) rfl rfl rfl (KL.nil (KQ.seq (KC.seq ?_)))))))))
  refine KC.region (KL.op (R.move rfl rfl) rfl rfl rfl (KL.op (R.move rfl rfl) rfl rfl rfl (KL.op (R.assign rfl rfl) rfl rfl rfl (KL.op (R.assign rfl rfl) rfl rfl rfl (KL.nil (KQ.seq (KC.seq (KC.seq (KC.region ?_)))))))))
  refine KL.op (R.move rfl rfl) rfl rfl rfl ?_
  refine KL.op ((R.eql rfl rfl rfl).val (congrArg Value.bool (decide_eq_true (by rfl)))) rfl rfl rfl ?_
  refine KL.nil (KQ.seq (KC.condT rfl (KC.seq (KC.region (KL.op (R.move rfl rfl) rfl rfl rfl ?_)))))
  refine KL.call rfl rfl rfl rfl Tryd.call22 rfl rfl rfl (cutN32 a ha) ?_
  rintro _ _ ⟨rfl, rfl⟩
  refine KL.op (R.assign rfl rfl) rfl rfl rfl (KL.nil (KQ.seq (KC.region (KL.op (R.move rfl rfl) rfl rfl rfl ?_))))
  refine KL.call rfl rfl rfl rfl Tryd.call22 rfl rfl rfl (cutN32 b hb) ?_
  rintro _ _ ⟨rfl, rfl⟩
  refine KL.op (R.assign rfl rfl) rfl rfl rfl (KL.nil (KQ.seq (KC.seq (KC.seq (KC.region (KL.op (R.move rfl rfl) rfl rfl rfl (KL.nil (KQ.seq (KC.block ?_)))))))))
  refine KC.seq (KC.region ?_)
  refine KL.op ((R.eql rfl rfl rfl).val (congrArg Value.bool (decide_eq_true (by rfl)))) rfl rfl rfl ?_
  refine KL.op (R.assign rfl rfl) rfl rfl rfl (KL.nil (KQ.seq (KC.condT rfl (KC.seq (KC.region (KL.op (R.move rfl rfl) rfl rfl rfl (KL.op (R.move rfl rfl) rfl rfl rfl (KL.op (R.move rfl rfl) rfl rfl rfl ?_))))))))
  refine KL.call rfl rfl rfl rfl Tryd.call23 rfl rfl rfl (below32_k (a % 4294967296) (b % 4294967296) (by omega) (by omega)) ?_
  rintro _ _ ⟨rfl, rfl⟩
  refine KL.op (R.move rfl rfl) rfl rfl rfl (KL.op (R.move rfl rfl) rfl rfl rfl (KL.op (R.move rfl rfl) rfl rfl rfl ?_))
  refine KL.call rfl rfl rfl rfl Tryd.call23 rfl rfl rfl (below32_k (b % 4294967296) (a % 4294967296) (by omega) (by omega)) ?_
  rintro _ _ ⟨rfl, rfl⟩
  refine KL.op (R.assign rfl rfl) rfl rfl rfl (KL.op (R.assign rfl rfl) rfl rfl rfl (KL.nil (KQ.seq (KC.seq (KC.seq (KC.region (KL.op (R.move rfl rfl) rfl rfl rfl ?_)))))))
  refine KL.op ((R.gtr rfl rfl rfl).val (congrArg Value.bool (decide_eq_true (by decide)))) rfl rfl rfl ?_
  refine KL.op (R.move rfl rfl) rfl rfl rfl (KL.op (R.move rfl rfl) rfl rfl rfl ?_)
  refine KL.op ((R.rem rfl rfl rfl (by decide) (by decide)).val (congrArg (Value.int .i64) (show (2 : Int) % 2 = 0 by decide))) rfl rfl rfl ?_
  refine KL.op ((R.eql rfl rfl rfl).val (congrArg Value.bool (decide_eq_false (by decide)))) rfl rfl rfl ?_
  refine KL.op (R.pick rfl rfl rfl) rfl rfl rfl ?_
  refine KL.nil (KQ.seq (KC.condF rfl ?_))
  refine KC.skip ?_
  refine KQ.seq (KC.seq (KC.seq (KC.region (KL.op (R.move rfl rfl) rfl rfl rfl (KL.nil (KQ.seq (KC.block (KC.seq (KC.region ?_)))))))))
  refine KL.op ((R.eql rfl rfl rfl).val (congrArg Value.bool (decide_eq_false (by decide)))) rfl rfl rfl ?_
  refine KL.op (R.assign rfl rfl) rfl rfl rfl (KL.nil (KQ.seq (KC.condF rfl (KC.seq (KC.region ?_)))))
  refine KL.op ((R.eql rfl rfl rfl).val (congrArg Value.bool (decide_eq_false (by decide)))) rfl rfl rfl ?_
  refine KL.op (R.assign rfl rfl) rfl rfl rfl (KL.nil (KQ.seq (KC.condF rfl (KC.seq (KC.seq (KC.region ?_))))))
  refine KL.op ((R.eql rfl rfl rfl).val (congrArg Value.bool (decide_eq_true (by rfl)))) rfl rfl rfl ?_
  refine KL.op (R.assign rfl rfl) rfl rfl rfl (KL.nil (KQ.seq (KC.condT rfl ?_)))
  refine KC.skip ?_
  refine KQ.seq (KC.condT rfl (KC.seq (KC.region (KL.op (R.move rfl rfl) rfl rfl rfl ?_))))
  refine KL.call rfl rfl rfl rfl Tryd.call24 rfl rfl rfl (rone_k _) ?_
  rintro _ _ ⟨rfl, rfl⟩
  refine KL.op (R.assign rfl rfl) rfl rfl rfl (KL.op (R.assign rfl rfl) rfl rfl rfl (KL.nil (KQ.seq (KC.ret (KQ.retBlock (KQ.retThen (KQ.retBlock (KQ.retThen (KQ.ofRet ?_)))))))))
  refine KQ.fin2 Tryd.results12 rfl rfl ?_
  exact ⟨Wr.tupR (by rw [Wd.E70 ⟨by decide, by decide⟩, Wr.low32, Wr.low32]; apply Wr.pair; rw [Wr.bel32]; rfl), o0⟩

set_option maxRecDepth 100000 in
set_option maxHeartbeats 4000000 in
theorem rDo_73 {H : Heap} (a b : Nat) (ha : a < 18446744073709551616) (hb : b < 18446744073709551616) : Ct Tryd.prog 12 [.int .u8 73, .int .u64 (a : Nat), .int .u64 (b : Nat)] H (fun u H' => u = .tuple #[.int .u64 (Wd.E 73 a b).1, .int .u8 (Wd.E 73 a b).2] ∧ Old H H') := by
  refine Ct.mk Tryd.func12 rfl Tryd.ntmps12 rfl ?_
  intro W0 hW0
  have o0 : Old H H := Old.refl H
  refine KC.seq (KC.region (KL.op (R.assign rfl rfl) rfl rfl rfl (KL.op (R.assign rfl rfl) rfl rfl rfl (KL.nil (KQ.seq (KC.seq (KC.region (KL.op (R.move rfl rfl) rfl rfl rfl ?_))))))))
  refine KL.call rfl rfl rfl rfl Tryd.call21 rfl rfl rfl (num_73) ?_
  rintro _ _ ⟨rfl, rfl⟩
  refine KL.op (R.move rfl rfl) rfl rfl rfl (KL.op (R.extract rfl rfl rfl) rfl rfl rfl (KL.op (R.extract rfl rfl rfl) rfl rfl rfl (KL.op (R.extract rfl rfl rfl) rfl rfl rfl (KL.op (R.assign rfl rfl) rfl rfl rfl (KL.op (R.assign rfl rfl) rfl rfl rfl (KL.op (R.assign rfl rfl) rfl rfl rfl (KL.nil (KQ.seq (KC.seq ?_)))))))))
  refine KC.region (KL.op (R.move rfl rfl) rfl rfl rfl (KL.op (R.move rfl rfl) rfl rfl rfl (KL.op (R.assign rfl rfl) rfl rfl rfl (KL.op (R.assign rfl rfl) rfl rfl rfl (KL.nil (KQ.seq (KC.seq (KC.seq (KC.region ?_)))))))))
  refine KL.op (R.move rfl rfl) rfl rfl rfl ?_
  refine KL.op ((R.eql rfl rfl rfl).val (congrArg Value.bool (decide_eq_true (by rfl)))) rfl rfl rfl ?_
  refine KL.nil (KQ.seq (KC.condT rfl (KC.seq (KC.region (KL.op (R.move rfl rfl) rfl rfl rfl ?_)))))
  refine KL.call rfl rfl rfl rfl Tryd.call22 rfl rfl rfl (cutN32 a ha) ?_
  rintro _ _ ⟨rfl, rfl⟩
  refine KL.op (R.assign rfl rfl) rfl rfl rfl (KL.nil (KQ.seq (KC.region (KL.op (R.move rfl rfl) rfl rfl rfl ?_))))
  refine KL.call rfl rfl rfl rfl Tryd.call22 rfl rfl rfl (cutN32 b hb) ?_
  rintro _ _ ⟨rfl, rfl⟩
  refine KL.op (R.assign rfl rfl) rfl rfl rfl (KL.nil (KQ.seq (KC.seq (KC.seq (KC.region (KL.op (R.move rfl rfl) rfl rfl rfl (KL.nil (KQ.seq (KC.block ?_)))))))))
  refine KC.seq (KC.region ?_)
  refine KL.op ((R.eql rfl rfl rfl).val (congrArg Value.bool (decide_eq_true (by rfl)))) rfl rfl rfl ?_
  refine KL.op (R.assign rfl rfl) rfl rfl rfl (KL.nil (KQ.seq (KC.condT rfl (KC.seq (KC.region (KL.op (R.move rfl rfl) rfl rfl rfl (KL.op (R.move rfl rfl) rfl rfl rfl (KL.op (R.move rfl rfl) rfl rfl rfl ?_))))))))
  refine KL.call rfl rfl rfl rfl Tryd.call23 rfl rfl rfl (below32_k (a % 4294967296) (b % 4294967296) (by omega) (by omega)) ?_
  rintro _ _ ⟨rfl, rfl⟩
  refine KL.op (R.move rfl rfl) rfl rfl rfl (KL.op (R.move rfl rfl) rfl rfl rfl (KL.op (R.move rfl rfl) rfl rfl rfl ?_))
  refine KL.call rfl rfl rfl rfl Tryd.call23 rfl rfl rfl (below32_k (b % 4294967296) (a % 4294967296) (by omega) (by omega)) ?_
  rintro _ _ ⟨rfl, rfl⟩
  refine KL.op (R.assign rfl rfl) rfl rfl rfl (KL.op (R.assign rfl rfl) rfl rfl rfl (KL.nil (KQ.seq (KC.seq (KC.seq (KC.region (KL.op (R.move rfl rfl) rfl rfl rfl ?_)))))))
  refine KL.op ((R.gtr rfl rfl rfl).val (congrArg Value.bool (decide_eq_true (by decide)))) rfl rfl rfl ?_
  refine KL.op (R.move rfl rfl) rfl rfl rfl (KL.op (R.move rfl rfl) rfl rfl rfl ?_)
  refine KL.op ((R.rem rfl rfl rfl (by decide) (by decide)).val (congrArg (Value.int .i64) (show (3 : Int) % 2 = 1 by decide))) rfl rfl rfl ?_
  refine KL.op ((R.eql rfl rfl rfl).val (congrArg Value.bool (decide_eq_true (by rfl)))) rfl rfl rfl ?_
  refine KL.op (R.pick rfl rfl rfl) rfl rfl rfl ?_
  refine KL.nil (KQ.seq (KC.condT rfl (KC.seq (KC.region (KL.op (R.move rfl rfl) rfl rfl rfl (KL.op (R.move rfl rfl) rfl rfl rfl ?_))))))
  refine KL.op (R.lss rfl rfl rfl) rfl rfl rfl ?_
  refine KL.op (R.assign rfl rfl) rfl rfl rfl (KL.nil (KQ.seq (KC.region (KL.op (R.move rfl rfl) rfl rfl rfl (KL.op (R.move rfl rfl) rfl rfl rfl ?_)))))
  refine KL.op (R.lss rfl rfl rfl) rfl rfl rfl ?_
  refine KL.op (R.assign rfl rfl) rfl rfl rfl (KL.nil (KQ.seq (KC.seq (KC.seq (KC.region (KL.op (R.move rfl rfl) rfl rfl rfl (KL.nil (KQ.seq (KC.block ?_)))))))))
  refine KC.seq (KC.region ?_)
  refine KL.op ((R.eql rfl rfl rfl).val (congrArg Value.bool (decide_eq_false (by decide)))) rfl rfl rfl ?_
  refine KL.op (R.assign rfl rfl) rfl rfl rfl (KL.nil (KQ.seq (KC.condF rfl (KC.seq (KC.region ?_)))))
  refine KL.op ((R.eql rfl rfl rfl).val (congrArg Value.bool (decide_eq_false (by decide)))) rfl rfl rfl ?_
  refine KL.op (R.assign rfl rfl) rfl rfl rfl (KL.nil (KQ.seq (KC.condF rfl (KC.seq (KC.seq (KC.region ?_))))))
  refine KL.op ((R.eql rfl rfl rfl).val (congrArg Value.bool (decide_eq_false (by decide)))) rfl rfl rfl ?_
  refine KL.op (R.assign rfl rfl) rfl rfl rfl (KL.nil (KQ.seq (KC.condF rfl (KC.region ?_))))
  refine KL.op ((R.eql rfl rfl rfl).val (congrArg Value.bool (decide_eq_true (by rfl)))) rfl rfl rfl ?_
  refine KL.op (R.assign rfl rfl) rfl rfl rfl (KL.nil (KQ.seq (KC.condT rfl (KC.seq (KC.region (KL.op (R.move rfl rfl) rfl rfl rfl ?_))))))
  refine KL.call rfl rfl rfl rfl Tryd.call24 rfl rfl rfl (rone_k _) ?_
  rintro _ _ ⟨rfl, rfl⟩
  refine KL.op (R.assign rfl rfl) rfl rfl rfl (KL.op (R.assign rfl rfl) rfl rfl rfl (KL.nil (KQ.seq (KC.ret (KQ.retBlock (KQ.retThen (KQ.retBlock (KQ.retThen (KQ.ofRet ?_)))))))))
  refine KQ.fin2 Tryd.results12 rfl rfl ?_
  exact ⟨Wr.tupR (by rw [Wd.E70 ⟨by decide, by decide⟩, Wr.low32, Wr.low32]; apply Wr.pair; rfl), o0⟩

set_option maxRecDepth 100000 in
set_option maxHeartbeats 4000000 in
theorem rDo_74 {H : Heap} (a b : Nat) (ha : a < 18446744073709551616) (hb : b < 18446744073709551616) : Ct Tryd.prog 12 [.int .u8 74, .int .u64 (a : Nat), .int .u64 (b : Nat)] H (fun u H' => u = .tuple #[.int .u64 (Wd.E 74 a b).1, .int .u8 (Wd.E 74 a b).2] ∧ Old H H') := by
  refine Ct.mk Tryd.func12 rfl Tryd.ntmps12 rfl ?_
  intro W0 hW0
  have o0 : Old H H := Old.refl H
  refine KC.seq (KC.region (KL.op (R.assign rfl rfl) rfl rfl rfl (KL.op (R.assign rfl rfl) rfl rfl rfl (KL.nil (KQ.seq (KC.seq (KC.region (KL.op (R.move rfl rfl) rfl rfl rfl ?_))))))))
  refine KL.call rfl rfl rfl rfl Tryd.call21 rfl rfl rfl (num_74) ?_
  rintro _ _ ⟨rfl, rfl⟩
  refine KL.op (R.move rfl rfl) rfl rfl rfl (KL.op (R.extract rfl rfl rfl) rfl rfl rfl (KL.op (R.extract rfl rfl rfl) rfl rfl rfl (KL.op (R.extract rfl rfl rfl) rfl rfl rfl (KL.op (R.assign rfl rfl) rfl rfl rfl (KL.op (R.assign rfl rfl) rfl rfl rfl (KL.op (R.assign rfl rfl) rfl rfl rfl (KL.nil (KQ.seq (KC.seq ?_)))))))))
  refine KC.region (KL.op (R.move rfl rfl) rfl rfl rfl (KL.op (R.move rfl rfl) rfl rfl rfl (KL.op (R.assign rfl rfl) rfl rfl rfl (KL.op (R.assign rfl rfl) rfl rfl rfl (KL.nil (KQ.seq (KC.seq (KC.seq (KC.region ?_)))))))))
  refine KL.op (R.move rfl rfl) rfl rfl rfl ?_
  refine KL.op ((R.eql rfl rfl rfl).val (congrArg Value.bool (decide_eq_true (by rfl)))) rfl rfl rfl ?_
  refine KL.nil (KQ.seq (KC.condT rfl (KC.seq (KC.region (KL.op (R.move rfl rfl) rfl rfl rfl ?_)))))
  refine KL.call rfl rfl rfl rfl Tryd.call22 rfl rfl rfl (cutN32 a ha) ?_
  rintro _ _ ⟨rfl, rfl⟩
  refine KL.op (R.assign rfl rfl) rfl rfl rfl (KL.nil (KQ.seq (KC.region (KL.op (R.move rfl rfl) rfl rfl rfl ?_))))
  refine KL.call rfl rfl rfl rfl Tryd.call22 rfl rfl rfl (cutN32 b hb) ?_
  rintro _ _ ⟨rfl, rfl⟩
  refine KL.op (R.assign rfl rfl) rfl rfl rfl (KL.nil (KQ.seq (KC.seq (KC.seq (KC.region (KL.op (R.move rfl rfl) rfl rfl rfl (KL.nil (KQ.seq (KC.block ?_)))))))))
  refine KC.seq (KC.region ?_)
  refine KL.op ((R.eql rfl rfl rfl).val (congrArg Value.bool (decide_eq_true (by rfl)))) rfl rfl rfl ?_
  refine KL.op (R.assign rfl rfl) rfl rfl rfl (KL.nil (KQ.seq (KC.condT rfl (KC.seq (KC.region (KL.op (R.move rfl rfl) rfl rfl rfl (KL.op (R.move rfl rfl) rfl rfl rfl (KL.op (R.move rfl rfl) rfl rfl rfl ?_))))))))
  refine KL.call rfl rfl rfl rfl Tryd.call23 rfl rfl rfl (below32_k (a % 4294967296) (b % 4294967296) (by omega) (by omega)) ?_
  rintro _ _ ⟨rfl, rfl⟩
  refine KL.op (R.move rfl rfl) rfl rfl rfl (KL.op (R.move rfl rfl) rfl rfl rfl (KL.op (R.move rfl rfl) rfl rfl rfl ?_))
  refine KL.call rfl rfl rfl rfl Tryd.call23 rfl rfl rfl (below32_k (b % 4294967296) (a % 4294967296) (by omega) (by omega)) ?_
  rintro _ _ ⟨rfl, rfl⟩
  refine KL.op (R.assign rfl rfl) rfl rfl rfl (KL.op (R.assign rfl rfl) rfl rfl rfl (KL.nil (KQ.seq (KC.seq (KC.seq (KC.region (KL.op (R.move rfl rfl) rfl rfl rfl ?_)))))))
  refine KL.op ((R.gtr rfl rfl rfl).val (congrArg Value.bool (decide_eq_true (by decide)))) rfl rfl rfl ?_
  refine KL.op (R.move rfl rfl) rfl rfl rfl (KL.op (R.move rfl rfl) rfl rfl rfl ?_)
  refine KL.op ((R.rem rfl rfl rfl (by decide) (by decide)).val (congrArg (Value.int .i64) (show (4 : Int) % 2 = 0 by decide))) rfl rfl rfl ?_
  refine KL.op ((R.eql rfl rfl rfl).val (congrArg Value.bool (decide_eq_false (by decide)))) rfl rfl rfl ?_
  refine KL.op (R.pick rfl rfl rfl) rfl rfl rfl ?_
  refine KL.nil (KQ.seq (KC.condF rfl ?_))
  refine KC.skip ?_
  refine KQ.seq (KC.seq (KC.seq (KC.region (KL.op (R.move rfl rfl) rfl rfl rfl (KL.nil (KQ.seq (KC.block (KC.seq (KC.region ?_)))))))))
  refine KL.op ((R.eql rfl rfl rfl).val (congrArg Value.bool (decide_eq_false (by decide)))) rfl rfl rfl ?_
  refine KL.op (R.assign rfl rfl) rfl rfl rfl (KL.nil (KQ.seq (KC.condF rfl (KC.seq (KC.region ?_)))))
  refine KL.op ((R.eql rfl rfl rfl).val (congrArg Value.bool (decide_eq_false (by decide)))) rfl rfl rfl ?_
  refine KL.op (R.assign rfl rfl) rfl rfl rfl (KL.nil (KQ.seq (KC.condF rfl (KC.seq (KC.seq (KC.region ?_))))))
  refine KL.op ((R.eql rfl rfl rfl).val (congrArg Value.bool (decide_eq_false (by decide)))) rfl rfl rfl ?_
  refine KL.op (R.assign rfl rfl) rfl rfl rfl (KL.nil (KQ.seq (KC.condF rfl (KC.region ?_))))
  refine KL.op ((R.eql rfl rfl rfl).val (congrArg Value.bool (decide_eq_false (by decide)))) rfl rfl rfl ?_
  refine KL.op (R.assign rfl rfl) rfl rfl rfl (KL.nil (KQ.seq (KC.condF rfl (KC.seq (KC.seq (KC.region ?_))))))
  refine KL.op ((R.eql rfl rfl rfl).val (congrArg Value.bool (decide_eq_true (by rfl)))) rfl rfl rfl ?_
  refine KL.op (R.assign rfl rfl) rfl rfl rfl (KL.nil (KQ.seq (KC.condT rfl ?_)))
  refine KC.skip ?_
  refine KQ.seq (KC.condT rfl (KC.seq (KC.region (KL.op (R.move rfl rfl) rfl rfl rfl ?_))))
  refine KL.call rfl rfl rfl rfl Tryd.call24 rfl rfl rfl (rone_k _) ?_
  rintro _ _ ⟨rfl, rfl⟩
  refine KL.op (R.assign rfl rfl) rfl rfl rfl (KL.op (R.assign rfl rfl) rfl rfl rfl (KL.nil (KQ.seq (KC.ret (KQ.retBlock (KQ.retThen (KQ.retBlock (KQ.retThen (KQ.ofRet ?_)))))))))
  refine KQ.fin2 Tryd.results12 rfl rfl ?_
  exact ⟨Wr.tupR (by rw [Wd.E70 ⟨by decide, by decide⟩, Wr.low32, Wr.low32]; apply Wr.pair; rw [Wr.bel32]; rfl), o0⟩

set_option maxRecDepth 100000 in
set_option maxHeartbeats 4000000 in
theorem rDo_75 {H : Heap} (a b : Nat) (ha : a < 18446744073709551616) (hb : b < 18446744073709551616) : Ct Tryd.prog 12 [.int .u8 75, .int .u64 (a : Nat), .int .u64 (b : Nat)] H (fun u H' => u = .tuple #[.int .u64 (Wd.E 75 a b).1, .int .u8 (Wd.E 75 a b).2] ∧ Old H H') := by
  refine Ct.mk Tryd.func12 rfl Tryd.ntmps12 rfl ?_
  intro W0 hW0
  have o0 : Old H H := Old.refl H
  refine KC.seq (KC.region (KL.op (R.assign rfl rfl) rfl rfl rfl (KL.op (R.assign rfl rfl) rfl rfl rfl (KL.nil (KQ.seq (KC.seq (KC.region (KL.op (R.move rfl rfl) rfl rfl rfl ?_))))))))
  refine KL.call rfl rfl rfl rfl Tryd.call21 rfl rfl rfl (num_75) ?_
  rintro _ _ ⟨rfl, rfl⟩
  refine KL.op (R.move rfl rfl) rfl rfl rfl (KL.op (R.extract rfl rfl rfl) rfl rfl rfl (KL.op (R.extract rfl rfl rfl) rfl rfl rfl (KL.op (R.extract rfl rfl rfl) rfl rfl rfl (KL.op (R.assign rfl rfl) rfl rfl rfl (KL.op (R.assign rfl rfl) rfl rfl rfl (KL.op (R.assign rfl rfl) rfl rfl rfl (KL.nil (KQ.seq (KC.seq ?_)))))))))
  refine KC.region (KL.op (R.move rfl rfl) rfl rfl rfl (KL.op (R.move rfl rfl) rfl rfl rfl (KL.op (R.assign rfl rfl) rfl rfl rfl (KL.op (R.assign rfl rfl) rfl rfl rfl (KL.nil (KQ.seq (KC.seq (KC.seq (KC.region ?_)))))))))
  refine KL.op (R.move rfl rfl) rfl rfl rfl ?_
  refine KL.op ((R.eql rfl rfl rfl).val (congrArg Value.bool (decide_eq_true (by rfl)))) rfl rfl rfl ?_
  refine KL.nil (KQ.seq (KC.condT rfl (KC.seq (KC.region (KL.op (R.move rfl rfl) rfl rfl rfl ?_)))))
  refine KL.call rfl rfl rfl rfl Tryd.call22 rfl rfl rfl (cutN32 a ha) ?_
  rintro _ _ ⟨rfl, rfl⟩
  refine KL.op (R.assign rfl rfl) rfl rfl rfl (KL.nil (KQ.seq (KC.region (KL.op (R.move rfl rfl) rfl rfl rfl ?_))))
  refine KL.call rfl rfl rfl rfl Tryd.call22 rfl rfl rfl (cutN32 b hb) ?_
  rintro _ _ ⟨rfl, rfl⟩
  refine KL.op (R.assign rfl rfl) rfl rfl rfl (KL.nil (KQ.seq (KC.seq (KC.seq (KC.region (KL.op (R.move rfl rfl) rfl rfl rfl (KL.nil (KQ.seq (KC.block ?_)))))))))
  refine KC.seq (KC.region ?_)
  refine KL.op ((R.eql rfl rfl rfl).val (congrArg Value.bool (decide_eq_true (by rfl)))) rfl rfl rfl ?_
  refine KL.op (R.assign rfl rfl) rfl rfl rfl (KL.nil (KQ.seq (KC.condT rfl (KC.seq (KC.region (KL.op (R.move rfl rfl) rfl rfl rfl (KL.op (R.move rfl rfl) rfl rfl rfl (KL.op (R.move rfl rfl) rfl rfl rfl ?_))))))))
  refine KL.call rfl rfl rfl rfl Tryd.call23 rfl rfl rfl (below32_k (a % 4294967296) (b % 4294967296) (by omega) (by omega)) ?_
  rintro _ _ ⟨rfl, rfl⟩
  refine KL.op (R.move rfl rfl) rfl rfl rfl (KL.op (R.move rfl rfl) rfl rfl rfl (KL.op (R.move rfl rfl) rfl rfl rfl ?_))
  refine KL.call rfl rfl rfl rfl Tryd.call23 rfl rfl rfl (below32_k (b % 4294967296) (a % 4294967296) (by omega) (by omega)) ?_
  rintro _ _ ⟨rfl, rfl⟩
  refine KL.op (R.assign rfl rfl) rfl rfl rfl (KL.op (R.assign rfl rfl) rfl rfl rfl (KL.nil (KQ.seq (KC.seq (KC.seq (KC.region (KL.op (R.move rfl rfl) rfl rfl rfl ?_)))))))
  refine KL.op ((R.gtr rfl rfl rfl).val (congrArg Value.bool (decide_eq_true (by decide)))) rfl rfl rfl ?_
  refine KL.op (R.move rfl rfl) rfl rfl rfl (KL.op (R.move rfl rfl) rfl rfl rfl ?_)
  refine KL.op ((R.rem rfl rfl rfl (by decide) (by decide)).val (congrArg (Value.int .i64) (show (5 : Int) % 2 = 1 by decide))) rfl rfl rfl ?_
  refine KL.op ((R.eql rfl rfl rfl).val (congrArg Value.bool (decide_eq_true (by rfl)))) rfl rfl rfl ?_
  refine KL.op (R.pick rfl rfl rfl) rfl rfl rfl ?_
  refine KL.nil (KQ.seq (KC.condT rfl (KC.seq (KC.region (KL.op (R.move rfl rfl) rfl rfl rfl (KL.op (R.move rfl rfl) rfl rfl rfl ?_))))))
  refine KL.op (R.lss rfl rfl rfl) rfl rfl rfl ?_
  refine KL.op (R.assign rfl rfl) rfl rfl rfl (KL.nil (KQ.seq (KC.region (KL.op (R.move rfl rfl) rfl rfl rfl (KL.op (R.move rfl rfl) rfl rfl rfl ?_)))))
  refine KL.op (R.lss rfl rfl rfl) rfl rfl rfl ?_
  refine KL.op (R.assign rfl rfl) rfl rfl rfl (KL.nil (KQ.seq (KC.seq (KC.seq (KC.region (KL.op (R.move rfl rfl) rfl rfl rfl (KL.nil (KQ.seq (KC.block ?_)))))))))
  refine KC.seq (KC.region ?_)
  refine KL.op ((R.eql rfl rfl rfl).val (congrArg Value.bool (decide_eq_false (by decide)))) rfl rfl rfl ?_
  refine KL.op (R.assign rfl rfl) rfl rfl rfl (KL.nil (KQ.seq (KC.condF rfl (KC.seq (KC.region ?_)))))
  refine KL.op ((R.eql rfl rfl rfl).val (congrArg Value.bool (decide_eq_false (by decide)))) rfl rfl rfl ?_
  refine KL.op (R.assign rfl rfl) rfl rfl rfl (KL.nil (KQ.seq (KC.condF rfl (KC.seq (KC.seq (KC.region ?_))))))
  refine KL.op ((R.eql rfl rfl rfl).val (congrArg Value.bool (decide_eq_false (by decide)))) rfl rfl rfl ?_
  refine KL.op (R.assign rfl rfl) rfl rfl rfl (KL.nil (KQ.seq (KC.condF rfl (KC.region ?_))))
  refine KL.op ((R.eql rfl rfl rfl).val (congrArg Value.bool (decide_eq_false (by decide)))) rfl rfl rfl ?_
  refine KL.op (R.assign rfl rfl) rfl rfl rfl (KL.nil (KQ.seq (KC.condF rfl (KC.seq (KC.seq (KC.region ?_))))))
  refine KL.op ((R.eql rfl rfl rfl).val (congrArg Value.bool (decide_eq_false (by decide)))) rfl rfl rfl ?_
  refine KL.op (R.assign rfl rfl) rfl rfl rfl (KL.nil (KQ.seq (KC.condF rfl (KC.region ?_))))
  refine KL.op ((R.eql rfl rfl rfl).val (congrArg Value.bool (decide_eq_true (by rfl)))) rfl rfl rfl ?_
  refine KL.op (R.assign rfl rfl) rfl rfl rfl (KL.nil (KQ.seq (KC.condT rfl (KC.seq (KC.region (KL.op (R.move rfl rfl) rfl rfl rfl ?_))))))
  refine KL.call rfl rfl rfl rfl Tryd.call24 rfl rfl rfl (rone_k _) ?_
  rintro _ _ ⟨rfl, rfl⟩
  refine KL.op (R.assign rfl rfl) rfl rfl rfl (KL.op (R.assign rfl rfl) rfl rfl rfl (KL.nil (KQ.seq (KC.ret (KQ.retBlock (KQ.retThen (KQ.retBlock (KQ.retThen (KQ.ofRet ?_)))))))))
  refine KQ.fin2 Tryd.results12 rfl rfl ?_
  exact ⟨Wr.tupR (by rw [Wd.E70 ⟨by decide, by decide⟩, Wr.low32, Wr.low32]; apply Wr.pair; rfl), o0⟩

set_option maxRecDepth 100000 in
set_option maxHeartbeats 4000000 in
theorem rDo_76 {H : Heap} (a b : Nat) (ha : a < 18446744073709551616) (hb : b < 18446744073709551616) : Ct Tryd.prog 12 [.int .u8 76, .int .u64 (a : Nat), .int .u64 (b : Nat)] H (fun u H' => u = .tuple #[.int .u64 (Wd.E 76 a b).1, .int .u8 (Wd.E 76 a b).2] ∧ Old H H') := by
  refine Ct.mk Tryd.func12 rfl Tryd.ntmps12 rfl ?_
  intro W0 hW0
  have o0 : Old H H := Old.refl H
  refine KC.seq (KC.region (KL.op (R.assign rfl rfl) rfl rfl rfl (KL.op (R.assign rfl rfl) rfl rfl rfl (KL.nil (KQ.seq (KC.seq (KC.region (KL.op (R.move rfl rfl) rfl rfl rfl ?_))))))))
  refine KL.call rfl rfl rfl rfl Tryd.call21 rfl rfl rfl (num_76) ?_
  rintro _ _ ⟨rfl, rfl⟩
  refine KL.op (R.move rfl rfl) rfl rfl rfl (KL.op (R.extract rfl rfl rfl) rfl rfl rfl (KL.op (R.extract rfl rfl rfl) rfl rfl rfl (KL.op (R.extract rfl rfl rfl) rfl rfl rfl (KL.op (R.assign rfl rfl) rfl rfl rfl (KL.op (R.assign rfl rfl) rfl rfl rfl (KL.op (R.assign rfl rfl) rfl rfl rfl (KL.nil (KQ.seq (KC.seq ?_)))))))))
  refine KC.region (KL.op (R.move rfl rfl) rfl rfl rfl (KL.op (R.move rfl rfl) rfl rfl rfl (KL.op (R.assign rfl rfl) rfl rfl rfl (KL.op (R.assign rfl rfl) rfl rfl rfl (KL.nil (KQ.seq (KC.seq (KC.seq (KC.region ?_)))))))))
  refine KL.op (R.move rfl rfl) rfl rfl rfl ?_
  refine KL.op ((R.eql rfl rfl rfl).val (congrArg Value.bool (decide_eq_true (by rfl)))) rfl rfl rfl ?_
  refine KL.nil (KQ.seq (KC.condT rfl (KC.seq (KC.region (KL.op (R.move rfl rfl) rfl rfl rfl ?_)))))
  refine KL.call rfl rfl rfl rfl Tryd.call22 rfl rfl rfl (cutN32 a ha) ?_
  rintro _ _ ⟨rfl, rfl⟩
  refine KL.op (R.assign rfl rfl) rfl rfl rfl (KL.nil (KQ.seq (KC.region (KL.op (R.move rfl rfl) rfl rfl rfl ?_))))
  refine KL.call rfl rfl rfl rfl Tryd.call22 rfl rfl rfl (cutN32 b hb) ?_
  rintro _ _ ⟨rfl, rfl⟩
  refine KL.op (R.assign rfl rfl) rfl rfl rfl (KL.nil (KQ.seq (KC.seq (KC.seq (KC.region (KL.op (R.move rfl rfl) rfl rfl rfl (KL.nil (KQ.seq (KC.block ?_)))))))))
  refine KC.seq (KC.region ?_)
  refine KL.op ((R.eql rfl rfl rfl).val (congrArg Value.bool (decide_eq_true (by rfl)))) rfl rfl rfl ?_
  refine KL.op (R.assign rfl rfl) rfl rfl rfl (KL.nil (KQ.seq (KC.condT rfl (KC.seq (KC.region (KL.op (R.move rfl rfl) rfl rfl rfl (KL.op (R.move rfl rfl) rfl rfl rfl (KL.op (R.move rfl rfl) rfl rfl rfl ?_))))))))
  refine KL.call rfl rfl rfl rfl Tryd.call23 rfl rfl rfl (below32_k (a % 4294967296) (b % 4294967296) (by omega) (by omega)) ?_
  rintro _ _ ⟨rfl, rfl⟩
  refine KL.op (R.move rfl rfl) rfl rfl rfl (KL.op (R.move rfl rfl) rfl rfl rfl (KL.op (R.move rfl rfl) rfl rfl rfl ?_))
  refine KL.call rfl rfl rfl rfl Tryd.call23 rfl rfl rfl (below32_k (b % 4294967296) (a % 4294967296) (by omega) (by omega)) ?_
  rintro _ _ ⟨rfl, rfl⟩
  refine KL.op (R.assign rfl rfl) rfl rfl rfl (KL.op (R.assign rfl rfl) rfl rfl rfl (KL.nil (KQ.seq (KC.seq (KC.seq (KC.region (KL.op (R.move rfl rfl) rfl rfl rfl ?_)))))))
  refine KL.op ((R.gtr rfl rfl rfl).val (congrArg Value.bool (decide_eq_true (by decide)))) rfl rfl rfl ?_
  refine KL.op (R.move rfl rfl) rfl rfl rfl (KL.op (R.move rfl rfl) rfl rfl rfl ?_)
  refine KL.op ((R.rem rfl rfl rfl (by decide) (by decide)).val (congrArg (Value.int .i64) (show (6 : Int) % 2 = 0 by decide))) rfl rfl rfl ?_
  refine KL.op ((R.eql rfl rfl rfl).val (congrArg Value.bool (decide_eq_false (by decide)))) rfl rfl rfl ?_
  refine KL.op (R.pick rfl rfl rfl) rfl rfl rfl ?_
  refine KL.nil (KQ.seq (KC.condF rfl ?_))
  refine KC.skip ?_
  refine KQ.seq (KC.seq (KC.seq (KC.region (KL.op (R.move rfl rfl) rfl rfl rfl (KL.nil (KQ.seq (KC.block (KC.seq (KC.region ?_)))))))))
  refine KL.op ((R.eql rfl rfl rfl).val (congrArg Value.bool (decide_eq_false (by decide)))) rfl rfl rfl ?_
  refine KL.op (R.assign rfl rfl) rfl rfl rfl (KL.nil (KQ.seq (KC.condF rfl (KC.seq (KC.region ?_)))))
  refine KL.op ((R.eql rfl rfl rfl).val (congrArg Value.bool (decide_eq_false (by decide)))) rfl rfl rfl ?_
  refine KL.op (R.assign rfl rfl) rfl rfl rfl (KL.nil (KQ.seq (KC.condF rfl (KC.seq (KC.seq (KC.region ?_))))))
  refine KL.op ((R.eql rfl rfl rfl).val (congrArg Value.bool (decide_eq_false (by decide)))) rfl rfl rfl ?_
  refine KL.op (R.assign rfl rfl) rfl rfl rfl (KL.nil (KQ.seq (KC.condF rfl (KC.region ?_))))
  refine KL.op ((R.eql rfl rfl rfl).val (congrArg Value.bool (decide_eq_false (by decide)))) rfl rfl rfl ?_
  refine KL.op (R.assign rfl rfl) rfl rfl rfl (KL.nil (KQ.seq (KC.condF rfl (KC.seq (KC.seq (KC.region ?_))))))
  refine KL.op ((R.eql rfl rfl rfl).val (congrArg Value.bool (decide_eq_false (by decide)))) rfl rfl rfl ?_
  refine KL.op (R.assign rfl rfl) rfl rfl rfl (KL.nil (KQ.seq (KC.condF rfl (KC.region ?_))))
  refine KL.op ((R.eql rfl rfl rfl).val (congrArg Value.bool (decide_eq_false (by decide)))) rfl rfl rfl ?_
  refine KL.op (R.assign rfl rfl) rfl rfl rfl (KL.nil (KQ.seq (KC.condF rfl (KC.seq (KC.seq (KC.region ?_))))))
  refine KL.op ((R.eql rfl rfl rfl).val (congrArg Value.bool (decide_eq_true (by rfl)))) rfl rfl rfl ?_
  refine KL.op (R.assign rfl rfl) rfl rfl rfl (KL.nil (KQ.seq (KC.condT rfl ?_)))
  refine KC.skip ?_
  refine KQ.seq (KC.condT rfl (KC.seq (KC.region (KL.op (R.move rfl rfl) rfl rfl rfl ?_))))
  refine KL.op (R.not rfl rfl) rfl rfl rfl ?_
  refine KL.call rfl rfl rfl rfl Tryd.call24 rfl rfl rfl (rone_k _) ?_
  rintro _ _ ⟨rfl, rfl⟩
  refine KL.op (R.assign rfl rfl) rfl rfl rfl (KL.op (R.assign rfl rfl) rfl rfl rfl (KL.nil (KQ.seq (KC.ret (KQ.retBlock (KQ.retThen (KQ.retBlock (KQ.retThen (KQ.ofRet ?_)))))))))
  refine KQ.fin2 Tryd.results12 rfl rfl ?_
  exact ⟨Wr.tupR (by rw [Wd.E70 ⟨by decide, by decide⟩, Wr.low32, Wr.low32]; apply Wr.pair; rw [Wr.bel32, Wr.nlt]; rfl), o0⟩

set_option maxRecDepth 100000 in
set_option maxHeartbeats 4000000 in
theorem rDo_77 {H : Heap} (a b : Nat) (ha : a < 18446744073709551616) (hb : b < 18446744073709551616) : Ct Tryd.prog 12 [.int .u8 77, .int .u64 (a : Nat), .int .u64 (b : Nat)] H (fun u H' => u = .tuple #[.int .u64 (Wd.E 77 a b).1, .int .u8 (Wd.E 77 a b).2] ∧ Old H H') := by
  refine Ct.mk Tryd.func12 rfl Tryd.ntmps12 rfl ?_
  intro W0 hW0
  have o0 : Old H H := Old.refl H
  refine KC.seq (KC.region (KL.op (R.assign rfl rfl) rfl rfl rfl (KL.op (R.assign rfl rfl) rfl rfl rfl (KL.nil (KQ.seq (KC.seq (KC.region (KL.op (R.move rfl rfl) rfl rfl rfl ?_))))))))
  refine KL.call rfl rfl rfl rfl Tryd.call21 rfl rfl rfl (num_77) ?_
  rintro _ _ ⟨rfl, rfl⟩
  refine KL.op (R.move rfl rfl) rfl rfl rfl (KL.op (R.extract rfl rfl rfl) rfl rfl rfl (KL.op (R.extract rfl rfl rfl) rfl rfl rfl (KL.op (R.extract rfl rfl rfl) rfl rfl rfl (KL.op (R.assign rfl rfl) rfl rfl rfl (KL.op (R.assign rfl rfl) rfl rfl rfl (KL.op (R.assign rfl rfl) rfl rfl rfl (KL.nil (KQ.seq (KC.seq ?_)))))))))
  refine KC.region (KL.op (R.move rfl rfl) rfl rfl rfl (KL.op (R.move rfl rfl) rfl rfl rfl (KL.op (R.assign rfl rfl) rfl rfl rfl (KL.op (R.assign rfl rfl) rfl rfl rfl (KL.nil (KQ.seq (KC.seq (KC.seq (KC.region ?_)))))))))
  refine KL.op (R.move rfl rfl) rfl rfl rfl ?_
  refine KL.op ((R.eql rfl rfl rfl).val (congrArg Value.bool (decide_eq_true (by rfl)))) rfl rfl rfl ?_
  refine KL.nil (KQ.seq (KC.condT rfl (KC.seq (KC.region (KL.op (R.move rfl rfl) rfl rfl rfl ?_)))))
  refine KL.call rfl rfl rfl rfl Tryd.call22 rfl rfl rfl (cutN32 a ha) ?_
  rintro _ _ ⟨rfl, rfl⟩
  refine KL.op (R.assign rfl rfl) rfl rfl rfl (KL.nil (KQ.seq (KC.region (KL.op (R.move rfl rfl) rfl rfl rfl ?_))))
  refine KL.call rfl rfl rfl rfl Tryd.call22 rfl rfl rfl (cutN32 b hb) ?_
  rintro _ _ ⟨rfl, rfl⟩
  refine KL.op (R.assign rfl rfl) rfl rfl rfl (KL.nil (KQ.seq (KC.seq (KC.seq (KC.region (KL.op (R.move rfl rfl) rfl rfl rfl (KL.nil (KQ.seq (KC.block ?_)))))))))
  refine KC.seq (KC.region ?_)
  refine KL.op ((R.eql rfl rfl rfl).val (congrArg Value.bool (decide_eq_true (by rfl)))) rfl rfl rfl ?_
  refine KL.op (R.assign rfl rfl) rfl rfl rfl (KL.nil (KQ.seq (KC.condT rfl (KC.seq (KC.region (KL.op (R.move rfl rfl) rfl rfl rfl (KL.op (R.move rfl rfl) rfl rfl rfl (KL.op (R.move rfl rfl) rfl rfl rfl ?_))))))))
  refine KL.call rfl rfl rfl rfl Tryd.call23 rfl rfl rfl (below32_k (a % 4294967296) (b % 4294967296) (by omega) (by omega)) ?_
  rintro _ _ ⟨rfl, rfl⟩
  refine KL.op (R.move rfl rfl) rfl rfl rfl (KL.op (R.move rfl rfl) rfl rfl rfl (KL.op (R.move rfl rfl) rfl rfl rfl ?_))
  refine KL.call rfl rfl rfl rfl Tryd.call23 rfl rfl rfl (below32_k (b % 4294967296) (a % 4294967296) (by omega) (by omega)) ?_
  rintro _ _ ⟨rfl, rfl⟩
  refine KL.op (R.assign rfl rfl) rfl rfl rfl (KL.op (R.assign rfl rfl) rfl rfl rfl (KL.nil (KQ.seq (KC.seq (KC.seq (KC.region (KL.op (R.move rfl rfl) rfl rfl rfl ?_)))))))
  refine KL.op ((R.gtr rfl rfl rfl).val (congrArg Value.bool (decide_eq_true (by decide)))) rfl rfl rfl ?_
  refine KL.op (R.move rfl rfl) rfl rfl rfl (KL.op (R.move rfl rfl) rfl rfl rfl ?_)
  refine KL.op ((R.rem rfl rfl rfl (by decide) (by decide)).val (congrArg (Value.int .i64) (show (7 : Int) % 2 = 1 by decide))) rfl rfl rfl ?_
  refine KL.op ((R.eql rfl rfl rfl).val (congrArg Value.bool (decide_eq_true (by rfl)))) rfl rfl rfl ?_
  refine KL.op (R.pick rfl rfl rfl) rfl rfl rfl ?_
  refine KL.nil (KQ.seq (KC.condT rfl (KC.seq (KC.region (KL.op (R.move rfl rfl) rfl rfl rfl (KL.op (R.move rfl rfl) rfl rfl rfl ?_))))))
  refine KL.op (R.lss rfl rfl rfl) rfl rfl rfl ?_
  refine KL.op (R.assign rfl rfl) rfl rfl rfl (KL.nil (KQ.seq (KC.region (KL.op (R.move rfl rfl) rfl rfl rfl (KL.op (R.move rfl rfl) rfl rfl rfl ?_)))))
  refine KL.op (R.lss rfl rfl rfl) rfl rfl rfl ?_
  refine KL.op (R.assign rfl rfl) rfl rfl rfl (KL.nil (KQ.seq (KC.seq (KC.seq (KC.region (KL.op (R.move rfl rfl) rfl rfl rfl (KL.nil (KQ.seq (KC.block ?_)))))))))
  refine KC.seq (KC.region ?_)
  refine KL.op ((R.eql rfl rfl rfl).val (congrArg Value.bool (decide_eq_false (by decide)))) rfl rfl rfl ?_
  refine KL.op (R.assign rfl rfl) rfl rfl rfl (KL.nil (KQ.seq (KC.condF rfl (KC.seq (KC.region ?_)))))
  refine KL.op ((R.eql rfl rfl rfl).val (congrArg Value.bool (decide_eq_false (by decide)))) rfl rfl rfl ?_
  refine KL.op (R.assign rfl rfl) rfl rfl rfl (KL.nil (KQ.seq (KC.condF rfl (KC.seq (KC.seq (KC.region ?_))))))
  refine KL.op ((R.eql rfl rfl rfl).val (congrArg Value.bool (decide_eq_false (by decide)))) rfl rfl rfl ?_
  refine KL.op (R.assign rfl rfl) rfl rfl rfl (KL.nil (KQ.seq (KC.condF rfl (KC.region ?_))))
  refine KL.op ((R.eql rfl rfl rfl).val (congrArg Value.bool (decide_eq_false (by decide)))) rfl rfl rfl ?_
  refine KL.op (R.assign rfl rfl) rfl rfl rfl (KL.nil (KQ.seq (KC.condF rfl (KC.seq (KC.seq (KC.region ?_))))))
  refine KL.op ((R.eql rfl rfl rfl).val (congrArg Value.bool (decide_eq_false (by decide)))) rfl rfl rfl ?_
  refine KL.op (R.assign rfl rfl) rfl rfl rfl (KL.nil (KQ.seq (KC.condF rfl (KC.region ?_))))
  refine KL.op ((R.eql rfl rfl rfl).val (congrArg Value.bool (decide_eq_false (by decide)))) rfl rfl rfl ?_
  refine KL.op (R.assign rfl rfl) rfl rfl rfl (KL.nil (KQ.seq (KC.condF rfl (KC.seq (KC.seq (KC.region ?_))))))
  refine KL.op ((R.eql rfl rfl rfl).val (congrArg Value.bool (decide_eq_false (by decide)))) rfl rfl rfl ?_
  refine KL.op (R.assign rfl rfl) rfl rfl rfl (KL.nil (KQ.seq (KC.condF rfl (KC.region ?_))))
  refine KL.op ((R.eql rfl rfl rfl).val (congrArg Value.bool (decide_eq_true (by rfl)))) rfl rfl rfl ?_
  refine KL.op (R.assign rfl rfl) rfl rfl rfl (KL.nil (KQ.seq (KC.condT rfl (KC.seq (KC.region (KL.op (R.move rfl rfl) rfl rfl rfl ?_))))))
  refine KL.op (R.not rfl rfl) rfl rfl rfl ?_
  refine KL.call rfl rfl rfl rfl Tryd.call24 rfl rfl rfl (rone_k _) ?_
  rintro _ _ ⟨rfl, rfl⟩
  refine KL.op (R.assign rfl rfl) rfl rfl rfl (KL.op (R.assign rfl rfl) rfl rfl rfl (KL.nil (KQ.seq (KC.ret (KQ.retBlock (KQ.retThen (KQ.retBlock (KQ.retThen (KQ.ofRet ?_)))))))))
  refine KQ.fin2 Tryd.results12 rfl rfl ?_
  exact ⟨Wr.tupR (by rw [Wd.E70 ⟨by decide, by decide⟩, Wr.low32, Wr.low32]; apply Wr.pair; rw [Wr.nlt]; rfl), o0⟩

set_option maxRecDepth 100000 in
set_option maxHeartbeats 4000000 in
theorem rDo_78 {H : Heap} (a b : Nat) (ha : a < 18446744073709551616) (hb : b < 18446744073709551616) : Ct Tryd.prog 12 [.int .u8 78, .int .u64 (a : Nat), .int .u64 (b : Nat)] H (fun u H' => u = .tuple #[.int .u64 (Wd.E 78 a b).1, .int .u8 (Wd.E 78 a b).2] ∧ Old H H') := by
  refine Ct.mk Tryd.func12 rfl Tryd.ntmps12 rfl ?_
  intro W0 hW0
  have o0 : Old H H := Old.refl H
  refine KC.seq (KC.region (KL.op (R.assign rfl rfl) rfl rfl rfl (KL.op (R.assign rfl rfl) rfl rfl rfl (KL.nil (KQ.seq (KC.seq (KC.region (KL.op (R.move rfl rfl) rfl rfl rfl ?_))))))))
  refine KL.call rfl rfl rfl rfl Tryd.call21 rfl rfl rfl (num_78) ?_
  rintro _ _ ⟨rfl, rfl⟩
  refine KL.op (R.move rfl rfl) rfl rfl rfl (KL.op (R.extract rfl rfl rfl) rfl rfl rfl (KL.op (R.extract rfl rfl rfl) rfl rfl rfl (KL.op (R.extract rfl rfl rfl) rfl rfl rfl (KL.op (R.assign rfl rfl) rfl rfl rfl (KL.op (R.assign rfl rfl) rfl rfl rfl (KL.op (R.assign rfl rfl) rfl rfl rfl (KL.nil (KQ.seq (KC.seq ?_)))))))))
  refine KC.region (KL.op (R.move rfl rfl) rfl rfl rfl (KL.op (R.move rfl rfl) rfl rfl rfl (KL.op (R.assign rfl rfl) rfl rfl rfl (KL.op (R.assign rfl rfl) rfl rfl rfl (KL.nil (KQ.seq (KC.seq (KC.seq (KC.region ?_)))))))))
  refine KL.op (R.move rfl rfl) rfl rfl rfl ?_
  refine KL.op ((R.eql rfl rfl rfl).val (congrArg Value.bool (decide_eq_true (by rfl)))) rfl rfl rfl ?_
  refine KL.nil (KQ.seq (KC.condT rfl (KC.seq (KC.region (KL.op (R.move rfl rfl) rfl rfl rfl ?_)))))
  refine KL.call rfl rfl rfl rfl Tryd.call22 rfl rfl rfl (cutN32 a ha) ?_
  rintro _ _ ⟨rfl, rfl⟩
  refine KL.op (R.assign rfl rfl) rfl rfl rfl (KL.nil (KQ.seq (KC.region (KL.op (R.move rfl rfl) rfl rfl rfl ?_))))
  refine KL.call rfl rfl rfl rfl Tryd.call22 rfl rfl rfl (cutN32 b hb) ?_
  rintro _ _ ⟨rfl, rfl⟩
  refine KL.op (R.assign rfl rfl) rfl rfl rfl (KL.nil (KQ.seq (KC.seq (KC.seq (KC.region (KL.op (R.move rfl rfl) rfl rfl rfl (KL.nil (KQ.seq (KC.block ?_)))))))))
  refine KC.seq (KC.region ?_)
  refine KL.op ((R.eql rfl rfl rfl).val (congrArg Value.bool (decide_eq_true (by rfl)))) rfl rfl rfl ?_
  refine KL.op (R.assign rfl rfl) rfl rfl rfl (KL.nil (KQ.seq (KC.condT rfl (KC.seq (KC.region (KL.op (R.move rfl rfl) rfl rfl rfl (KL.op (R.move rfl rfl) rfl rfl rfl (KL.op (R.move rfl rfl) rfl rfl rfl ?_))))))))
  refine KL.call rfl rfl rfl rfl Tryd.call23 rfl rfl rfl (below32_k (a % 4294967296) (b % 4294967296) (by omega) (by omega)) ?_
  rintro _ _ ⟨rfl, rfl⟩
  refine KL.op (R.move rfl rfl) rfl rfl rfl (KL.op (R.move rfl rfl) rfl rfl rfl (KL.op (R.move rfl rfl) rfl rfl rfl ?_))
  refine KL.call rfl rfl rfl rfl Tryd.call23 rfl rfl rfl (below32_k (b % 4294967296) (a % 4294967296) (by omega) (by omega)) ?_
  rintro _ _ ⟨rfl, rfl⟩
  refine KL.op (R.assign rfl rfl) rfl rfl rfl (KL.op (R.assign rfl rfl) rfl rfl rfl (KL.nil (KQ.seq (KC.seq (KC.seq (KC.region (KL.op (R.move rfl rfl) rfl rfl rfl ?_)))))))
  refine KL.op ((R.gtr rfl rfl rfl).val (congrArg Value.bool (decide_eq_true (by decide)))) rfl rfl rfl ?_
  refine KL.op (R.move rfl rfl) rfl rfl rfl (KL.op (R.move rfl rfl) rfl rfl rfl ?_)
  refine KL.op ((R.rem rfl rfl rfl (by decide) (by decide)).val (congrArg (Value.int .i64) (show (8 : Int) % 2 = 0 by decide))) rfl rfl rfl ?_
  refine KL.op ((R.eql rfl rfl rfl).val (congrArg Value.bool (decide_eq_false (by decide)))) rfl rfl rfl ?_
  refine KL.op (R.pick rfl rfl rfl) rfl rfl rfl ?_
  refine KL.nil (KQ.seq (KC.condF rfl ?_))
  refine KC.skip ?_
  refine KQ.seq (KC.seq (KC.seq (KC.region (KL.op (R.move rfl rfl) rfl rfl rfl (KL.nil (KQ.seq (KC.block (KC.seq (KC.region ?_)))))))))
  refine KL.op ((R.eql rfl rfl rfl).val (congrArg Value.bool (decide_eq_false (by decide)))) rfl rfl rfl ?_
  refine KL.op (R.assign rfl rfl) rfl rfl rfl (KL.nil (KQ.seq (KC.condF rfl (KC.seq (KC.region ?_)))))
  refine KL.op ((R.eql rfl rfl rfl).val (congrArg Value.bool (decide_eq_false (by decide)))) rfl rfl rfl ?_
  refine KL.op (R.assign rfl rfl) rfl rfl rfl (KL.nil (KQ.seq (KC.condF rfl (KC.seq (KC.seq (KC.region ?_))))))
  refine KL.op ((R.eql rfl rfl rfl).val (congrArg Value.bool (decide_eq_false (by decide)))) rfl rfl rfl ?_
  refine KL.op (R.assign rfl rfl) rfl rfl rfl (KL.nil (KQ.seq (KC.condF rfl (KC.region ?_))))
  refine KL.op ((R.eql rfl rfl rfl).val (congrArg Value.bool (decide_eq_false (by decide)))) rfl rfl rfl ?_
  refine KL.op (R.assign rfl rfl) rfl rfl rfl (KL.nil (KQ.seq (KC.condF rfl (KC.seq (KC.seq (KC.region ?_))))))
  refine KL.op ((R.eql rfl rfl rfl).val (congrArg Value.bool (decide_eq_false (by decide)))) rfl rfl rfl ?_
  refine KL.op (R.assign rfl rfl) rfl rfl rfl (KL.nil (KQ.seq (KC.condF rfl (KC.region ?_))))
  refine KL.op ((R.eql rfl rfl rfl).val (congrArg Value.bool (decide_eq_false (by decide)))) rfl rfl rfl ?_
  refine KL.op (R.assign rfl rfl) rfl rfl rfl (KL.nil (KQ.seq (KC.condF rfl (KC.seq (KC.seq (KC.region ?_))))))
  refine KL.op ((R.eql rfl rfl rfl).val (congrArg Value.bool (decide_eq_false (by decide)))) rfl rfl rfl ?_
  refine KL.op (R.assign rfl rfl) rfl rfl rfl (KL.nil (KQ.seq (KC.condF rfl (KC.region ?_))))
  refine KL.op ((R.eql rfl rfl rfl).val (congrArg Value.bool (decide_eq_false (by decide)))) rfl rfl rfl ?_
  refine KL.op (R.assign rfl rfl) rfl rfl rfl (KL.nil (KQ.seq (KC.condF rfl ?_)))
  refine KC.skip ?_
  refine KQ.normBlock (KQ.seq (KC.seq (KC.region (KL.op (R.move rfl rfl) rfl rfl rfl ?_))))
  refine KL.op (R.not rfl rfl) rfl rfl rfl ?_
  refine KL.call rfl rfl rfl rfl Tryd.call24 rfl rfl rfl (rone_k _) ?_
  rintro _ _ ⟨rfl, rfl⟩
  refine KL.op (R.assign rfl rfl) rfl rfl rfl (KL.op (R.assign rfl rfl) rfl rfl rfl (KL.nil (KQ.seq (KC.ret (KQ.retBlock (KQ.retThen (KQ.ofRet ?_)))))))
  refine KQ.fin2 Tryd.results12 rfl rfl ?_
  exact ⟨Wr.tupR (by rw [Wd.E70 ⟨by decide, by decide⟩, Wr.low32, Wr.low32]; apply Wr.pair; rw [Wr.bel32, Wr.nlt]; rfl), o0⟩

set_option maxRecDepth 100000 in
set_option maxHeartbeats 4000000 in
theorem rDo_79 {H : Heap} (a b : Nat) (ha : a < 18446744073709551616) (hb : b < 18446744073709551616) : Ct Tryd.prog 12 [.int .u8 79, .int .u64 (a : Nat), .int .u64 (b : Nat)] H (fun u H' => u = .tuple #[.int .u64 (Wd.E 79 a b).1, .int .u8 (Wd.E 79 a b).2] ∧ Old H H') := by
  refine Ct.mk Tryd.func12 rfl Tryd.ntmps12 rfl ?_
  intro W0 hW0
  have o0 : Old H H := Old.refl H
  refine KC.seq (KC.region (KL.op (R.assign rfl rfl) rfl rfl rfl (KL.op (R.assign rfl rfl) rfl rfl rfl (KL.nil (KQ.seq (KC.seq (KC.region (KL.op (R.move rfl rfl) rfl rfl rfl ?_))))))))
  refine KL.call rfl rfl rfl rfl Tryd.call21 rfl rfl rfl (num_79) ?_
  rintro _ _ ⟨rfl, rfl⟩
  refine KL.op (R.move rfl rfl) rfl rfl rfl (KL.op (R.extract rfl rfl rfl) rfl rfl rfl (KL.op (R.extract rfl rfl rfl) rfl rfl rfl (KL.op (R.extract rfl rfl rfl) rfl rfl rfl (KL.op (R.assign rfl rfl) rfl rfl rfl (KL.op (R.assign rfl rfl) rfl rfl rfl (KL.op (R.assign rfl rfl) rfl rfl rfl (KL.nil (KQ.seq (KC.seq ?_)))))))))
  refine KC.region (KL.op (R.move rfl rfl) rfl rfl rfl (KL.op (R.move rfl rfl) rfl rfl rfl (KL.op (R.assign rfl rfl) rfl rfl rfl (KL.op (R.assign rfl rfl) rfl rfl rfl (KL.nil (KQ.seq (KC.seq (KC.seq (KC.region ?_)))))))))
  refine KL.op (R.move rfl rfl) rfl rfl rfl ?_
  refine KL.op ((R.eql rfl rfl rfl).val (congrArg Value.bool (decide_eq_true (by rfl)))) rfl rfl rfl ?_
  refine KL.nil (KQ.seq (KC.condT rfl (KC.seq (KC.region (KL.op (R.move rfl rfl) rfl rfl rfl ?_)))))
  refine KL.call rfl rfl rfl rfl Tryd.call22 rfl rfl rfl (cutN32 a ha) ?_
  rintro _ _ ⟨rfl, rfl⟩
  refine KL.op (R.assign rfl rfl) rfl rfl rfl (KL.nil (KQ.seq (KC.region (KL.op (R.move rfl rfl) rfl rfl rfl ?_))))
  refine KL.call rfl rfl rfl rfl Tryd.call22 rfl rfl rfl (cutN32 b hb) ?_
  rintro _ _ ⟨rfl, rfl⟩
  refine KL.op (R.assign rfl rfl) rfl rfl rfl (KL.nil (KQ.seq (KC.seq (KC.seq (KC.region (KL.op (R.move rfl rfl) rfl rfl rfl (KL.nil (KQ.seq (KC.block ?_)))))))))
  refine KC.seq (KC.region ?_)
  refine KL.op ((R.eql rfl rfl rfl).val (congrArg Value.bool (decide_eq_true (by rfl)))) rfl rfl rfl ?_
  refine KL.op (R.assign rfl rfl) rfl rfl rfl (KL.nil (KQ.seq (KC.condT rfl (KC.seq (KC.region (KL.op (R.move rfl rfl) rfl rfl rfl (KL.op (R.move rfl rfl) rfl rfl rfl (KL.op (R.move rfl rfl) rfl rfl rfl ?_))))))))
  refine KL.call rfl rfl rfl rfl Tryd.call23 rfl rfl rfl (below32_k (a % 4294967296) (b % 4294967296) (by omega) (by omega)) ?_
  rintro _ _ ⟨rfl, rfl⟩
  refine KL.op (R.move rfl rfl) rfl rfl rfl (KL.op (R.move rfl rfl) rfl rfl rfl (KL.op (R.move rfl rfl) rfl rfl rfl ?_))
  refine KL.call rfl rfl rfl rfl Tryd.call23 rfl rfl rfl (below32_k (b % 4294967296) (a % 4294967296) (by omega) (by omega)) ?_
  rintro _ _ ⟨rfl, rfl⟩
  refine KL.op (R.assign rfl rfl) rfl rfl rfl (KL.op (R.assign rfl rfl) rfl rfl rfl (KL.nil (KQ.seq (KC.seq (KC.seq (KC.region (KL.op (R.move rfl rfl) rfl rfl rfl ?_)))))))
  refine KL.op ((R.gtr rfl rfl rfl).val (congrArg Value.bool (decide_eq_true (by decide)))) rfl rfl rfl ?_
  refine KL.op (R.move rfl rfl) rfl rfl rfl (KL.op (R.move rfl rfl) rfl rfl rfl ?_)
  refine KL.op ((R.rem rfl rfl rfl (by decide) (by decide)).val (congrArg (Value.int .i64) (show (9 : Int) % 2 = 1 by decide))) rfl rfl rfl ?_
  refine KL.op ((R.eql rfl rfl rfl).val (congrArg Value.bool (decide_eq_true (by rfl)))) rfl rfl rfl ?_
  refine KL.op (R.pick rfl rfl rfl) rfl rfl rfl ?_
  refine KL.nil (KQ.seq (KC.condT rfl (KC.seq (KC.region (KL.op (R.move rfl rfl) rfl rfl rfl (KL.op (R.move rfl rfl) rfl rfl rfl ?_))))))
  refine KL.op (R.lss rfl rfl rfl) rfl rfl rfl ?_
  refine KL.op (R.assign rfl rfl) rfl rfl rfl (KL.nil (KQ.seq (KC.region (KL.op (R.move rfl rfl) rfl rfl rfl (KL.op (R.move rfl rfl) rfl rfl rfl ?_)))))
  refine KL.op (R.lss rfl rfl rfl) rfl rfl rfl ?_
  refine KL.op (R.assign rfl rfl) rfl rfl rfl (KL.nil (KQ.seq (KC.seq (KC.seq (KC.region (KL.op (R.move rfl rfl) rfl rfl rfl (KL.nil (KQ.seq (KC.block ?_)))))))))
  refine KC.seq (KC.region ?_)
  refine KL.op ((R.eql rfl rfl rfl).val (congrArg Value.bool (decide_eq_false (by decide)))) rfl rfl rfl ?_
  refine KL.op (R.assign rfl rfl) rfl rfl rfl (KL.nil (KQ.seq (KC.condF rfl (KC.seq (KC.region ?_)))))
  refine KL.op ((R.eql rfl rfl rfl).val (congrArg Value.bool (decide_eq_false (by decide)))) rfl rfl rfl ?_
  refine KL.op (R.assign rfl rfl) rfl rfl rfl (KL.nil (KQ.seq (KC.condF rfl (KC.seq (KC.seq (KC.region ?_))))))
  refine KL.op ((R.eql rfl rfl rfl).val (congrArg Value.bool (decide_eq_false (by decide)))) rfl rfl rfl ?_
  refine KL.op (R.assign rfl rfl) rfl rfl rfl (KL.nil (KQ.seq (KC.condF rfl (KC.region ?_))))
  refine KL.op ((R.eql rfl rfl rfl).val (congrArg Value.bool (decide_eq_false (by decide)))) rfl rfl rfl ?_
  refine KL.op (R.assign rfl rfl) rfl rfl rfl (KL.nil (KQ.seq (KC.condF rfl (KC.seq (KC.seq (KC.region ?_))))))
  refine KL.op ((R.eql rfl rfl rfl).val (congrArg Value.bool (decide_eq_false (by decide)))) rfl rfl rfl ?_
  refine KL.op (R.assign rfl rfl) rfl rfl rfl (KL.nil (KQ.seq (KC.condF rfl (KC.region ?_))))
  refine KL.op ((R.eql rfl rfl rfl).val (congrArg Value.bool (decide_eq_false (by decide)))) rfl rfl rfl ?_
  refine KL.op (R.assign rfl rfl) rfl rfl rfl (KL.nil (KQ.seq (KC.condF rfl (KC.seq (KC.seq (KC.region ?_))))))
  refine KL.op ((R.eql rfl rfl rfl).val (congrArg Value.bool (decide_eq_false (by decide)))) rfl rfl rfl ?_
  refine KL.op (R.assign rfl rfl) rfl rfl rfl (KL.nil (KQ.seq (KC.condF rfl (KC.region ?_))))
  refine KL.op ((R.eql rfl rfl rfl).val (congrArg Value.bool (decide_eq_false (by decide)))) rfl rfl rfl ?_
  refine KL.op (R.assign rfl rfl) rfl rfl rfl (KL.nil (KQ.seq (KC.condF rfl ?_)))
  refine KC.skip ?_
  refine KQ.normBlock (KQ.seq (KC.seq (KC.region (KL.op (R.move rfl rfl) rfl rfl rfl ?_))))
  refine KL.op (R.not rfl rfl) rfl rfl rfl ?_
  refine KL.call rfl rfl rfl rfl Tryd.call24 rfl rfl rfl (rone_k _) ?_
  rintro _ _ ⟨rfl, rfl⟩
  refine KL.op (R.assign rfl rfl) rfl rfl rfl (KL.op (R.assign rfl rfl) rfl rfl rfl (KL.nil (KQ.seq (KC.ret (KQ.retBlock (KQ.retThen (KQ.ofRet ?_)))))))
  refine KQ.fin2 Tryd.results12 rfl rfl ?_
  exact ⟨Wr.tupR (by rw [Wd.E70 ⟨by decide, by decide⟩, Wr.low32, Wr.low32]; apply Wr.pair; rw [Wr.nlt]; rfl), o0⟩

set_option maxRecDepth 100000 in
set_option maxHeartbeats 4000000 in
theorem rDo_80 {H : Heap} (a b : Nat) (ha : a < 18446744073709551616) (hb : b < 18446744073709551616) : Ct Tryd.prog 12 [.int .u8 80, .int .u64 (a : Nat), .int .u64 (b : Nat)] H (fun u H' => u = .tuple #[.int .u64 (Wd.E 80 a b).1, .int .u8 (Wd.E 80 a b).2] ∧ Old H H') := by
  refine Ct.mk Tryd.func12 rfl Tryd.ntmps12 rfl ?_
  intro W0 hW0
  have o0 : Old H H := Old.refl H
  refine KC.seq (KC.region (KL.op (R.assign rfl rfl) rfl rfl rfl (KL.op (R.assign rfl rfl) rfl rfl rfl (KL.nil (KQ.seq (KC.seq (KC.region (KL.op (R.move rfl rfl) rfl rfl rfl ?_))))))))
  refine KL.call rfl rfl rfl rfl Tryd.call21 rfl rfl rfl (num_80) ?_
  rintro _ _ ⟨rfl, rfl⟩
  refine KL.op (R.move rfl rfl) rfl rfl rfl (KL.op (R.extract rfl rfl rfl) rfl rfl rfl (KL.op (R.extract rfl rfl rfl) rfl rfl rfl (KL.op (R.extract rfl rfl rfl) rfl rfl rfl (KL.op (R.assign rfl rfl) rfl rfl rfl (KL.op (R.assign rfl rfl) rfl rfl rfl (KL.op (R.assign rfl rfl) rfl rfl rfl (KL.nil (KQ.seq (KC.seq ?_)))))))))
  refine KC.region (KL.op (R.move rfl rfl) rfl rfl rfl (KL.op (R.move rfl rfl) rfl rfl rfl (KL.op (R.assign rfl rfl) rfl rfl rfl (KL.op (R.assign rfl rfl) rfl rfl rfl (KL.nil (KQ.seq (KC.seq (KC.seq (KC.region ?_)))))))))
  refine KL.op (R.move rfl rfl) rfl rfl rfl ?_
  refine KL.op ((R.eql rfl rfl rfl).val (congrArg Value.bool (decide_eq_false (by decide)))) rfl rfl rfl ?_
  refine KL.nil (KQ.seq (KC.condF rfl ?_))
  refine KC.skip ?_
  refine KQ.seq (KC.seq (KC.seq (KC.region (KL.op (R.move rfl rfl) rfl rfl rfl (KL.nil (KQ.seq (KC.block (KC.seq (KC.region ?_)))))))))
  refine KL.op ((R.eql rfl rfl rfl).val (congrArg Value.bool (decide_eq_false (by decide)))) rfl rfl rfl ?_
  refine KL.op (R.assign rfl rfl) rfl rfl rfl (KL.nil (KQ.seq (KC.condF rfl (KC.seq (KC.region ?_)))))
  refine KL.op ((R.eql rfl rfl rfl).val (congrArg Value.bool (decide_eq_false (by decide)))) rfl rfl rfl ?_
  refine KL.op (R.assign rfl rfl) rfl rfl rfl (KL.nil (KQ.seq (KC.condF rfl (KC.seq (KC.region ?_)))))
  refine KL.op ((R.eql rfl rfl rfl).val (congrArg Value.bool (decide_eq_false (by decide)))) rfl rfl rfl ?_
  refine KL.op (R.assign rfl rfl) rfl rfl rfl (KL.nil (KQ.seq (KC.condF rfl ?_)))
  refine KC.skip ?_
  refine KQ.normBlock (KQ.seq (KC.seq (KC.region (KL.op (R.move rfl rfl) rfl rfl rfl ?_))))
  refine KL.call rfl rfl rfl rfl Tryd.call22 rfl rfl rfl (cutN32 a ha) ?_
  rintro _ _ ⟨rfl, rfl⟩
  refine KL.op (R.assign rfl rfl) rfl rfl rfl (KL.nil (KQ.seq (KC.seq (KC.seq (KC.region (KL.op (R.move rfl rfl) rfl rfl rfl (KL.nil (KQ.seq (KC.block ?_)))))))))
  refine KC.seq (KC.region ?_)
  refine KL.op ((R.eql rfl rfl rfl).val (congrArg Value.bool (decide_eq_false (by decide)))) rfl rfl rfl ?_
  refine KL.op (R.assign rfl rfl) rfl rfl rfl (KL.nil (KQ.seq (KC.condF rfl (KC.seq (KC.region ?_)))))
  refine KL.op ((R.eql rfl rfl rfl).val (congrArg Value.bool (decide_eq_true (by rfl)))) rfl rfl rfl ?_
  refine KL.op (R.assign rfl rfl) rfl rfl rfl (KL.nil (KQ.seq (KC.condT rfl (KC.seq (KC.region (KL.op (R.move rfl rfl) rfl rfl rfl ?_))))))
  refine KL.op (R.eql rfl rfl rfl) rfl rfl rfl ?_
  refine KL.call rfl rfl rfl rfl Tryd.call24 rfl rfl rfl (rone_k _) ?_
  rintro _ _ ⟨rfl, rfl⟩
  refine KL.op (R.assign rfl rfl) rfl rfl rfl (KL.op (R.assign rfl rfl) rfl rfl rfl (KL.nil (KQ.seq (KC.ret (KQ.retBlock (KQ.retThen (KQ.ofRet ?_)))))))
  refine KQ.fin2 Tryd.results12 rfl rfl ?_
  exact ⟨Wr.tupR rfl, o0⟩

set_option maxRecDepth 100000 in
set_option maxHeartbeats 4000000 in
theorem rDo_81 {H : Heap} (a b : Nat) (ha : a < 18446744073709551616) (hb : b < 18446744073709551616) : Ct Tryd.prog 12 [.int .u8 81, .int .u64 (a : Nat), .int .u64 (b : Nat)] H (fun u H' => u = .tuple #[.int .u64 (Wd.E 81 a b).1, .int .u8 (Wd.E 81 a b).2] ∧ Old H H') := by
  refine Ct.mk Tryd.func12 rfl Tryd.ntmps12 rfl ?_
  intro W0 hW0
  have o0 : Old H H := Old.refl H
  refine KC.seq (KC.region (KL.op (R.assign rfl rfl) rfl rfl rfl (KL.op (R.assign rfl rfl) rfl rfl rfl (KL.nil (KQ.seq (KC.seq (KC.region (KL.op (R.move rfl rfl) rfl rfl rfl ?_))))))))
  refine KL.call rfl rfl rfl rfl Tryd.call21 rfl rfl rfl (num_81) ?_
  rintro _ _ ⟨rfl, rfl⟩
  refine KL.op (R.move rfl rfl) rfl rfl rfl (KL.op (R.extract rfl rfl rfl) rfl rfl rfl (KL.op (R.extract rfl rfl rfl) rfl rfl rfl (KL.op (R.extract rfl rfl rfl) rfl rfl rfl (KL.op (R.assign rfl rfl) rfl rfl rfl (KL.op (R.assign rfl rfl) rfl rfl rfl (KL.op (R.assign rfl rfl) rfl rfl rfl (KL.nil (KQ.seq (KC.seq ?_)))))))))
  refine KC.region (KL.op (R.move rfl rfl) rfl rfl rfl (KL.op (R.move rfl rfl) rfl rfl rfl (KL.op (R.assign rfl rfl) rfl rfl rfl (KL.op (R.assign rfl rfl) rfl rfl rfl (KL.nil (KQ.seq (KC.seq (KC.seq (KC.region ?_)))))))))
  refine KL.op (R.move rfl rfl) rfl rfl rfl ?_
  refine KL.op ((R.eql rfl rfl rfl).val (congrArg Value.bool (decide_eq_false (by decide)))) rfl rfl rfl ?_
  refine KL.nil (KQ.seq (KC.condF rfl ?_))
  refine KC.skip ?_
  refine KQ.seq (KC.seq (KC.seq (KC.region (KL.op (R.move rfl rfl) rfl rfl rfl (KL.nil (KQ.seq (KC.block (KC.seq (KC.region ?_)))))))))
  refine KL.op ((R.eql rfl rfl rfl).val (congrArg Value.bool (decide_eq_true (by rfl)))) rfl rfl rfl ?_
  refine KL.op (R.assign rfl rfl) rfl rfl rfl (KL.nil (KQ.seq (KC.condT rfl (KC.seq (KC.region (KL.op (R.move rfl rfl) rfl rfl rfl (KL.op (R.move rfl rfl) rfl rfl rfl (KL.op (R.move rfl rfl) rfl rfl rfl ?_))))))))
  refine KL.call rfl rfl rfl rfl Tryd.call23 rfl rfl rfl (below64_k (a) (b) (by omega) (by omega)) ?_
  rintro _ _ ⟨rfl, rfl⟩
  refine KL.op (R.move rfl rfl) rfl rfl rfl (KL.op (R.move rfl rfl) rfl rfl rfl (KL.op (R.move rfl rfl) rfl rfl rfl ?_))
  refine KL.call rfl rfl rfl rfl Tryd.call23 rfl rfl rfl (below64_k (b) (a) (by omega) (by omega)) ?_
  rintro _ _ ⟨rfl, rfl⟩
  refine KL.op (R.assign rfl rfl) rfl rfl rfl (KL.op (R.assign rfl rfl) rfl rfl rfl (KL.nil (KQ.seq (KC.seq (KC.seq (KC.region (KL.op (R.move rfl rfl) rfl rfl rfl ?_)))))))
  refine KL.op ((R.gtr rfl rfl rfl).val (congrArg Value.bool (decide_eq_false (by decide)))) rfl rfl rfl ?_
  refine KL.op (R.move rfl rfl) rfl rfl rfl ?_
  refine KL.skip rfl rfl rfl ?_
  refine KL.skip rfl rfl rfl ?_
  refine KL.skip rfl rfl rfl ?_
  refine KL.op (R.pick rfl rfl rfl) rfl rfl rfl ?_
  refine KL.nil (KQ.seq (KC.condF rfl ?_))
  refine KC.skip ?_
  refine KQ.seq (KC.seq (KC.seq (KC.region (KL.op (R.move rfl rfl) rfl rfl rfl (KL.nil (KQ.seq (KC.block (KC.seq (KC.region ?_)))))))))
  refine KL.op ((R.eql rfl rfl rfl).val (congrArg Value.bool (decide_eq_true (by rfl)))) rfl rfl rfl ?_
  refine KL.op (R.assign rfl rfl) rfl rfl rfl (KL.nil (KQ.seq (KC.condT rfl (KC.seq (KC.region (KL.op (R.move rfl rfl) rfl rfl rfl (KL.op (R.move rfl rfl) rfl rfl rfl ?_)))))))
  refine KL.op (R.eql rfl rfl rfl) rfl rfl rfl ?_
  refine KL.call rfl rfl rfl rfl Tryd.call24 rfl rfl rfl (rone_k _) ?_
  rintro _ _ ⟨rfl, rfl⟩
  refine KL.op (R.assign rfl rfl) rfl rfl rfl (KL.op (R.assign rfl rfl) rfl rfl rfl (KL.nil (KQ.seq (KC.ret (KQ.retBlock (KQ.retThen (KQ.retBlock (KQ.retThen (KQ.ofRet ?_)))))))))
  refine KQ.fin2 Tryd.results12 rfl rfl ?_
  exact ⟨Wr.tupR (by rw [Wr.E81 ⟨by decide, by decide⟩]; apply Wr.pair; rfl), o0⟩

set_option maxRecDepth 100000 in
set_option maxHeartbeats 4000000 in
theorem rDo_82 {H : Heap} (a b : Nat) (ha : a < 18446744073709551616) (hb : b < 18446744073709551616) : Ct Tryd.prog 12 [.int .u8 82, .int .u64 (a : Nat), .int .u64 (b : Nat)] H (fun u H' => u = .tuple #[.int .u64 (Wd.E 82 a b).1, .int .u8 (Wd.E 82 a b).2] ∧ Old H H') := by
  refine Ct.mk Tryd.func12 rfl Tryd.ntmps12 rfl ?_
  intro W0 hW0
  have o0 : Old H H := Old.refl H
  refine KC.seq (KC.region (KL.op (R.assign rfl rfl) rfl rfl rfl (KL.op (R.assign rfl rfl) rfl rfl rfl (KL.nil (KQ.seq (KC.seq (KC.region (KL.op (R.move rfl rfl) rfl rfl rfl ?_))))))))
  refine KL.call rfl rfl rfl rfl Tryd.call21 rfl rfl rfl (num_82) ?_
  rintro _ _ ⟨rfl, rfl⟩
  refine KL.op (R.move rfl rfl) rfl rfl rfl (KL.op (R.extract rfl rfl rfl) rfl rfl rfl (KL.op (R.extract rfl rfl rfl) rfl rfl rfl (KL.op (R.extract rfl rfl rfl) rfl rfl rfl (KL.op (R.assign rfl rfl) rfl rfl rfl (KL.op (R.assign rfl rfl) rfl rfl rfl (KL.op (R.assign rfl rfl) rfl rfl rfl (KL.nil (KQ.seq (KC.seq ?_)))))))))
  refine KC.region (KL.op (R.move rfl rfl) rfl rfl rfl (KL.op (R.move rfl rfl) rfl rfl rfl (KL.op (R.assign rfl rfl) rfl rfl rfl (KL.op (R.assign rfl rfl) rfl rfl rfl (KL.nil (KQ.seq (KC.seq (KC.seq (KC.region ?_)))))))))
  refine KL.op (R.move rfl rfl) rfl rfl rfl ?_
  refine KL.op ((R.eql rfl rfl rfl).val (congrArg Value.bool (decide_eq_false (by decide)))) rfl rfl rfl ?_
  refine KL.nil (KQ.seq (KC.condF rfl ?_))
  refine KC.skip ?_
  refine KQ.seq (KC.seq (KC.seq (KC.region (KL.op (R.move rfl rfl) rfl rfl rfl (KL.nil (KQ.seq (KC.block (KC.seq (KC.region ?_)))))))))
  refine KL.op ((R.eql rfl rfl rfl).val (congrArg Value.bool (decide_eq_true (by rfl)))) rfl rfl rfl ?_
  refine KL.op (R.assign rfl rfl) rfl rfl rfl (KL.nil (KQ.seq (KC.condT rfl (KC.seq (KC.region (KL.op (R.move rfl rfl) rfl rfl rfl (KL.op (R.move rfl rfl) rfl rfl rfl (KL.op (R.move rfl rfl) rfl rfl rfl ?_))))))))
  refine KL.call rfl rfl rfl rfl Tryd.call23 rfl rfl rfl (below64_k (a) (b) (by omega) (by omega)) ?_
  rintro _ _ ⟨rfl, rfl⟩
  refine KL.op (R.move rfl rfl) rfl rfl rfl (KL.op (R.move rfl rfl) rfl rfl rfl (KL.op (R.move rfl rfl) rfl rfl rfl ?_))
  refine KL.call rfl rfl rfl rfl Tryd.call23 rfl rfl rfl (below64_k (b) (a) (by omega) (by omega)) ?_
  rintro _ _ ⟨rfl, rfl⟩
  refine KL.op (R.assign rfl rfl) rfl rfl rfl (KL.op (R.assign rfl rfl) rfl rfl rfl (KL.nil (KQ.seq (KC.seq (KC.seq (KC.region (KL.op (R.move rfl rfl) rfl rfl rfl ?_)))))))
  refine KL.op ((R.gtr rfl rfl rfl).val (congrArg Value.bool (decide_eq_false (by decide)))) rfl rfl rfl ?_
  refine KL.op (R.move rfl rfl) rfl rfl rfl ?_
  refine KL.skip rfl rfl rfl ?_
  refine KL.skip rfl rfl rfl ?_
  refine KL.skip rfl rfl rfl ?_
  refine KL.op (R.pick rfl rfl rfl) rfl rfl rfl ?_
  refine KL.nil (KQ.seq (KC.condF rfl ?_))
  refine KC.skip ?_
  refine KQ.seq (KC.seq (KC.seq (KC.region (KL.op (R.move rfl rfl) rfl rfl rfl (KL.nil (KQ.seq (KC.block (KC.seq (KC.region ?_)))))))))
  refine KL.op ((R.eql rfl rfl rfl).val (congrArg Value.bool (decide_eq_false (by decide)))) rfl rfl rfl ?_
  refine KL.op (R.assign rfl rfl) rfl rfl rfl (KL.nil (KQ.seq (KC.condF rfl (KC.seq (KC.region ?_)))))
  refine KL.op ((R.eql rfl rfl rfl).val (congrArg Value.bool (decide_eq_true (by rfl)))) rfl rfl rfl ?_
  refine KL.op (R.assign rfl rfl) rfl rfl rfl (KL.nil (KQ.seq (KC.condT rfl (KC.seq (KC.region (KL.op (R.move rfl rfl) rfl rfl rfl (KL.op (R.move rfl rfl) rfl rfl rfl ?_)))))))
  refine KL.op (R.neq rfl rfl rfl) rfl rfl rfl ?_
  refine KL.call rfl rfl rfl rfl Tryd.call24 rfl rfl rfl (rone_k _) ?_
  rintro _ _ ⟨rfl, rfl⟩
  refine KL.op (R.assign rfl rfl) rfl rfl rfl (KL.op (R.assign rfl rfl) rfl rfl rfl (KL.nil (KQ.seq (KC.ret (KQ.retBlock (KQ.retThen (KQ.retBlock (KQ.retThen (KQ.ofRet ?_)))))))))
  refine KQ.fin2 Tryd.results12 rfl rfl ?_
  exact ⟨Wr.tupR (by rw [Wr.E81 ⟨by decide, by decide⟩]; apply Wr.pair; rfl), o0⟩

set_option maxRecDepth 100000 in
set_option maxHeartbeats 4000000 in
theorem rDo_83 {H : Heap} (a b : Nat) (ha : a < 18446744073709551616) (hb : b < 18446744073709551616) : Ct Tryd.prog 12 [.int .u8 83, .int .u64 (a : Nat), .int .u64 (b : Nat)] H (fun u H' => u = .tuple #[.int .u64 (Wd.E 83 a b).1, .int .u8 (Wd.E 83 a b).2] ∧ Old H H') := by
  refine Ct.mk Tryd.func12 rfl Tryd.ntmps12 rfl ?_
  intro W0 hW0
  have o0 : Old H H := Old.refl H
  refine KC.seq (KC.region (KL.op (R.assign rfl rfl) rfl rfl rfl (KL.op (R.assign rfl rfl) rfl rfl rfl (KL.nil (KQ.seq (KC.seq (KC.region (KL.op (R.move rfl rfl) rfl rfl rfl ?_))))))))
  refine KL.call rfl rfl rfl rfl Tryd.call21 rfl rfl rfl (num_83) ?_
  rintro _ _ ⟨rfl, rfl⟩
  refine KL.op (R.move rfl rfl) rfl rfl rfl (KL.op (R.extract rfl rfl rfl) rfl rfl rfl (KL.op (R.extract rfl rfl rfl) rfl rfl rfl (KL.op (R.extract rfl rfl rfl) rfl rfl rfl (KL.op (R.assign rfl rfl) rfl rfl rfl (KL.op (R.assign rfl rfl) rfl rfl rfl (KL.op (R.assign rfl rfl) rfl rfl rfl (KL.nil (KQ.seq (KC.seq ?_)))))))))
  refine KC.region (KL.op (R.move rfl rfl) rfl rfl rfl (KL.op (R.move rfl rfl) rfl rfl rfl (KL.op (R.assign rfl rfl) rfl rfl rfl (KL.op (R.assign rfl rfl) rfl rfl rfl (KL.nil (KQ.seq (KC.seq (KC.seq (KC.region ?_)))))))))
  refine KL.op (R.move rfl rfl) rfl rfl rfl ?_
  refine KL.op ((R.eql rfl rfl rfl).val (congrArg Value.bool (decide_eq_false (by decide)))) rfl rfl rfl ?_
  refine KL.nil (KQ.seq (KC.condF rfl ?_))
  refine KC.skip ?_
  refine KQ.seq (KC.seq (KC.seq (KC.region (KL.op (R.move rfl rfl) rfl rfl rfl (KL.nil (KQ.seq (KC.block (KC.seq (KC.region ?_)))))))))
  refine KL.op ((R.eql rfl rfl rfl).val (congrArg Value.bool (decide_eq_true (by rfl)))) rfl rfl rfl ?_
  refine KL.op (R.assign rfl rfl) rfl rfl rfl (KL.nil (KQ.seq (KC.condT rfl (KC.seq (KC.region (KL.op (R.move rfl rfl) rfl rfl rfl (KL.op (R.move rfl rfl) rfl rfl rfl (KL.op (R.move rfl rfl) rfl rfl rfl ?_))))))))
  refine KL.call rfl rfl rfl rfl Tryd.call23 rfl rfl rfl (below64_k (a) (b) (by omega) (by omega)) ?_
  rintro _ _ ⟨rfl, rfl⟩
  refine KL.op (R.move rfl rfl) rfl rfl rfl (KL.op (R.move rfl rfl) rfl rfl rfl (KL.op (R.move rfl rfl) rfl rfl rfl ?_))
  refine KL.call rfl rfl rfl rfl Tryd.call23 rfl rfl rfl (below64_k (b) (a) (by omega) (by omega)) ?_
  rintro _ _ ⟨rfl, rfl⟩
  refine KL.op (R.assign rfl rfl) rfl rfl rfl (KL.op (R.assign rfl rfl) rfl rfl rfl (KL.nil (KQ.seq (KC.seq (KC.seq (KC.region (KL.op (R.move rfl rfl) rfl rfl rfl ?_)))))))
  refine KL.op ((R.gtr rfl rfl rfl).val (congrArg Value.bool (decide_eq_true (by decide)))) rfl rfl rfl ?_
  refine KL.op (R.move rfl rfl) rfl rfl rfl (KL.op (R.move rfl rfl) rfl rfl rfl ?_)
  refine KL.op ((R.rem rfl rfl rfl (by decide) (by decide)).val (congrArg (Value.int .i64) (show (2 : Int) % 2 = 0 by decide))) rfl rfl rfl ?_
  refine KL.op ((R.eql rfl rfl rfl).val (congrArg Value.bool (decide_eq_false (by decide)))) rfl rfl rfl ?_
  refine KL.op (R.pick rfl rfl rfl) rfl rfl rfl ?_
  refine KL.nil (KQ.seq (KC.condF rfl ?_))
  refine KC.skip ?_
  refine KQ.seq (KC.seq (KC.seq (KC.region (KL.op (R.move rfl rfl) rfl rfl rfl (KL.nil (KQ.seq (KC.block (KC.seq (KC.region ?_)))))))))
  refine KL.op ((R.eql rfl rfl rfl).val (congrArg Value.bool (decide_eq_false (by decide)))) rfl rfl rfl ?_
  refine KL.op (R.assign rfl rfl) rfl rfl rfl (KL.nil (KQ.seq (KC.condF rfl (KC.seq (KC.region ?_)))))
  refine KL.op ((R.eql rfl rfl rfl).val (congrArg Value.bool (decide_eq_false (by decide)))) rfl rfl rfl ?_
  refine KL.op (R.assign rfl rfl) rfl rfl rfl (KL.nil (KQ.seq (KC.condF rfl (KC.seq (KC.seq (KC.region ?_))))))
  refine KL.op ((R.eql rfl rfl rfl).val (congrArg Value.bool (decide_eq_true (by rfl)))) rfl rfl rfl ?_
  refine KL.op (R.assign rfl rfl) rfl rfl rfl (KL.nil (KQ.seq (KC.condT rfl ?_)))
  refine KC.skip ?_
  refine KQ.seq (KC.condT rfl (KC.seq (KC.region (KL.op (R.move rfl rfl) rfl rfl rfl ?_))))
  refine KL.call rfl rfl rfl rfl Tryd.call24 rfl rfl rfl (rone_k _) ?_
  rintro _ _ ⟨rfl, rfl⟩
  refine KL.op (R.assign rfl rfl) rfl rfl rfl (KL.op (R.assign rfl rfl) rfl rfl rfl (KL.nil (KQ.seq (KC.ret (KQ.retBlock (KQ.retThen (KQ.retBlock (KQ.retThen (KQ.ofRet ?_)))))))))
  refine KQ.fin2 Tryd.results12 rfl rfl ?_
  exact ⟨Wr.tupR (by rw [Wr.E81 ⟨by decide, by decide⟩]; apply Wr.pair; rw [Wr.bel64 ha hb]; rfl), o0⟩

set_option maxRecDepth 100000 in
set_option maxHeartbeats 4000000 in
theorem rDo_84 {H : Heap} (a b : Nat) (ha : a < 18446744073709551616) (hb : b < 18446744073709551616) : Ct Tryd.prog 12 [.int .u8 84, .int .u64 (a : Nat), .int .u64 (b : Nat)] H (fun u H' => u = .tuple #[.int .u64 (Wd.E 84 a b).1, .int .u8 (Wd.E 84 a b).2] ∧ Old H H') := by
  refine Ct.mk Tryd.func12 rfl Tryd.ntmps12 rfl ?_
  intro W0 hW0
  have o0 : Old H H := Old.refl H
  refine KC.seq (KC.region (KL.op (R.assign rfl rfl) rfl rfl rfl (KL.op (R.assign rfl rfl) rfl rfl rfl (KL.nil (KQ.seq (KC.seq (KC.region (KL.op (R.move rfl rfl) rfl rfl rfl ?_))))))))
  refine KL.call rfl rfl rfl rfl Tryd.call21 rfl rfl rfl (num_84) ?_
  rintro _ _ ⟨rfl, rfl⟩
  refine KL.op (R.move rfl rfl) rfl rfl rfl (KL.op (R.extract rfl rfl rfl) rfl rfl rfl (KL.op (R.extract rfl rfl rfl) rfl rfl rfl (KL.op (R.extract rfl rfl rfl) rfl rfl rfl (KL.op (R.assign rfl rfl) rfl rfl rfl (KL.op (R.assign rfl rfl) rfl rfl rfl (KL.op (R.assign rfl rfl) rfl rfl rfl (KL.nil (KQ.seq (KC.seq ?_)))))))))
  refine KC.region (KL.op (R.move rfl rfl) rfl rfl rfl (KL.op (R.move rfl rfl) rfl rfl rfl (KL.op (R.assign rfl rfl) rfl rfl rfl (KL.op (R.assign rfl rfl) rfl rfl rfl (KL.nil (KQ.seq (KC.seq (KC.seq (KC.region ?_)))))))))
  refine KL.op (R.move rfl rfl) rfl rfl rfl ?_
  refine KL.op ((R.eql rfl rfl rfl).val (congrArg Value.bool (decide_eq_false (by decide)))) rfl rfl rfl ?_
  refine KL.nil (KQ.seq (KC.condF rfl ?_))
  refine KC.skip ?_
  refine KQ.seq (KC.seq (KC.seq (KC.region (KL.op (R.move rfl rfl) rfl rfl rfl (KL.nil (KQ.seq (KC.block (KC.seq (KC.region ?_)))))))))
  refine KL.op ((R.eql rfl rfl rfl).val (congrArg Value.bool (decide_eq_true (by rfl)))) rfl rfl rfl ?_
  refine KL.op (R.assign rfl rfl) rfl rfl rfl (KL.nil (KQ.seq (KC.condT rfl (KC.seq (KC.region (KL.op (R.move rfl rfl) rfl rfl rfl (KL.op (R.move rfl rfl) rfl rfl rfl (KL.op (R.move rfl rfl) rfl rfl rfl ?_))))))))
  refine KL.call rfl rfl rfl rfl Tryd.call23 rfl rfl rfl (below64_k (a) (b) (by omega) (by omega)) ?_
  rintro _ _ ⟨rfl, rfl⟩
  refine KL.op (R.move rfl rfl) rfl rfl rfl (KL.op (R.move rfl rfl) rfl rfl rfl (KL.op (R.move rfl rfl) rfl rfl rfl ?_))
  refine KL.call rfl rfl rfl rfl Tryd.call23 rfl rfl rfl (below64_k (b) (a) (by omega) (by omega)) ?_
  rintro _ _ ⟨rfl, rfl⟩
  refine KL.op (R.assign rfl rfl) rfl rfl rfl (KL.op (R.assign rfl rfl) rfl rfl rfl (KL.nil (KQ.seq (KC.seq (KC.seq (KC.region (KL.op (R.move rfl rfl) rfl rfl rfl ?_)))))))
  refine KL.op ((R.gtr rfl rfl rfl).val (congrArg Value.bool (decide_eq_true (by decide)))) rfl rfl rfl ?_
  refine KL.op (R.move rfl rfl) rfl rfl rfl (KL.op (R.move rfl rfl) rfl rfl rfl ?_)
  refine KL.op ((R.rem rfl rfl rfl (by decide) (by decide)).val (congrArg (Value.int .i64) (show (3 : Int) % 2 = 1 by decide))) rfl rfl rfl ?_
  refine KL.op ((R.eql rfl rfl rfl).val (congrArg Value.bool (decide_eq_true (by rfl)))) rfl rfl rfl ?_
  refine KL.op (R.pick rfl rfl rfl) rfl rfl rfl ?_
  refine KL.nil (KQ.seq (KC.condT rfl (KC.seq (KC.region (KL.op (R.move rfl rfl) rfl rfl rfl (KL.op (R.move rfl rfl) rfl rfl rfl ?_))))))
  refine KL.op (R.lss rfl rfl rfl) rfl rfl rfl ?_
  refine KL.op (R.assign rfl rfl) rfl rfl rfl (KL.nil (KQ.seq (KC.region (KL.op (R.move rfl rfl) rfl rfl rfl (KL.op (R.move rfl rfl) rfl rfl rfl ?_)))))
  refine KL.op (R.lss rfl rfl rfl) rfl rfl rfl ?_
  refine KL.op (R.assign rfl rfl) rfl rfl rfl (KL.nil (KQ.seq (KC.seq (KC.seq (KC.region (KL.op (R.move rfl rfl) rfl rfl rfl (KL.nil (KQ.seq (KC.block ?_)))))))))
  refine KC.seq (KC.region ?_)
  refine KL.op ((R.eql rfl rfl rfl).val (congrArg Value.bool (decide_eq_false (by decide)))) rfl rfl rfl ?_
  refine KL.op (R.assign rfl rfl) rfl rfl rfl (KL.nil (KQ.seq (KC.condF rfl (KC.seq (KC.region ?_)))))
  refine KL.op ((R.eql rfl rfl rfl).val (congrArg Value.bool (decide_eq_false (by decide)))) rfl rfl rfl ?_
  refine KL.op (R.assign rfl rfl) rfl rfl rfl (KL.nil (KQ.seq (KC.condF rfl (KC.seq (KC.seq (KC.region ?_))))))
  refine KL.op ((R.eql rfl rfl rfl).val (congrArg Value.bool (decide_eq_false (by decide)))) rfl rfl rfl ?_
  refine KL.op (R.assign rfl rfl) rfl rfl rfl (KL.nil (KQ.seq (KC.condF rfl (KC.region ?_))))
  refine KL.op ((R.eql rfl rfl rfl).val (congrArg Value.bool (decide_eq_true (by rfl)))) rfl rfl rfl ?_
  refine KL.op (R.assign rfl rfl) rfl rfl rfl (KL.nil (KQ.seq (KC.condT rfl (KC.seq (KC.region (KL.op (R.move rfl rfl) rfl rfl rfl ?_))))))
  refine KL.call rfl rfl rfl rfl Tryd.call24 rfl rfl rfl (rone_k _) ?_
  rintro _ _ ⟨rfl, rfl⟩
  refine KL.op (R.assign rfl rfl) rfl rfl rfl (KL.op (R.assign rfl rfl) rfl rfl rfl (KL.nil (KQ.seq (KC.ret (KQ.retBlock (KQ.retThen (KQ.retBlock (KQ.retThen (KQ.ofRet ?_)))))))))
  refine KQ.fin2 Tryd.results12 rfl rfl ?_
  exact ⟨Wr.tupR (by rw [Wr.E81 ⟨by decide, by decide⟩]; apply Wr.pair; rfl), o0⟩

set_option maxRecDepth 100000 in
set_option maxHeartbeats 4000000 in
theorem rDo_85 {H : Heap} (a b : Nat) (ha : a < 18446744073709551616) (hb : b < 18446744073709551616) : Ct Tryd.prog 12 [.int .u8 85, .int .u64 (a : Nat), .int .u64 (b : Nat)] H (fun u H' => u = .tuple #[.int .u64 (Wd.E 85 a b).1, .int .u8 (Wd.E 85 a b).2] ∧ Old H H') := by
  refine Ct.mk Tryd.func12 rfl Tryd.ntmps12 rfl ?_
  intro W0 hW0
  have o0 : Old H H := Old.refl H
  refine KC.seq (KC.region (KL.op (R.assign rfl rfl) rfl rfl rfl (KL.op (R.assign rfl rfl) rfl rfl rfl (KL.nil (KQ.seq (KC.seq (KC.region (KL.op (R.move rfl rfl) rfl rfl rfl ?_))))))))
  refine KL.call rfl rfl rfl rfl Tryd.call21 rfl rfl rfl (num_85) ?_
  rintro _ _ ⟨rfl, rfl⟩
  refine KL.op (R.move rfl rfl) rfl rfl rfl (KL.op (R.extract rfl rfl rfl) rfl rfl rfl (KL.op (R.extract rfl rfl rfl) rfl rfl rfl (KL.op (R.extract rfl rfl rfl) rfl rfl rfl (KL.op (R.assign rfl rfl) rfl rfl rfl (KL.op (R.assign rfl rfl) rfl rfl rfl (KL.op (R.assign rfl rfl) rfl rfl rfl (KL.nil (KQ.seq (KC.seq ?_)))))))))
  refine KC.region (KL.op (R.move rfl rfl) rfl rfl rfl (KL.op (R.move rfl rfl) rfl rfl rfl (KL.op (R.assign rfl rfl) rfl rfl rfl (KL.op (R.assign rfl rfl) rfl rfl rfl (KL.nil (KQ.seq (KC.seq (KC.seq (KC.region ?_)))))))))
  refine KL.op (R.move rfl rfl) rfl rfl rfl ?_
  refine KL.op ((R.eql rfl rfl rfl).val (congrArg Value.bool (decide_eq_false (by decide)))) rfl rfl rfl ?_
  refine KL.nil (KQ.seq (KC.condF rfl ?_))
  refine KC.skip ?_
  refine KQ.seq (KC.seq (KC.seq (KC.region (KL.op (R.move rfl rfl) rfl rfl rfl (KL.nil (KQ.seq (KC.block (KC.seq (KC.region ?_)))))))))
  refine KL.op ((R.eql rfl rfl rfl).val (congrArg Value.bool (decide_eq_true (by rfl)))) rfl rfl rfl ?_
  refine KL.op (R.assign rfl rfl) rfl rfl rfl (KL.nil (KQ.seq (KC.condT rfl (KC.seq (KC.region (KL.op (R.move rfl rfl) rfl rfl rfl (KL.op (R.move rfl rfl) rfl rfl rfl (KL.op (R.move rfl rfl) rfl rfl rfl ?_))))))))
  refine KL.call rfl rfl rfl rfl Tryd.call23 rfl rfl rfl (below64_k (a) (b) (by omega) (by omega)) ?_
  rintro _ _ ⟨rfl, rfl⟩
  refine KL.op (R.move rfl rfl) rfl rfl rfl (KL.op (R.move rfl rfl) rfl rfl rfl (KL.op (R.move rfl rfl) rfl rfl rfl ?_))
  refine KL.call rfl rfl rfl rfl Tryd.call23 rfl rfl rfl (below64_k (b) (a) (by omega) (by omega)) ?_
  rintro _ _ ⟨rfl, rfl⟩
  refine KL.op (R.assign rfl rfl) rfl rfl rfl (KL.op (R.assign rfl rfl) rfl rfl rfl (KL.nil (KQ.seq (KC.seq (KC.seq (KC.region (KL.op (R.move rfl rfl) rfl rfl rfl ?_)))))))
  refine KL.op ((R.gtr rfl rfl rfl).val (congrArg Value.bool (decide_eq_true (by decide)))) rfl rfl rfl ?_
  refine KL.op (R.move rfl rfl) rfl rfl rfl (KL.op (R.move rfl rfl) rfl rfl rfl ?_)
  refine KL.op ((R.rem rfl rfl rfl (by decide) (by decide)).val (congrArg (Value.int .i64) (show (4 : Int) % 2 = 0 by decide))) rfl rfl rfl ?_
  refine KL.op ((R.eql rfl rfl rfl).val (congrArg Value.bool (decide_eq_false (by decide)))) rfl rfl rfl ?_
  refine KL.op (R.pick rfl rfl rfl) rfl rfl rfl ?_
  refine KL.nil (KQ.seq (KC.condF rfl ?_))
  refine KC.skip ?_
  refine KQ.seq (KC.seq (KC.seq (KC.region (KL.op (R.move rfl rfl) rfl rfl rfl (KL.nil (KQ.seq (KC.block (KC.seq (KC.region ?_)))))))))
  refine KL.op ((R.eql rfl rfl rfl).val (congrArg Value.bool (decide_eq_false (by decide)))) rfl rfl rfl ?_
  refine KL.op (R.assign rfl rfl) rfl rfl rfl (KL.nil (KQ.seq (KC.condF rfl (KC.seq (KC.region ?_)))))
  refine KL.op ((R.eql rfl rfl rfl).val (congrArg Value.bool (decide_eq_false (by decide)))) rfl rfl rfl ?_
  refine KL.op (R.assign rfl rfl) rfl rfl rfl (KL.nil (KQ.seq (KC.condF rfl (KC.seq (KC.seq (KC.region ?_))))))
  refine KL.op ((R.eql rfl rfl rfl).val (congrArg Value.bool (decide_eq_false (by decide)))) rfl rfl rfl ?_
  refine KL.op (R.assign rfl rfl) rfl rfl rfl (KL.nil (KQ.seq (KC.condF rfl (KC.region ?_))))
  refine KL.op ((R.eql rfl rfl rfl).val (congrArg Value.bool (decide_eq_false (by decide)))) rfl rfl rfl ?_
  refine KL.op (R.assign rfl rfl) rfl rfl rfl (KL.nil (KQ.seq (KC.condF rfl (KC.seq (KC.seq (KC.region ?_))))))
  refine KL.op ((R.eql rfl rfl rfl).val (congrArg Value.bool (decide_eq_true (by rfl)))) rfl rfl rfl ?_
  refine KL.op (R.assign rfl rfl) rfl rfl rfl (KL.nil (KQ.seq (KC.condT rfl ?_)))
  refine KC.skip ?_
  refine KQ.seq (KC.condT rfl (KC.seq (KC.region (KL.op (R.move rfl rfl) rfl rfl rfl ?_))))
  refine KL.call rfl rfl rfl rfl Tryd.call24 rfl rfl rfl (rone_k _) ?_
  rintro _ _ ⟨rfl, rfl⟩
  refine KL.op (R.assign rfl rfl) rfl rfl rfl (KL.op (R.assign rfl rfl) rfl rfl rfl (KL.nil (KQ.seq (KC.ret (KQ.retBlock (KQ.retThen (KQ.retBlock (KQ.retThen (KQ.ofRet ?_)))))))))
  refine KQ.fin2 Tryd.results12 rfl rfl ?_
  exact ⟨Wr.tupR (by rw [Wr.E81 ⟨by decide, by decide⟩]; apply Wr.pair; rw [Wr.bel64 hb ha]; rfl), o0⟩

set_option maxRecDepth 100000 in
set_option maxHeartbeats 4000000 in
theorem rDo_86 {H : Heap} (a b : Nat) (ha : a < 18446744073709551616) (hb : b < 18446744073709551616) : Ct Tryd.prog 12 [.int .u8 86, .int .u64 (a : Nat), .int .u64 (b : Nat)] H (fun u H' => u = .tuple #[.int .u64 (Wd.E 86 a b).1, .int .u8 (Wd.E 86 a b).2] ∧ Old H H') := by
  refine Ct.mk Tryd.func12 rfl Tryd.ntmps12 rfl ?_
  intro W0 hW0
  have o0 : Old H H := Old.refl H
  refine KC.seq (KC.region (KL.op (R.assign rfl rfl) rfl rfl rfl (KL.op (R.assign rfl rfl) rfl rfl rfl (KL.nil (KQ.seq (KC.seq (KC.region (KL.op (R.move rfl rfl) rfl rfl rfl ?_))))))))
  refine KL.call rfl rfl rfl rfl Tryd.call21 rfl rfl rfl (num_86) ?_
  rintro _ _ ⟨rfl, rfl⟩
  refine KL.op (R.move rfl rfl) rfl rfl rfl (KL.op (R.extract rfl rfl rfl) rfl rfl rfl (KL.op (R.extract rfl rfl rfl) rfl rfl rfl (KL.op (R.extract rfl rfl rfl) rfl rfl rfl (KL.op (R.assign rfl rfl) rfl rfl rfl (KL.op (R.assign rfl rfl) rfl rfl rfl (KL.op (R.assign rfl rfl) rfl rfl rfl (KL.nil (KQ.seq (KC.seq ?_)))))))))
  refine KC.region (KL.op (R.move rfl rfl) rfl rfl rfl (KL.op (R.move rfl rfl) rfl rfl rfl (KL.op (R.assign rfl rfl) rfl rfl rfl (KL.op (R.assign rfl rfl) rfl rfl rfl (KL.nil (KQ.seq (KC.seq (KC.seq (KC.region ?_)))))))))
  refine KL.op (R.move rfl rfl) rfl rfl rfl ?_
  refine KL.op ((R.eql rfl rfl rfl).val (congrArg Value.bool (decide_eq_false (by decide)))) rfl rfl rfl ?_
  refine KL.nil (KQ.seq (KC.condF rfl ?_))
  refine KC.skip ?_
  refine KQ.seq (KC.seq (KC.seq (KC.region (KL.op (R.move rfl rfl) rfl rfl rfl (KL.nil (KQ.seq (KC.block (KC.seq (KC.region ?_)))))))))
  refine KL.op ((R.eql rfl rfl rfl).val (congrArg Value.bool (decide_eq_true (by rfl)))) rfl rfl rfl ?_
  refine KL.op (R.assign rfl rfl) rfl rfl rfl (KL.nil (KQ.seq (KC.condT rfl (KC.seq (KC.region (KL.op (R.move rfl rfl) rfl rfl rfl (KL.op (R.move rfl rfl) rfl rfl rfl (KL.op (R.move rfl rfl) rfl rfl rfl ?_))))))))
  refine KL.call rfl rfl rfl rfl Tryd.call23 rfl rfl rfl (below64_k (a) (b) (by omega) (by omega)) ?_
  rintro _ _ ⟨rfl, rfl⟩
  refine KL.op (R.move rfl rfl) rfl rfl rfl (KL.op (R.move rfl rfl) rfl rfl rfl (KL.op (R.move rfl rfl) rfl rfl rfl ?_))
  refine KL.call rfl rfl rfl rfl Tryd.call23 rfl rfl rfl (below64_k (b) (a) (by omega) (by omega)) ?_
  rintro _ _ ⟨rfl, rfl⟩
  refine KL.op (R.assign rfl rfl) rfl rfl rfl (KL.op (R.assign rfl rfl) rfl rfl rfl (KL.nil (KQ.seq (KC.seq (KC.seq (KC.region (KL.op (R.move rfl rfl) rfl rfl rfl ?_)))))))
  refine KL.op ((R.gtr rfl rfl rfl).val (congrArg Value.bool (decide_eq_true (by decide)))) rfl rfl rfl ?_
  refine KL.op (R.move rfl rfl) rfl rfl rfl (KL.op (R.move rfl rfl) rfl rfl rfl ?_)
  refine KL.op ((R.rem rfl rfl rfl (by decide) (by decide)).val (congrArg (Value.int .i64) (show (5 : Int) % 2 = 1 by decide))) rfl rfl rfl ?_
  refine KL.op ((R.eql rfl rfl rfl).val (congrArg Value.bool (decide_eq_true (by rfl)))) rfl rfl rfl ?_
  refine KL.op (R.pick rfl rfl rfl) rfl rfl rfl ?_
  refine KL.nil (KQ.seq (KC.condT rfl (KC.seq (KC.region (KL.op (R.move rfl rfl) rfl rfl rfl (KL.op (R.move rfl rfl) rfl rfl rfl ?_))))))
  refine KL.op (R.lss rfl rfl rfl) rfl rfl rfl ?_
  refine KL.op (R.assign rfl rfl) rfl rfl rfl (KL.nil (KQ.seq (KC.region (KL.op (R.move rfl rfl) rfl rfl rfl (KL.op (R.move rfl rfl) rfl rfl rfl ?_)))))
  refine KL.op (R.lss rfl rfl rfl) rfl rfl rfl ?_
  refine KL.op (R.assign rfl rfl) rfl rfl rfl (KL.nil (KQ.seq (KC.seq (KC.seq (KC.region (KL.op (R.move rfl rfl) rfl rfl rfl (KL.nil (KQ.seq (KC.block ?_)))))))))
  refine KC.seq (KC.region ?_)
  refine KL.op ((R.eql rfl rfl rfl).val (congrArg Value.bool (decide_eq_false (by decide)))) rfl rfl rfl ?_
  refine KL.op (R.assign rfl rfl) rfl rfl rfl (KL.nil (KQ.seq (KC.condF rfl (KC.seq (KC.region ?_)))))
  refine KL.op ((R.eql rfl rfl rfl).val (congrArg Value.bool (decide_eq_false (by decide)))) rfl rfl rfl ?_
  refine KL.op (R.assign rfl rfl) rfl rfl rfl (KL.nil (KQ.seq (KC.condF rfl (KC.seq (KC.seq (KC.region ?_))))))
  refine KL.op ((R.eql rfl rfl rfl).val (congrArg Value.bool (decide_eq_false (by decide)))) rfl rfl rfl ?_
  refine KL.op (R.assign rfl rfl) rfl rfl rfl (KL.nil (KQ.seq (KC.condF rfl (KC.region ?_))))
  refine KL.op ((R.eql rfl rfl rfl).val (congrArg Value.bool (decide_eq_false (by decide)))) rfl rfl rfl ?_
  refine KL.op (R.assign rfl rfl) rfl rfl rfl (KL.nil (KQ.seq (KC.condF rfl (KC.seq (KC.seq (KC.region ?_))))))
  refine KL.op ((R.eql rfl rfl rfl).val (congrArg Value.bool (decide_eq_false (by decide)))) rfl rfl rfl ?_
  refine KL.op (R.assign rfl rfl) rfl rfl rfl (KL.nil (KQ.seq (KC.condF rfl (KC.region ?_))))
  refine KL.op ((R.eql rfl rfl rfl).val (congrArg Value.bool (decide_eq_true (by rfl)))) rfl rfl rfl ?_
  refine KL.op (R.assign rfl rfl) rfl rfl rfl (KL.nil (KQ.seq (KC.condT rfl (KC.seq (KC.region (KL.op (R.move rfl rfl) rfl rfl rfl ?_))))))
  refine KL.call rfl rfl rfl rfl Tryd.call24 rfl rfl rfl (rone_k _) ?_
  rintro _ _ ⟨rfl, rfl⟩
  refine KL.op (R.assign rfl rfl) rfl rfl rfl (KL.op (R.assign rfl rfl) rfl rfl rfl (KL.nil (KQ.seq (KC.ret (KQ.retBlock (KQ.retThen (KQ.retBlock (KQ.retThen (KQ.ofRet ?_)))))))))
  refine KQ.fin2 Tryd.results12 rfl rfl ?_
  exact ⟨Wr.tupR (by rw [Wr.E81 ⟨by decide, by decide⟩]; apply Wr.pair; rfl), o0⟩

set_option maxRecDepth 100000 in
set_option maxHeartbeats 4000000 in
theorem rDo_87 {H : Heap} (a b : Nat) (ha : a < 18446744073709551616) (hb : b < 18446744073709551616) : Ct Tryd.prog 12 [.int .u8 87, .int .u64 (a : Nat), .int .u64 (b : Nat)] H (fun u H' => u = .tuple #[.int .u64 (Wd.E 87 a b).1, .int .u8 (Wd.E 87 a b).2] ∧ Old H H') := by
  refine Ct.mk Tryd.func12 rfl Tryd.ntmps12 rfl ?_
  intro W0 hW0
  have o0 : Old H H := Old.refl H
  refine KC.seq (KC.region (KL.op (R.assign rfl rfl) rfl rfl rfl (KL.op (R.assign rfl rfl) rfl rfl rfl (KL.nil (KQ.seq (KC.seq (KC.region (KL.op (R.move rfl rfl) rfl rfl rfl ?_))))))))
  refine KL.call rfl rfl rfl rfl Tryd.call21 rfl rfl rfl (num_87) ?_
  rintro _ _ ⟨rfl, rfl⟩
  refine KL.op (R.move rfl rfl) rfl rfl rfl (KL.op (R.extract rfl rfl rfl) rfl rfl rfl (KL.op (R.extract rfl rfl rfl) rfl rfl rfl (KL.op (R.extract rfl rfl rfl) rfl rfl rfl (KL.op (R.assign rfl rfl) rfl rfl rfl (KL.op (R.assign rfl rfl) rfl rfl rfl (KL.op (R.assign rfl rfl) rfl rfl rfl (KL.nil (KQ.seq (KC.seq ?_)))))))))
  refine KC.region (KL.op (R.move rfl rfl) rfl rfl rfl (KL.op (R.move rfl rfl) rfl rfl rfl (KL.op (R.assign rfl rfl) rfl rfl rfl (KL.op (R.assign rfl rfl) rfl rfl rfl (KL.nil (KQ.seq (KC.seq (KC.seq (KC.region ?_)))))))))
  refine KL.op (R.move rfl rfl) rfl rfl rfl ?_
  refine KL.op ((R.eql rfl rfl rfl).val (congrArg Value.bool (decide_eq_false (by decide)))) rfl rfl rfl ?_
  refine KL.nil (KQ.seq (KC.condF rfl ?_))
  refine KC.skip ?_
  refine KQ.seq (KC.seq (KC.seq (KC.region (KL.op (R.move rfl rfl) rfl rfl rfl (KL.nil (KQ.seq (KC.block (KC.seq (KC.region ?_)))))))))
  refine KL.op ((R.eql rfl rfl rfl).val (congrArg Value.bool (decide_eq_true (by rfl)))) rfl rfl rfl ?_
  refine KL.op (R.assign rfl rfl) rfl rfl rfl (KL.nil (KQ.seq (KC.condT rfl (KC.seq (KC.region (KL.op (R.move rfl rfl) rfl rfl rfl (KL.op (R.move rfl rfl) rfl rfl rfl (KL.op (R.move rfl rfl) rfl rfl rfl ?_))))))))
  refine KL.call rfl rfl rfl rfl Tryd.call23 rfl rfl rfl (below64_k (a) (b) (by omega) (by omega)) ?_
  rintro _ _ ⟨rfl, rfl⟩
  refine KL.op (R.move rfl rfl) rfl rfl rfl (KL.op (R.move rfl rfl) rfl rfl rfl (KL.op (R.move rfl rfl) rfl rfl rfl ?_))
  refine KL.call rfl rfl rfl rfl Tryd.call23 rfl rfl rfl (below64_k (b) (a) (by omega) (by omega)) ?_
  rintro _ _ ⟨rfl, rfl⟩
  refine KL.op (R.assign rfl rfl) rfl rfl rfl (KL.op (R.assign rfl rfl) rfl rfl rfl (KL.nil (KQ.seq (KC.seq (KC.seq (KC.region (KL.op (R.move rfl rfl) rfl rfl rfl ?_)))))))
  refine KL.op ((R.gtr rfl rfl rfl).val (congrArg Value.bool (decide_eq_true (by decide)))) rfl rfl rfl ?_
  refine KL.op (R.move rfl rfl) rfl rfl rfl (KL.op (R.move rfl rfl) rfl rfl rfl ?_)
  refine KL.op ((R.rem rfl rfl rfl (by decide) (by decide)).val (congrArg (Value.int .i64) (show (6 : Int) % 2 = 0 by decide))) rfl rfl rfl ?_
  refine KL.op ((R.eql rfl rfl rfl).val (congrArg Value.bool (decide_eq_false (by decide)))) rfl rfl rfl ?_
  refine KL.op (R.pick rfl rfl rfl) rfl rfl rfl ?_
  refine KL.nil (KQ.seq (KC.condF rfl ?_))
  refine KC.skip ?_
  refine KQ.seq (KC.seq (KC.seq (KC.region (KL.op (R.move rfl rfl) rfl rfl rfl (KL.nil (KQ.seq (KC.block (KC.seq (KC.region ?_)))))))))
  refine KL.op ((R.eql rfl rfl rfl).val (congrArg Value.bool (decide_eq_false (by decide)))) rfl rfl rfl ?_
  refine KL.op (R.assign rfl rfl) rfl rfl rfl (KL.nil (KQ.seq (KC.condF rfl (KC.seq (KC.region ?_)))))
  refine KL.op ((R.eql rfl rfl rfl).val (congrArg Value.bool (decide_eq_false (by decide)))) rfl rfl rfl ?_
  refine KL.op (R.assign rfl rfl) rfl rfl rfl (KL.nil (KQ.seq (KC.condF rfl (KC.seq (KC.seq (KC.region ?_))))))
  refine KL.op ((R.eql rfl rfl rfl).val (congrArg Value.bool (decide_eq_false (by decide)))) rfl rfl rfl ?_
  refine KL.op (R.assign rfl rfl) rfl rfl rfl (KL.nil (KQ.seq (KC.condF rfl (KC.region ?_))))
  refine KL.op ((R.eql rfl rfl rfl).val (congrArg Value.bool (decide_eq_false (by decide)))) rfl rfl rfl ?_
  refine KL.op (R.assign rfl rfl) rfl rfl rfl (KL.nil (KQ.seq (KC.condF rfl (KC.seq (KC.seq (KC.region ?_))))))
  refine KL.op ((R.eql rfl rfl rfl).val (congrArg Value.bool (decide_eq_false (by decide)))) rfl rfl rfl ?_
  refine KL.op (R.assign rfl rfl) rfl rfl rfl (KL.nil (KQ.seq (KC.condF rfl (KC.region ?_))))
  refine KL.op ((R.eql rfl rfl rfl).val (congrArg Value.bool (decide_eq_false (by decide)))) rfl rfl rfl ?_
  refine KL.op (R.assign rfl rfl) rfl rfl rfl (KL.nil (KQ.seq (KC.condF rfl (KC.seq (KC.seq (KC.region ?_))))))
  refine KL.op ((R.eql rfl rfl rfl).val (congrArg Value.bool (decide_eq_true (by rfl)))) rfl rfl rfl ?_
  refine KL.op (R.assign rfl rfl) rfl rfl rfl (KL.nil (KQ.seq (KC.condT rfl ?_)))
  refine KC.skip ?_
  refine KQ.seq (KC.condT rfl (KC.seq (KC.region (KL.op (R.move rfl rfl) rfl rfl rfl ?_))))
  refine KL.op (R.not rfl rfl) rfl rfl rfl ?_
  refine KL.call rfl rfl rfl rfl Tryd.call24 rfl rfl rfl (rone_k _) ?_
  rintro _ _ ⟨rfl, rfl⟩
  refine KL.op (R.assign rfl rfl) rfl rfl rfl (KL.op (R.assign rfl rfl) rfl rfl rfl (KL.nil (KQ.seq (KC.ret (KQ.retBlock (KQ.retThen (KQ.retBlock (KQ.retThen (KQ.ofRet ?_)))))))))
  refine KQ.fin2 Tryd.results12 rfl rfl ?_
  exact ⟨Wr.tupR (by rw [Wr.E81 ⟨by decide, by decide⟩]; apply Wr.pair; rw [Wr.bel64 hb ha, Wr.nlt]; rfl), o0⟩

set_option maxRecDepth 100000 in
set_option maxHeartbeats 4000000 in
theorem rDo_88 {H : Heap} (a b : Nat) (ha : a < 18446744073709551616) (hb : b < 18446744073709551616) : Ct Tryd.prog 12 [.int .u8 88, .int .u64 (a : Nat), .int .u64 (b : Nat)] H (fun u H' => u = .tuple #[.int .u64 (Wd.E 88 a b).1, .int .u8 (Wd.E 88 a b).2] ∧ Old H H') := by
  refine Ct.mk Tryd.func12 rfl Tryd.ntmps12 rfl ?_
  intro W0 hW0
  have o0 : Old H H := Old.refl H
  refine KC.seq (KC.region (KL.op (R.assign rfl rfl) rfl rfl rfl (KL.op (R.assign rfl rfl) rfl rfl rfl (KL.nil (KQ.seq (KC.seq (KC.region (KL.op (R.move rfl rfl) rfl rfl rfl ?_))))))))
  refine KL.call rfl rfl rfl rfl Tryd.call21 rfl rfl rfl (num_88) ?_
  rintro _ _ ⟨rfl, rfl⟩
  refine KL.op (R.move rfl rfl) rfl rfl rfl (KL.op (R.extract rfl rfl rfl) rfl rfl rfl (KL.op (R.extract rfl rfl rfl) rfl rfl rfl (KL.op (R.extract rfl rfl rfl) rfl rfl rfl (KL.op (R.assign rfl rfl) rfl rfl rfl (KL.op (R.assign rfl rfl) rfl rfl rfl (KL.op (R.assign rfl rfl) rfl rfl rfl (KL.nil (KQ.seq (KC.seq ?_)))))))))
  refine KC.region (KL.op (R.move rfl rfl) rfl rfl rfl (KL.op (R.move rfl rfl) rfl rfl rfl (KL.op (R.assign rfl rfl) rfl rfl rfl (KL.op (R.assign rfl rfl) rfl rfl rfl (KL.nil (KQ.seq (KC.seq (KC.seq (KC.region ?_)))))))))
  refine KL.op (R.move rfl rfl) rfl rfl rfl ?_
  refine KL.op ((R.eql rfl rfl rfl).val (congrArg Value.bool (decide_eq_false (by decide)))) rfl rfl rfl ?_
  refine KL.nil (KQ.seq (KC.condF rfl ?_))
  refine KC.skip ?_
  refine KQ.seq (KC.seq (KC.seq (KC.region (KL.op (R.move rfl rfl) rfl rfl rfl (KL.nil (KQ.seq (KC.block (KC.seq (KC.region ?_)))))))))
  refine KL.op ((R.eql rfl rfl rfl).val (congrArg Value.bool (decide_eq_true (by rfl)))) rfl rfl rfl ?_
  refine KL.op (R.assign rfl rfl) rfl rfl rfl (KL.nil (KQ.seq (KC.condT rfl (KC.seq (KC.region (KL.op (R.move rfl rfl) rfl rfl rfl (KL.op (R.move rfl rfl) rfl rfl rfl (KL.op (R.move rfl rfl) rfl rfl rfl ?_))))))))
  refine KL.call rfl rfl rfl rfl Tryd.call23 rfl rfl rfl (below64_k (a) (b) (by omega) (by omega)) ?_
  rintro _ _ ⟨rfl, rfl⟩
  refine KL.op (R.move rfl rfl) rfl rfl rfl (KL.op (R.move rfl rfl) rfl rfl rfl (KL.op (R.move rfl rfl) rfl rfl rfl ?_))
  refine KL.call rfl rfl rfl rfl Tryd.call23 rfl rfl rfl (below64_k (b) (a) (by omega) (by omega)) ?_
  rintro _ _ ⟨rfl, rfl⟩
  refine KL.op (R.assign rfl rfl) rfl rfl rfl (KL.op (R.assign rfl rfl) rfl rfl rfl (KL.nil (KQ.seq (KC.seq (KC.seq (KC.region (KL.op (R.move rfl rfl) rfl rfl rfl ?_)))))))
  refine KL.op ((R.gtr rfl rfl rfl).val (congrArg Value.bool (decide_eq_true (by decide)))) rfl rfl rfl ?_
  refine KL.op (R.move rfl rfl) rfl rfl rfl (KL.op (R.move rfl rfl) rfl rfl rfl ?_)
  refine KL.op ((R.rem rfl rfl rfl (by decide) (by decide)).val (congrArg (Value.int .i64) (show (7 : Int) % 2 = 1 by decide))) rfl rfl rfl ?_
  refine KL.op ((R.eql rfl rfl rfl).val (congrArg Value.bool (decide_eq_true (by rfl)))) rfl rfl rfl ?_
  refine KL.op (R.pick rfl rfl rfl) rfl rfl rfl ?_
  refine KL.nil (KQ.seq (KC.condT rfl (KC.seq (KC.region (KL.op (R.move rfl rfl) rfl rfl rfl (KL.op (R.move rfl rfl) rfl rfl rfl ?_))))))
  refine KL.op (R.lss rfl rfl rfl) rfl rfl rfl ?_
  refine KL.op (R.assign rfl rfl) rfl rfl rfl (KL.nil (KQ.seq (KC.region (KL.op (R.move rfl rfl) rfl rfl rfl (KL.op (R.move rfl rfl) rfl rfl rfl ?_)))))
  refine KL.op (R.lss rfl rfl rfl) rfl rfl rfl ?_
  refine KL.op (R.assign rfl rfl) rfl rfl rfl (KL.nil (KQ.seq (KC.seq (KC.seq (KC.region (KL.op (R.move rfl rfl) rfl rfl rfl (KL.nil (KQ.seq (KC.block ?_)))))))))
  refine KC.seq (KC.region ?_)
  refine KL.op ((R.eql rfl rfl rfl).val (congrArg Value.bool (decide_eq_false (by decide)))) rfl rfl rfl ?_
  refine KL.op (R.assign rfl rfl) rfl rfl rfl (KL.nil (KQ.seq (KC.condF rfl (KC.seq (KC.region ?_)))))
  refine KL.op ((R.eql rfl rfl rfl).val (congrArg Value.bool (decide_eq_false (by decide)))) rfl rfl rfl ?_
  refine KL.op (R.assign rfl rfl) rfl rfl rfl (KL.nil (KQ.seq (KC.condF rfl (KC.seq (KC.seq (KC.region ?_))))))
  refine KL.op ((R.eql rfl rfl rfl).val (congrArg Value.bool (decide_eq_false (by decide)))) rfl rfl rfl ?_
  refine KL.op (R.assign rfl rfl) rfl rfl rfl (KL.nil (KQ.seq (KC.condF rfl (KC.region ?_))))
  refine KL.op ((R.eql rfl rfl rfl).val (congrArg Value.bool (decide_eq_false (by decide)))) rfl rfl rfl ?_
  refine KL.op (R.assign rfl rfl) rfl rfl rfl (KL.nil (KQ.seq (KC.condF rfl (KC.seq (KC.seq (KC.region ?_))))))
  refine KL.op ((R.eql rfl rfl rfl).val (congrArg Value.bool (decide_eq_false (by decide)))) rfl rfl rfl ?_
  refine KL.op (R.assign rfl rfl) rfl rfl rfl (KL.nil (KQ.seq (KC.condF rfl (KC.region ?_))))
  refine KL.op ((R.eql rfl rfl rfl).val (congrArg Value.bool (decide_eq_false (by decide)))) rfl rfl rfl ?_
  refine KL.op (R.assign rfl rfl) rfl rfl rfl (KL.nil (KQ.seq (KC.condF rfl (KC.seq (KC.seq (KC.region ?_))))))
  refine KL.op ((R.eql rfl rfl rfl).val (congrArg Value.bool (decide_eq_false (by decide)))) rfl rfl rfl ?_
  refine KL.op (R.assign rfl rfl) rfl rfl rfl (KL.nil (KQ.seq (KC.condF rfl (KC.region ?_))))
  refine KL.op ((R.eql rfl rfl rfl).val (congrArg Value.bool (decide_eq_true (by rfl)))) rfl rfl rfl ?_
  refine KL.op (R.assign rfl rfl) rfl rfl rfl (KL.nil (KQ.seq (KC.condT rfl (KC.seq (KC.region (KL.op (R.move rfl rfl) rfl rfl rfl ?_))))))
  refine KL.op (R.not rfl rfl) rfl rfl rfl ?_
  refine KL.call rfl rfl rfl rfl Tryd.call24 rfl rfl rfl (rone_k _) ?_
  rintro _ _ ⟨rfl, rfl⟩
  refine KL.op (R.assign rfl rfl) rfl rfl rfl (KL.op (R.assign rfl rfl) rfl rfl rfl (KL.nil (KQ.seq (KC.ret (KQ.retBlock (KQ.retThen (KQ.retBlock (KQ.retThen (KQ.ofRet ?_)))))))))
  refine KQ.fin2 Tryd.results12 rfl rfl ?_
  exact ⟨Wr.tupR (by rw [Wr.E81 ⟨by decide, by decide⟩]; apply Wr.pair; rw [Wr.nlt]; rfl), o0⟩

set_option maxRecDepth 100000 in
set_option maxHeartbeats 4000000 in
theorem rDo_89 {H : Heap} (a b : Nat) (ha : a < 18446744073709551616) (hb : b < 18446744073709551616) : Ct Tryd.prog 12 [.int .u8 89, .int .u64 (a : Nat), .int .u64 (b : Nat)] H (fun u H' => u = .tuple #[.int .u64 (Wd.E 89 a b).1, .int .u8 (Wd.E 89 a b).2] ∧ Old H H') := by
  refine Ct.mk Tryd.func12 rfl Tryd.ntmps12 rfl ?_
  intro W0 hW0
  have o0 : Old H H := Old.refl H
  refine KC.seq (KC.region (KL.op (R.assign rfl rfl) rfl rfl rfl (KL.op (R.assign rfl rfl) rfl rfl rfl (KL.nil (KQ.seq (KC.seq (KC.region (KL.op (R.move rfl rfl) rfl rfl rfl ?_))))))))
  refine KL.call rfl rfl rfl rfl Tryd.call21 rfl rfl rfl (num_89) ?_
  rintro _ _ ⟨rfl, rfl⟩
  refine KL.op (R.move rfl rfl) rfl rfl rfl (KL.op (R.extract rfl rfl rfl) rfl rfl rfl (KL.op (R.extract rfl rfl rfl) rfl rfl rfl (KL.op (R.extract rfl rfl rfl) rfl rfl rfl (KL.op (R.assign rfl rfl) rfl rfl rfl (KL.op (R.assign rfl rfl) rfl rfl rfl (KL.op (R.assign rfl rfl) rfl rfl rfl (KL.nil (KQ.seq (KC.seq ?_)))))))))
  refine KC.region (KL.op (R.move rfl rfl) rfl rfl rfl (KL.op (R.move rfl rfl) rfl rfl rfl (KL.op (R.assign rfl rfl) rfl rfl rfl (KL.op (R.assign rfl rfl) rfl rfl rfl (KL.nil (KQ.seq (KC.seq (KC.seq (KC.region ?_)))))))))
  refine KL.op (R.move rfl rfl) rfl rfl rfl ?_
  refine KL.op ((R.eql rfl rfl rfl).val (congrArg Value.bool (decide_eq_false (by decide)))) rfl rfl rfl ?_
  refine KL.nil (KQ.seq (KC.condF rfl ?_))
  refine KC.skip ?_
  refine KQ.seq (KC.seq (KC.seq (KC.region (KL.op (R.move rfl rfl) rfl rfl rfl (KL.nil (KQ.seq (KC.block (KC.seq (KC.region ?_)))))))))
  refine KL.op ((R.eql rfl rfl rfl).val (congrArg Value.bool (decide_eq_true (by rfl)))) rfl rfl rfl ?_
  refine KL.op (R.assign rfl rfl) rfl rfl rfl (KL.nil (KQ.seq (KC.condT rfl (KC.seq (KC.region (KL.op (R.move rfl rfl) rfl rfl rfl (KL.op (R.move rfl rfl) rfl rfl rfl (KL.op (R.move rfl rfl) rfl rfl rfl ?_))))))))
  refine KL.call rfl rfl rfl rfl Tryd.call23 rfl rfl rfl (below64_k (a) (b) (by omega) (by omega)) ?_
  rintro _ _ ⟨rfl, rfl⟩
  refine KL.op (R.move rfl rfl) rfl rfl rfl (KL.op (R.move rfl rfl) rfl rfl rfl (KL.op (R.move rfl rfl) rfl rfl rfl ?_))
  refine KL.call rfl rfl rfl rfl Tryd.call23 rfl rfl rfl (below64_k (b) (a) (by omega) (by omega)) ?_
  rintro _ _ ⟨rfl, rfl⟩
  refine KL.op (R.assign rfl rfl) rfl rfl rfl (KL.op (R.assign rfl rfl) rfl rfl rfl (KL.nil (KQ.seq (KC.seq (KC.seq (KC.region (KL.op (R.move rfl rfl) rfl rfl rfl ?_)))))))
  refine KL.op ((R.gtr rfl rfl rfl).val (congrArg Value.bool (decide_eq_true (by decide)))) rfl rfl rfl ?_
  refine KL.op (R.move rfl rfl) rfl rfl rfl (KL.op (R.move rfl rfl) rfl rfl rfl ?_)
  refine KL.op ((R.rem rfl rfl rfl (by decide) (by decide)).val (congrArg (Value.int .i64) (show (8 : Int) % 2 = 0 by decide))) rfl rfl rfl ?_
  refine KL.op ((R.eql rfl rfl rfl).val (congrArg Value.bool (decide_eq_false (by decide)))) rfl rfl rfl ?_
  refine KL.op (R.pick rfl rfl rfl) rfl rfl rfl ?_
  refine KL.nil (KQ.seq (KC.condF rfl ?_))
  refine KC.skip ?_
  refine KQ.seq (KC.seq (KC.seq (KC.region (KL.op (R.move rfl rfl) rfl rfl rfl (KL.nil (KQ.seq (KC.block (KC.seq (KC.region ?_)))))))))
  refine KL.op ((R.eql rfl rfl rfl).val (congrArg Value.bool (decide_eq_false (by decide)))) rfl rfl rfl ?_
  refine KL.op (R.assign rfl rfl) rfl rfl rfl (KL.nil (KQ.seq (KC.condF rfl (KC.seq (KC.region ?_)))))
  refine KL.op ((R.eql rfl rfl rfl).val (congrArg Value.bool (decide_eq_false (by decide)))) rfl rfl rfl ?_
  refine KL.op (R.assign rfl rfl) rfl rfl rfl (KL.nil (KQ.seq (KC.condF rfl (KC.seq (KC.seq (KC.region ?_))))))
  refine KL.op ((R.eql rfl rfl rfl).val (congrArg Value.bool (decide_eq_false (by decide)))) rfl rfl rfl ?_
  refine KL.op (R.assign rfl rfl) rfl rfl rfl (KL.nil (KQ.seq (KC.condF rfl (KC.region ?_))))
  refine KL.op ((R.eql rfl rfl rfl).val (congrArg Value.bool (decide_eq_false (by decide)))) rfl rfl rfl ?_
  refine KL.op (R.assign rfl rfl) rfl rfl rfl (KL.nil (KQ.seq (KC.condF rfl (KC.seq (KC.seq (KC.region ?_))))))
  refine KL.op ((R.eql rfl rfl rfl).val (congrArg Value.bool (decide_eq_false (by decide)))) rfl rfl rfl ?_
  refine KL.op (R.assign rfl rfl) rfl rfl rfl (KL.nil (KQ.seq (KC.condF rfl (KC.region ?_))))
  refine KL.op ((R.eql rfl rfl rfl).val (congrArg Value.bool (decide_eq_false (by decide)))) rfl rfl rfl ?_
  refine KL.op (R.assign rfl rfl) rfl rfl rfl (KL.nil (KQ.seq (KC.condF rfl (KC.seq (KC.seq (KC.region ?_))))))
  refine KL.op ((R.eql rfl rfl rfl).val (congrArg Value.bool (decide_eq_false (by decide)))) rfl rfl rfl ?_
  refine KL.op (R.assign rfl rfl) rfl rfl rfl (KL.nil (KQ.seq (KC.condF rfl (KC.region ?_))))
  refine KL.op ((R.eql rfl rfl rfl).val (congrArg Value.bool (decide_eq_false (by decide)))) rfl rfl rfl ?_
  refine KL.op (R.assign rfl rfl) rfl rfl rfl (KL.nil (KQ.seq (KC.condF rfl ?_)))
  refine KC.skip ?_
  refine KQ.normBlock (KQ.seq (KC.seq (KC.region (KL.op (R.move rfl rfl) rfl rfl rfl ?_))))
  refine KL.op (R.not rfl rfl) rfl rfl rfl ?_
  refine KL.call rfl rfl rfl rfl Tryd.call24 rfl rfl rfl (rone_k _) ?_
  rintro _ _ ⟨rfl, rfl⟩
  refine KL.op (R.assign rfl rfl) rfl rfl rfl (KL.op (R.assign rfl rfl) rfl rfl rfl (KL.nil (KQ.seq (KC.ret (KQ.retBlock (KQ.retThen (KQ.ofRet ?_)))))))
  refine KQ.fin2 Tryd.results12 rfl rfl ?_
  exact ⟨Wr.tupR (by rw [Wr.E81 ⟨by decide, by decide⟩]; apply Wr.pair; rw [Wr.bel64 ha hb, Wr.nlt]; rfl), o0⟩

set_option maxRecDepth 100000 in
set_option maxHeartbeats 4000000 in
theorem rDo_90 {H : Heap} (a b : Nat) (ha : a < 18446744073709551616) (hb : b < 18446744073709551616) : Ct Tryd.prog 12 [.int .u8 90, .int .u64 (a : Nat), .int .u64 (b : Nat)] H (fun u H' => u = .tuple #[.int .u64 (Wd.E 90 a b).1, .int .u8 (Wd.E 90 a b).2] ∧ Old H H') := by
  refine Ct.mk Tryd.func12 rfl Tryd.ntmps12 rfl ?_
  intro W0 hW0
  have o0 : Old H H := Old.refl H
  refine KC.seq (KC.region (KL.op (R.assign rfl rfl) rfl rfl rfl (KL.op (R.assign rfl rfl) rfl rfl rfl (KL.nil (KQ.seq (KC.seq (KC.region (KL.op (R.move rfl rfl) rfl rfl rfl ?_))))))))
  refine KL.call rfl rfl rfl rfl Tryd.call21 rfl rfl rfl (num_90) ?_
  rintro _ _ ⟨rfl, rfl⟩
  refine KL.op (R.move rfl rfl) rfl rfl rfl (KL.op (R.extract rfl rfl rfl) rfl rfl rfl (KL.op (R.extract rfl rfl rfl) rfl rfl rfl (KL.op (R.extract rfl rfl rfl) rfl rfl rfl (KL.op (R.assign rfl rfl) rfl rfl rfl (KL.op (R.assign rfl rfl) rfl rfl rfl (KL.op (R.assign rfl rfl) rfl rfl rfl (KL.nil (KQ.seq (KC.seq ?_)))))))))
  refine KC.region (KL.op (R.move rfl rfl) rfl rfl rfl (KL.op (R.move rfl rfl) rfl rfl rfl (KL.op (R.assign rfl rfl) rfl rfl rfl (KL.op (R.assign rfl rfl) rfl rfl rfl (KL.nil (KQ.seq (KC.seq (KC.seq (KC.region ?_)))))))))
  refine KL.op (R.move rfl rfl) rfl rfl rfl ?_
  refine KL.op ((R.eql rfl rfl rfl).val (congrArg Value.bool (decide_eq_false (by decide)))) rfl rfl rfl ?_
  refine KL.nil (KQ.seq (KC.condF rfl ?_))
  refine KC.skip ?_
  refine KQ.seq (KC.seq (KC.seq (KC.region (KL.op (R.move rfl rfl) rfl rfl rfl (KL.nil (KQ.seq (KC.block (KC.seq (KC.region ?_)))))))))
  refine KL.op ((R.eql rfl rfl rfl).val (congrArg Value.bool (decide_eq_true (by rfl)))) rfl rfl rfl ?_
  refine KL.op (R.assign rfl rfl) rfl rfl rfl (KL.nil (KQ.seq (KC.condT rfl (KC.seq (KC.region (KL.op (R.move rfl rfl) rfl rfl rfl (KL.op (R.move rfl rfl) rfl rfl rfl (KL.op (R.move rfl rfl) rfl rfl rfl ?_))))))))
  refine KL.call rfl rfl rfl rfl Tryd.call23 rfl rfl rfl (below64_k (a) (b) (by omega) (by omega)) ?_
  rintro _ _ ⟨rfl, rfl⟩
  refine KL.op (R.move rfl rfl) rfl rfl rfl (KL.op (R.move rfl rfl) rfl rfl rfl (KL.op (R.move rfl rfl) rfl rfl rfl ?_))
  refine KL.call rfl rfl rfl rfl Tryd.call23 rfl rfl rfl (below64_k (b) (a) (by omega) (by omega)) ?_
  rintro _ _ ⟨rfl, rfl⟩
  refine KL.op (R.assign rfl rfl) rfl rfl rfl (KL.op (R.assign rfl rfl) rfl rfl rfl (KL.nil (KQ.seq (KC.seq (KC.seq (KC.region (KL.op (R.move rfl rfl) rfl rfl rfl ?_)))))))
  refine KL.op ((R.gtr rfl rfl rfl).val (congrArg Value.bool (decide_eq_true (by decide)))) rfl rfl rfl ?_
  refine KL.op (R.move rfl rfl) rfl rfl rfl (KL.op (R.move rfl rfl) rfl rfl rfl ?_)
  refine KL.op ((R.rem rfl rfl rfl (by decide) (by decide)).val (congrArg (Value.int .i64) (show (9 : Int) % 2 = 1 by decide))) rfl rfl rfl ?_
  refine KL.op ((R.eql rfl rfl rfl).val (congrArg Value.bool (decide_eq_true (by rfl)))) rfl rfl rfl ?_
  refine KL.op (R.pick rfl rfl rfl) rfl rfl rfl ?_
  refine KL.nil (KQ.seq (KC.condT rfl (KC.seq (KC.region (KL.op (R.move rfl rfl) rfl rfl rfl (KL.op (R.move rfl rfl) rfl rfl rfl ?_))))))
  refine KL.op (R.lss rfl rfl rfl) rfl rfl rfl ?_
  refine KL.op (R.assign rfl rfl) rfl rfl rfl (KL.nil (KQ.seq (KC.region (KL.op (R.move rfl rfl) rfl rfl rfl (KL.op (R.move rfl rfl) rfl rfl rfl ?_)))))
  refine KL.op (R.lss rfl rfl rfl) rfl rfl rfl ?_
  refine KL.op (R.assign rfl rfl) rfl rfl rfl (KL.nil (KQ.seq (KC.seq (KC.seq (KC.region (KL.op (R.move rfl rfl) rfl rfl rfl (KL.nil (KQ.seq (KC.block ?_)))))))))
  refine KC.seq (KC.region ?_)
  refine KL.op ((R.eql rfl rfl rfl).val (congrArg Value.bool (decide_eq_false (by decide)))) rfl rfl rfl ?_
  refine KL.op (R.assign rfl rfl) rfl rfl rfl (KL.nil (KQ.seq (KC.condF rfl (KC.seq (KC.region ?_)))))
  refine KL.op ((R.eql rfl rfl rfl).val (congrArg Value.bool (decide_eq_false (by decide)))) rfl rfl rfl ?_
  refine KL.op (R.assign rfl rfl) rfl rfl rfl (KL.nil (KQ.seq (KC.condF rfl (KC.seq (KC.seq (KC.region ?_))))))
  refine KL.op ((R.eql rfl rfl rfl).val (congrArg Value.bool (decide_eq_false (by decide)))) rfl rfl rfl ?_
  refine KL.op (R.assign rfl rfl) rfl rfl rfl (KL.nil (KQ.seq (KC.condF rfl (KC.region ?_))))
  refine KL.op ((R.eql rfl rfl rfl).val (congrArg Value.bool (decide_eq_false (by decide)))) rfl rfl rfl ?_
  refine KL.op (R.assign rfl rfl) rfl rfl rfl (KL.nil (KQ.seq (KC.condF rfl (KC.seq (KC.seq (KC.region ?_))))))
  refine KL.op ((R.eql rfl rfl rfl).val (congrArg Value.bool (decide_eq_false (by decide)))) rfl rfl rfl ?_
  refine KL.op (R.assign rfl rfl) rfl rfl rfl (KL.nil (KQ.seq (KC.condF rfl (KC.region ?_))))
  refine KL.op ((R.eql rfl rfl rfl).val (congrArg Value.bool (decide_eq_false (by decide)))) rfl rfl rfl ?_
  refine KL.op (R.assign rfl rfl) rfl rfl rfl (KL.nil (KQ.seq (KC.condF rfl (KC.seq (KC.seq (KC.region ?_))))))
  refine KL.op ((R.eql rfl rfl rfl).val (congrArg Value.bool (decide_eq_false (by decide)))) rfl rfl rfl ?_
  refine KL.op (R.assign rfl rfl) rfl rfl rfl (KL.nil (KQ.seq (KC.condF rfl (KC.region ?_))))
  refine KL.op ((R.eql rfl rfl rfl).val (congrArg Value.bool (decide_eq_false (by decide)))) rfl rfl rfl ?_
  refine KL.op (R.assign rfl rfl) rfl rfl rfl (KL.nil (KQ.seq (KC.condF rfl ?_)))
  refine KC.skip ?_
  refine KQ.normBlock (KQ.seq (KC.seq (KC.region (KL.op (R.move rfl rfl) rfl rfl rfl ?_))))
  refine KL.op (R.not rfl rfl) rfl rfl rfl ?_
  refine KL.call rfl rfl rfl rfl Tryd.call24 rfl rfl rfl (rone_k _) ?_
  rintro _ _ ⟨rfl, rfl⟩
  refine KL.op (R.assign rfl rfl) rfl rfl rfl (KL.op (R.assign rfl rfl) rfl rfl rfl (KL.nil (KQ.seq (KC.ret (KQ.retBlock (KQ.retThen (KQ.ofRet ?_)))))))
  refine KQ.fin2 Tryd.results12 rfl rfl ?_
  exact ⟨Wr.tupR (by rw [Wr.E81 ⟨by decide, by decide⟩]; apply Wr.pair; rw [Wr.nlt]; rfl), o0⟩

set_option maxRecDepth 100000 in
set_option maxHeartbeats 4000000 in
theorem rDo_103 {H : Heap} (a b : Nat) (ha : a < 18446744073709551616) (hb : b < 18446744073709551616) : Ct Tryd.prog 12 [.int .u8 103, .int .u64 (a : Nat), .int .u64 (b : Nat)] H (fun u H' => u = .tuple #[.int .u64 (Wd.E 103 a b).1, .int .u8 (Wd.E 103 a b).2] ∧ Old H H') := by
  refine Ct.mk Tryd.func12 rfl Tryd.ntmps12 rfl ?_
  intro W0 hW0
  have o0 : Old H H := Old.refl H
  refine KC.seq (KC.region (KL.op (R.assign rfl rfl) rfl rfl rfl (KL.op (R.assign rfl rfl) rfl rfl rfl (KL.nil (KQ.seq (KC.seq (KC.region (KL.op (R.move rfl rfl) rfl rfl rfl ?_))))))))
  refine KL.call rfl rfl rfl rfl Tryd.call21 rfl rfl rfl (num_103) ?_
  rintro _ _ ⟨rfl, rfl⟩
  refine KL.op (R.move rfl rfl) rfl rfl rfl (KL.op (R.extract rfl rfl rfl) rfl rfl rfl (KL.op (R.extract rfl rfl rfl) rfl rfl rfl (KL.op (R.extract rfl rfl rfl) rfl rfl rfl (KL.op (R.assign rfl rfl) rfl rfl rfl (KL.op (R.assign rfl rfl) rfl rfl rfl (KL.op (R.assign rfl rfl) rfl rfl rfl (KL.nil (KQ.seq (KC.seq ?_)))))))))
  refine KC.region (KL.op (R.move rfl rfl) rfl rfl rfl (KL.op (R.move rfl rfl) rfl rfl rfl (KL.op (R.assign rfl rfl) rfl rfl rfl (KL.op (R.assign rfl rfl) rfl rfl rfl (KL.nil (KQ.seq (KC.seq (KC.seq (KC.region ?_)))))))))
  refine KL.op (R.move rfl rfl) rfl rfl rfl ?_
  refine KL.op ((R.eql rfl rfl rfl).val (congrArg Value.bool (decide_eq_true (by rfl)))) rfl rfl rfl ?_
  refine KL.nil (KQ.seq (KC.condT rfl (KC.seq (KC.region (KL.op (R.move rfl rfl) rfl rfl rfl ?_)))))
  refine KL.call rfl rfl rfl rfl Tryd.call22 rfl rfl rfl (cutN32 a ha) ?_
  rintro _ _ ⟨rfl, rfl⟩
  refine KL.op (R.assign rfl rfl) rfl rfl rfl (KL.nil (KQ.seq (KC.region (KL.op (R.move rfl rfl) rfl rfl rfl ?_))))
  refine KL.call rfl rfl rfl rfl Tryd.call22 rfl rfl rfl (cutN32 b hb) ?_
  rintro _ _ ⟨rfl, rfl⟩
  refine KL.op (R.assign rfl rfl) rfl rfl rfl (KL.nil (KQ.seq (KC.seq (KC.seq (KC.region (KL.op (R.move rfl rfl) rfl rfl rfl (KL.nil (KQ.seq (KC.block ?_)))))))))
  refine KC.seq (KC.region ?_)
  refine KL.op ((R.eql rfl rfl rfl).val (congrArg Value.bool (decide_eq_false (by decide)))) rfl rfl rfl ?_
  refine KL.op (R.assign rfl rfl) rfl rfl rfl (KL.nil (KQ.seq (KC.condF rfl (KC.seq (KC.region ?_)))))
  refine KL.op ((R.eql rfl rfl rfl).val (congrArg Value.bool (decide_eq_true (by rfl)))) rfl rfl rfl ?_
  refine KL.op (R.assign rfl rfl) rfl rfl rfl (KL.nil (KQ.seq (KC.condT rfl (KC.seq (KC.region (KL.op (R.move rfl rfl) rfl rfl rfl (KL.op (R.move rfl rfl) rfl rfl rfl (KL.op (R.move rfl rfl) rfl rfl rfl ?_))))))))
  refine KL.call rfl rfl rfl rfl Tryd.call25 rfl rfl rfl (Count32_0 (a % 4294967296) (by omega)) ?_
  rintro _ _ ⟨⟨c, hc, rfl, hl, h1⟩, rfl⟩
  refine KL.op (R.assign rfl rfl) rfl rfl rfl (KL.op (R.assign rfl rfl) rfl rfl rfl (KL.nil (KQ.seq (KC.ret (KQ.retBlock (KQ.retThen (KQ.ofRet ?_)))))))
  refine KQ.fin2 Tryd.results12 rfl rfl ?_
  exact ⟨Wr.tupR (by rw [Wd.E103 ⟨by decide, by decide⟩, Wr.low32]; exact Wr.pair (Wr.count0 (n := 32) (by decide) (by rw [Wr.e32]; omega) hc hl h1)), o0⟩

set_option maxRecDepth 100000 in
set_option maxHeartbeats 4000000 in
theorem rDo_104 {H : Heap} (a b : Nat) (ha : a < 18446744073709551616) (hb : b < 18446744073709551616) : Ct Tryd.prog 12 [.int .u8 104, .int .u64 (a : Nat), .int .u64 (b : Nat)] H (fun u H' => u = .tuple #[.int .u64 (Wd.E 104 a b).1, .int .u8 (Wd.E 104 a b).2] ∧ Old H H') := by
  refine Ct.mk Tryd.func12 rfl Tryd.ntmps12 rfl ?_
  intro W0 hW0
  have o0 : Old H H := Old.refl H
  refine KC.seq (KC.region (KL.op (R.assign rfl rfl) rfl rfl rfl (KL.op (R.assign rfl rfl) rfl rfl rfl (KL.nil (KQ.seq (KC.seq (KC.region (KL.op (R.move rfl rfl) rfl rfl rfl ?_))))))))
  refine KL.call rfl rfl rfl rfl Tryd.call21 rfl rfl rfl (num_104) ?_
  rintro _ _ ⟨rfl, rfl⟩
  refine KL.op (R.move rfl rfl) rfl rfl rfl (KL.op (R.extract rfl rfl rfl) rfl rfl rfl (KL.op (R.extract rfl rfl rfl) rfl rfl rfl (KL.op (R.extract rfl rfl rfl) rfl rfl rfl (KL.op (R.assign rfl rfl) rfl rfl rfl (KL.op (R.assign rfl rfl) rfl rfl rfl (KL.op (R.assign rfl rfl) rfl rfl rfl (KL.nil (KQ.seq (KC.seq ?_)))))))))
  refine KC.region (KL.op (R.move rfl rfl) rfl rfl rfl (KL.op (R.move rfl rfl) rfl rfl rfl (KL.op (R.assign rfl rfl) rfl rfl rfl (KL.op (R.assign rfl rfl) rfl rfl rfl (KL.nil (KQ.seq (KC.seq (KC.seq (KC.region ?_)))))))))
  refine KL.op (R.move rfl rfl) rfl rfl rfl ?_
  refine KL.op ((R.eql rfl rfl rfl).val (congrArg Value.bool (decide_eq_true (by rfl)))) rfl rfl rfl ?_
  refine KL.nil (KQ.seq (KC.condT rfl (KC.seq (KC.region (KL.op (R.move rfl rfl) rfl rfl rfl ?_)))))
  refine KL.call rfl rfl rfl rfl Tryd.call22 rfl rfl rfl (cutN32 a ha) ?_
  rintro _ _ ⟨rfl, rfl⟩
  refine KL.op (R.assign rfl rfl) rfl rfl rfl (KL.nil (KQ.seq (KC.region (KL.op (R.move rfl rfl) rfl rfl rfl ?_))))
  refine KL.call rfl rfl rfl rfl Tryd.call22 rfl rfl rfl (cutN32 b hb) ?_
  rintro _ _ ⟨rfl, rfl⟩
  refine KL.op (R.assign rfl rfl) rfl rfl rfl (KL.nil (KQ.seq (KC.seq (KC.seq (KC.region (KL.op (R.move rfl rfl) rfl rfl rfl (KL.nil (KQ.seq (KC.block ?_)))))))))
  refine KC.seq (KC.region ?_)
  refine KL.op ((R.eql rfl rfl rfl).val (congrArg Value.bool (decide_eq_false (by decide)))) rfl rfl rfl ?_
  refine KL.op (R.assign rfl rfl) rfl rfl rfl (KL.nil (KQ.seq (KC.condF rfl (KC.seq (KC.region ?_)))))
  refine KL.op ((R.eql rfl rfl rfl).val (congrArg Value.bool (decide_eq_true (by rfl)))) rfl rfl rfl ?_
  refine KL.op (R.assign rfl rfl) rfl rfl rfl (KL.nil (KQ.seq (KC.condT rfl (KC.seq (KC.region (KL.op (R.move rfl rfl) rfl rfl rfl (KL.op (R.move rfl rfl) rfl rfl rfl (KL.op (R.move rfl rfl) rfl rfl rfl ?_))))))))
  refine KL.call rfl rfl rfl rfl Tryd.call25 rfl rfl rfl (Count32_1 (a % 4294967296) (by omega)) ?_
  rintro _ _ ⟨⟨c, hc, rfl, hl, h1⟩, rfl⟩
  refine KL.op (R.assign rfl rfl) rfl rfl rfl (KL.op (R.assign rfl rfl) rfl rfl rfl (KL.nil (KQ.seq (KC.ret (KQ.retBlock (KQ.retThen (KQ.ofRet ?_)))))))
  refine KQ.fin2 Tryd.results12 rfl rfl ?_
  exact ⟨Wr.tupR (by rw [Wd.E103 ⟨by decide, by decide⟩, Wr.low32]; exact Wr.pair (Wr.count1 (n := 32) (by decide) (by rw [Wr.e32]; omega) hc hl h1)), o0⟩

set_option maxRecDepth 100000 in
set_option maxHeartbeats 4000000 in
theorem rDo_105 {H : Heap} (a b : Nat) (ha : a < 18446744073709551616) (hb : b < 18446744073709551616) : Ct Tryd.prog 12 [.int .u8 105, .int .u64 (a : Nat), .int .u64 (b : Nat)] H (fun u H' => u = .tuple #[.int .u64 (Wd.E 105 a b).1, .int .u8 (Wd.E 105 a b).2] ∧ Old H H') := by
  refine Ct.mk Tryd.func12 rfl Tryd.ntmps12 rfl ?_
  intro W0 hW0
  have o0 : Old H H := Old.refl H
  refine KC.seq (KC.region (KL.op (R.assign rfl rfl) rfl rfl rfl (KL.op (R.assign rfl rfl) rfl rfl rfl (KL.nil (KQ.seq (KC.seq (KC.region (KL.op (R.move rfl rfl) rfl rfl rfl ?_))))))))
  refine KL.call rfl rfl rfl rfl Tryd.call21 rfl rfl rfl (num_105) ?_
  rintro _ _ ⟨rfl, rfl⟩
  refine KL.op (R.move rfl rfl) rfl rfl rfl (KL.op (R.extract rfl rfl rfl) rfl rfl rfl (KL.op (R.extract rfl rfl rfl) rfl rfl rfl (KL.op (R.extract rfl rfl rfl) rfl rfl rfl (KL.op (R.assign rfl rfl) rfl rfl rfl (KL.op (R.assign rfl rfl) rfl rfl rfl (KL.op (R.assign rfl rfl) rfl rfl rfl (KL.nil (KQ.seq (KC.seq ?_)))))))))
  refine KC.region (KL.op (R.move rfl rfl) rfl rfl rfl (KL.op (R.move rfl rfl) rfl rfl rfl (KL.op (R.assign rfl rfl) rfl rfl rfl (KL.op (R.assign rfl rfl) rfl rfl rfl (KL.nil (KQ.seq (KC.seq (KC.seq (KC.region ?_)))))))))
  refine KL.op (R.move rfl rfl) rfl rfl rfl ?_
  refine KL.op ((R.eql rfl rfl rfl).val (congrArg Value.bool (decide_eq_true (by rfl)))) rfl rfl rfl ?_
  refine KL.nil (KQ.seq (KC.condT rfl (KC.seq (KC.region (KL.op (R.move rfl rfl) rfl rfl rfl ?_)))))
  refine KL.call rfl rfl rfl rfl Tryd.call22 rfl rfl rfl (cutN32 a ha) ?_
  rintro _ _ ⟨rfl, rfl⟩
  refine KL.op (R.assign rfl rfl) rfl rfl rfl (KL.nil (KQ.seq (KC.region (KL.op (R.move rfl rfl) rfl rfl rfl ?_))))
  refine KL.call rfl rfl rfl rfl Tryd.call22 rfl rfl rfl (cutN32 b hb) ?_
  rintro _ _ ⟨rfl, rfl⟩
  refine KL.op (R.assign rfl rfl) rfl rfl rfl (KL.nil (KQ.seq (KC.seq (KC.seq (KC.region (KL.op (R.move rfl rfl) rfl rfl rfl (KL.nil (KQ.seq (KC.block ?_)))))))))
  refine KC.seq (KC.region ?_)
  refine KL.op ((R.eql rfl rfl rfl).val (congrArg Value.bool (decide_eq_false (by decide)))) rfl rfl rfl ?_
  refine KL.op (R.assign rfl rfl) rfl rfl rfl (KL.nil (KQ.seq (KC.condF rfl (KC.seq (KC.region ?_)))))
  refine KL.op ((R.eql rfl rfl rfl).val (congrArg Value.bool (decide_eq_true (by rfl)))) rfl rfl rfl ?_
  refine KL.op (R.assign rfl rfl) rfl rfl rfl (KL.nil (KQ.seq (KC.condT rfl (KC.seq (KC.region (KL.op (R.move rfl rfl) rfl rfl rfl (KL.op (R.move rfl rfl) rfl rfl rfl (KL.op (R.move rfl rfl) rfl rfl rfl ?_))))))))
  refine KL.call rfl rfl rfl rfl Tryd.call25 rfl rfl rfl (Count32_2 (a % 4294967296) (by omega)) ?_
  rintro _ _ ⟨rfl, rfl⟩
  refine KL.op (R.assign rfl rfl) rfl rfl rfl (KL.op (R.assign rfl rfl) rfl rfl rfl (KL.nil (KQ.seq (KC.ret (KQ.retBlock (KQ.retThen (KQ.ofRet ?_)))))))
  refine KQ.fin2 Tryd.results12 rfl rfl ?_
  exact ⟨Wr.tupR (by rw [Wd.E103 ⟨by decide, by decide⟩, Wr.low32]; exact Wr.pair (Wr.count2 (n := 32) (by decide) (by rw [Wr.e32]; omega))), o0⟩

set_option maxRecDepth 100000 in
set_option maxHeartbeats 4000000 in
theorem rDo_106 {H : Heap} (a b : Nat) (ha : a < 18446744073709551616) (hb : b < 18446744073709551616) : Ct Tryd.prog 12 [.int .u8 106, .int .u64 (a : Nat), .int .u64 (b : Nat)] H (fun u H' => u = .tuple #[.int .u64 (Wd.E 106 a b).1, .int .u8 (Wd.E 106 a b).2] ∧ Old H H') := by
  refine Ct.mk Tryd.func12 rfl Tryd.ntmps12 rfl ?_
  intro W0 hW0
  have o0 : Old H H := Old.refl H
  refine KC.seq (KC.region (KL.op (R.assign rfl rfl) rfl rfl rfl (KL.op (R.assign rfl rfl) rfl rfl rfl (KL.nil (KQ.seq (KC.seq (KC.region (KL.op (R.move rfl rfl) rfl rfl rfl ?_))))))))
  refine KL.call rfl rfl rfl rfl Tryd.call21 rfl rfl rfl (num_106) ?_
  rintro _ _ ⟨rfl, rfl⟩
  refine KL.op (R.move rfl rfl) rfl rfl rfl (KL.op (R.extract rfl rfl rfl) rfl rfl rfl (KL.op (R.extract rfl rfl rfl) rfl rfl rfl (KL.op (R.extract rfl rfl rfl) rfl rfl rfl (KL.op (R.assign rfl rfl) rfl rfl rfl (KL.op (R.assign rfl rfl) rfl rfl rfl (KL.op (R.assign rfl rfl) rfl rfl rfl (KL.nil (KQ.seq (KC.seq ?_)))))))))
  refine KC.region (KL.op (R.move rfl rfl) rfl rfl rfl (KL.op (R.move rfl rfl) rfl rfl rfl (KL.op (R.assign rfl rfl) rfl rfl rfl (KL.op (R.assign rfl rfl) rfl rfl rfl (KL.nil (KQ.seq (KC.seq (KC.seq (KC.region ?_)))))))))
  refine KL.op (R.move rfl rfl) rfl rfl rfl ?_
  refine KL.op ((R.eql rfl rfl rfl).val (congrArg Value.bool (decide_eq_true (by rfl)))) rfl rfl rfl ?_
  refine KL.nil (KQ.seq (KC.condT rfl (KC.seq (KC.region (KL.op (R.move rfl rfl) rfl rfl rfl ?_)))))
  refine KL.call rfl rfl rfl rfl Tryd.call22 rfl rfl rfl (cutN32 a ha) ?_
  rintro _ _ ⟨rfl, rfl⟩
  refine KL.op (R.assign rfl rfl) rfl rfl rfl (KL.nil (KQ.seq (KC.region (KL.op (R.move rfl rfl) rfl rfl rfl ?_))))
  refine KL.call rfl rfl rfl rfl Tryd.call22 rfl rfl rfl (cutN32 b hb) ?_
  rintro _ _ ⟨rfl, rfl⟩
  refine KL.op (R.assign rfl rfl) rfl rfl rfl (KL.nil (KQ.seq (KC.seq (KC.seq (KC.region (KL.op (R.move rfl rfl) rfl rfl rfl (KL.nil (KQ.seq (KC.block ?_)))))))))
  refine KC.seq (KC.region ?_)
  refine KL.op ((R.eql rfl rfl rfl).val (congrArg Value.bool (decide_eq_false (by decide)))) rfl rfl rfl ?_
  refine KL.op (R.assign rfl rfl) rfl rfl rfl (KL.nil (KQ.seq (KC.condF rfl (KC.seq (KC.region ?_)))))
  refine KL.op ((R.eql rfl rfl rfl).val (congrArg Value.bool (decide_eq_false (by decide)))) rfl rfl rfl ?_
  refine KL.op (R.assign rfl rfl) rfl rfl rfl (KL.nil (KQ.seq (KC.condF rfl (KC.seq (KC.region ?_)))))
  refine KL.op ((R.eql rfl rfl rfl).val (congrArg Value.bool (decide_eq_true (by rfl)))) rfl rfl rfl ?_
  refine KL.op (R.assign rfl rfl) rfl rfl rfl (KL.nil (KQ.seq (KC.condT rfl (KC.seq (KC.block (KC.seq (KC.region (KL.op (R.move rfl rfl) rfl rfl rfl ?_))))))))
  refine KL.op ((R.eql rfl rfl rfl).val (congrArg Value.bool (decide_eq_true (by rfl)))) rfl rfl rfl ?_
  refine KL.op (R.assign rfl rfl) rfl rfl rfl (KL.nil (KQ.seq (KC.condT rfl (KC.seq (KC.region (KL.op (R.move rfl rfl) rfl rfl rfl (KL.op (R.move rfl rfl) rfl rfl rfl ?_)))))))
  refine KL.op (R.addW rfl rfl rfl) rfl rfl rfl ?_
  refine KL.op (R.move rfl rfl) rfl rfl rfl ?_
  refine KL.call rfl rfl rfl rfl Tryd.call22 rfl rfl rfl (cut32_k _ (Wd.r64 _)) ?_
  rintro _ _ ⟨rfl, rfl⟩
  refine KL.op (R.assign rfl rfl) rfl rfl rfl (KL.op (R.assign rfl rfl) rfl rfl rfl (KL.nil (KQ.seq (KC.ret (KQ.retBlock (KQ.retThen (KQ.retBlock (KQ.retThen (KQ.ofRet ?_)))))))))
  refine KQ.fin2 Tryd.results12 rfl rfl ?_
  exact ⟨Wr.tupR ((Wr.pair (Wr.add32 a b)).trans (Wd.E_sup (op := 106) _ _ (by omega)).symm), o0⟩

set_option maxRecDepth 100000 in
set_option maxHeartbeats 4000000 in
theorem rDo_107 {H : Heap} (a b : Nat) (ha : a < 18446744073709551616) (hb : b < 18446744073709551616) : Ct Tryd.prog 12 [.int .u8 107, .int .u64 (a : Nat), .int .u64 (b : Nat)] H (fun u H' => u = .tuple #[.int .u64 (Wd.E 107 a b).1, .int .u8 (Wd.E 107 a b).2] ∧ Old H H') := by
  refine Ct.mk Tryd.func12 rfl Tryd.ntmps12 rfl ?_
  intro W0 hW0
  have o0 : Old H H := Old.refl H
  refine KC.seq (KC.region (KL.op (R.assign rfl rfl) rfl rfl rfl (KL.op (R.assign rfl rfl) rfl rfl rfl (KL.nil (KQ.seq (KC.seq (KC.region (KL.op (R.move rfl rfl) rfl rfl rfl ?_))))))))
  refine KL.call rfl rfl rfl rfl Tryd.call21 rfl rfl rfl (num_107) ?_
  rintro _ _ ⟨rfl, rfl⟩
  refine KL.op (R.move rfl rfl) rfl rfl rfl (KL.op (R.extract rfl rfl rfl) rfl rfl rfl (KL.op (R.extract rfl rfl rfl) rfl rfl rfl (KL.op (R.extract rfl rfl rfl) rfl rfl rfl (KL.op (R.assign rfl rfl) rfl rfl rfl (KL.op (R.assign rfl rfl) rfl rfl rfl (KL.op (R.assign rfl rfl) rfl rfl rfl (KL.nil (KQ.seq (KC.seq ?_)))))))))
  refine KC.region (KL.op (R.move rfl rfl) rfl rfl rfl (KL.op (R.move rfl rfl) rfl rfl rfl (KL.op (R.assign rfl rfl) rfl rfl rfl (KL.op (R.assign rfl rfl) rfl rfl rfl (KL.nil (KQ.seq (KC.seq (KC.seq (KC.region ?_)))))))))
  refine KL.op (R.move rfl rfl) rfl rfl rfl ?_
  refine KL.op ((R.eql rfl rfl rfl).val (congrArg Value.bool (decide_eq_true (by rfl)))) rfl rfl rfl ?_
  refine KL.nil (KQ.seq (KC.condT rfl (KC.seq (KC.region (KL.op (R.move rfl rfl) rfl rfl rfl ?_)))))
  refine KL.call rfl rfl rfl rfl Tryd.call22 rfl rfl rfl (cutN32 a ha) ?_
  rintro _ _ ⟨rfl, rfl⟩
  refine KL.op (R.assign rfl rfl) rfl rfl rfl (KL.nil (KQ.seq (KC.region (KL.op (R.move rfl rfl) rfl rfl rfl ?_))))
  refine KL.call rfl rfl rfl rfl Tryd.call22 rfl rfl rfl (cutN32 b hb) ?_
  rintro _ _ ⟨rfl, rfl⟩
  refine KL.op (R.assign rfl rfl) rfl rfl rfl (KL.nil (KQ.seq (KC.seq (KC.seq (KC.region (KL.op (R.move rfl rfl) rfl rfl rfl (KL.nil (KQ.seq (KC.block ?_)))))))))
  refine KC.seq (KC.region ?_)
  refine KL.op ((R.eql rfl rfl rfl).val (congrArg Value.bool (decide_eq_false (by decide)))) rfl rfl rfl ?_
  refine KL.op (R.assign rfl rfl) rfl rfl rfl (KL.nil (KQ.seq (KC.condF rfl (KC.seq (KC.region ?_)))))
  refine KL.op ((R.eql rfl rfl rfl).val (congrArg Value.bool (decide_eq_false (by decide)))) rfl rfl rfl ?_
  refine KL.op (R.assign rfl rfl) rfl rfl rfl (KL.nil (KQ.seq (KC.condF rfl (KC.seq (KC.region ?_)))))
  refine KL.op ((R.eql rfl rfl rfl).val (congrArg Value.bool (decide_eq_true (by rfl)))) rfl rfl rfl ?_
  refine KL.op (R.assign rfl rfl) rfl rfl rfl (KL.nil (KQ.seq (KC.condT rfl (KC.seq (KC.block (KC.seq (KC.region (KL.op (R.move rfl rfl) rfl rfl rfl ?_))))))))
  refine KL.op ((R.eql rfl rfl rfl).val (congrArg Value.bool (decide_eq_false (by decide)))) rfl rfl rfl ?_
  refine KL.op (R.assign rfl rfl) rfl rfl rfl (KL.nil (KQ.seq (KC.condF rfl (KC.seq (KC.region (KL.op (R.move rfl rfl) rfl rfl rfl ?_))))))
  refine KL.op ((R.eql rfl rfl rfl).val (congrArg Value.bool (decide_eq_true (by rfl)))) rfl rfl rfl ?_
  refine KL.op (R.assign rfl rfl) rfl rfl rfl (KL.nil (KQ.seq (KC.condT rfl (KC.seq (KC.region (KL.op (R.move rfl rfl) rfl rfl rfl (KL.op (R.move rfl rfl) rfl rfl rfl ?_)))))))
  refine KL.op (R.subW rfl rfl rfl) rfl rfl rfl ?_
  refine KL.op (R.move rfl rfl) rfl rfl rfl ?_
  refine KL.call rfl rfl rfl rfl Tryd.call22 rfl rfl rfl (cut32_k _ (Wd.r64 _)) ?_
  rintro _ _ ⟨rfl, rfl⟩
  refine KL.op (R.assign rfl rfl) rfl rfl rfl (KL.op (R.assign rfl rfl) rfl rfl rfl (KL.nil (KQ.seq (KC.ret (KQ.retBlock (KQ.retThen (KQ.retBlock (KQ.retThen (KQ.ofRet ?_)))))))))
  refine KQ.fin2 Tryd.results12 rfl rfl ?_
  exact ⟨Wr.tupR ((Wr.pair (Wr.sub32' a b)).trans (Wd.E_sup (op := 107) _ _ (by omega)).symm), o0⟩

set_option maxRecDepth 100000 in
set_option maxHeartbeats 4000000 in
theorem rDo_108 {H : Heap} (a b : Nat) (ha : a < 18446744073709551616) (hb : b < 18446744073709551616) : Ct Tryd.prog 12 [.int .u8 108, .int .u64 (a : Nat), .int .u64 (b : Nat)] H (fun u H' => u = .tuple #[.int .u64 (Wd.E 108 a b).1, .int .u8 (Wd.E 108 a b).2] ∧ Old H H') := by
  refine Ct.mk Tryd.func12 rfl Tryd.ntmps12 rfl ?_
  intro W0 hW0
  have o0 : Old H H := Old.refl H
  refine KC.seq (KC.region (KL.op (R.assign rfl rfl) rfl rfl rfl (KL.op (R.assign rfl rfl) rfl rfl rfl (KL.nil (KQ.seq (KC.seq (KC.region (KL.op (R.move rfl rfl) rfl rfl rfl ?_))))))))
  refine KL.call rfl rfl rfl rfl Tryd.call21 rfl rfl rfl (num_108) ?_
  rintro _ _ ⟨rfl, rfl⟩
  refine KL.op (R.move rfl rfl) rfl rfl rfl (KL.op (R.extract rfl rfl rfl) rfl rfl rfl (KL.op (R.extract rfl rfl rfl) rfl rfl rfl (KL.op (R.extract rfl rfl rfl) rfl rfl rfl (KL.op (R.assign rfl rfl) rfl rfl rfl (KL.op (R.assign rfl rfl) rfl rfl rfl (KL.op (R.assign rfl rfl) rfl rfl rfl (KL.nil (KQ.seq (KC.seq ?_)))))))))
  refine KC.region (KL.op (R.move rfl rfl) rfl rfl rfl (KL.op (R.move rfl rfl) rfl rfl rfl (KL.op (R.assign rfl rfl) rfl rfl rfl (KL.op (R.assign rfl rfl) rfl rfl rfl (KL.nil (KQ.seq (KC.seq (KC.seq (KC.region ?_)))))))))
  refine KL.op (R.move rfl rfl) rfl rfl rfl ?_
  refine KL.op ((R.eql rfl rfl rfl).val (congrArg Value.bool (decide_eq_true (by rfl)))) rfl rfl rfl ?_
  refine KL.nil (KQ.seq (KC.condT rfl (KC.seq (KC.region (KL.op (R.move rfl rfl) rfl rfl rfl ?_)))))
  refine KL.call rfl rfl rfl rfl Tryd.call22 rfl rfl rfl (cutN32 a ha) ?_
  rintro _ _ ⟨rfl, rfl⟩
  refine KL.op (R.assign rfl rfl) rfl rfl rfl (KL.nil (KQ.seq (KC.region (KL.op (R.move rfl rfl) rfl rfl rfl ?_))))
  refine KL.call rfl rfl rfl rfl Tryd.call22 rfl rfl rfl (cutN32 b hb) ?_
  rintro _ _ ⟨rfl, rfl⟩
  refine KL.op (R.assign rfl rfl) rfl rfl rfl (KL.nil (KQ.seq (KC.seq (KC.seq (KC.region (KL.op (R.move rfl rfl) rfl rfl rfl (KL.nil (KQ.seq (KC.block ?_)))))))))
  refine KC.seq (KC.region ?_)
  refine KL.op ((R.eql rfl rfl rfl).val (congrArg Value.bool (decide_eq_false (by decide)))) rfl rfl rfl ?_
  refine KL.op (R.assign rfl rfl) rfl rfl rfl (KL.nil (KQ.seq (KC.condF rfl (KC.seq (KC.region ?_)))))
  refine KL.op ((R.eql rfl rfl rfl).val (congrArg Value.bool (decide_eq_false (by decide)))) rfl rfl rfl ?_
  refine KL.op (R.assign rfl rfl) rfl rfl rfl (KL.nil (KQ.seq (KC.condF rfl (KC.seq (KC.region ?_)))))
  refine KL.op ((R.eql rfl rfl rfl).val (congrArg Value.bool (decide_eq_true (by rfl)))) rfl rfl rfl ?_
  refine KL.op (R.assign rfl rfl) rfl rfl rfl (KL.nil (KQ.seq (KC.condT rfl (KC.seq (KC.block (KC.seq (KC.region (KL.op (R.move rfl rfl) rfl rfl rfl ?_))))))))
  refine KL.op ((R.eql rfl rfl rfl).val (congrArg Value.bool (decide_eq_false (by decide)))) rfl rfl rfl ?_
  refine KL.op (R.assign rfl rfl) rfl rfl rfl (KL.nil (KQ.seq (KC.condF rfl (KC.seq (KC.region (KL.op (R.move rfl rfl) rfl rfl rfl ?_))))))
  refine KL.op ((R.eql rfl rfl rfl).val (congrArg Value.bool (decide_eq_false (by decide)))) rfl rfl rfl ?_
  refine KL.op (R.assign rfl rfl) rfl rfl rfl (KL.nil (KQ.seq (KC.condF rfl (KC.seq (KC.region (KL.op (R.move rfl rfl) rfl rfl rfl ?_))))))
  refine KL.op ((R.eql rfl rfl rfl).val (congrArg Value.bool (decide_eq_true (by rfl)))) rfl rfl rfl ?_
  refine KL.op (R.assign rfl rfl) rfl rfl rfl (KL.nil (KQ.seq (KC.condT rfl (KC.seq (KC.region (KL.op (R.move rfl rfl) rfl rfl rfl (KL.op (R.move rfl rfl) rfl rfl rfl ?_)))))))
  refine KL.op (R.mulW rfl rfl rfl) rfl rfl rfl ?_
  refine KL.op (R.move rfl rfl) rfl rfl rfl ?_
  refine KL.call rfl rfl rfl rfl Tryd.call22 rfl rfl rfl (cut32_k _ (Wd.r64 _)) ?_
  rintro _ _ ⟨rfl, rfl⟩
  refine KL.op (R.assign rfl rfl) rfl rfl rfl (KL.op (R.assign rfl rfl) rfl rfl rfl (KL.nil (KQ.seq (KC.ret (KQ.retBlock (KQ.retThen (KQ.retBlock (KQ.retThen (KQ.ofRet ?_)))))))))
  refine KQ.fin2 Tryd.results12 rfl rfl ?_
  exact ⟨Wr.tupR ((Wr.pair (Wr.mul32 a b)).trans (Wd.E_sup (op := 108) _ _ (by omega)).symm), o0⟩

set_option maxRecDepth 100000 in
set_option maxHeartbeats 4000000 in
theorem rDo_121 {H : Heap} (a b : Nat) (ha : a < 18446744073709551616) (hb : b < 18446744073709551616) : Ct Tryd.prog 12 [.int .u8 121, .int .u64 (a : Nat), .int .u64 (b : Nat)] H (fun u H' => u = .tuple #[.int .u64 (Wd.E 121 a b).1, .int .u8 (Wd.E 121 a b).2] ∧ Old H H') := by
  refine Ct.mk Tryd.func12 rfl Tryd.ntmps12 rfl ?_
  intro W0 hW0
  have o0 : Old H H := Old.refl H
  refine KC.seq (KC.region (KL.op (R.assign rfl rfl) rfl rfl rfl (KL.op (R.assign rfl rfl) rfl rfl rfl (KL.nil (KQ.seq (KC.seq (KC.region (KL.op (R.move rfl rfl) rfl rfl rfl ?_))))))))
  refine KL.call rfl rfl rfl rfl Tryd.call21 rfl rfl rfl (num_121) ?_
  rintro _ _ ⟨rfl, rfl⟩
  refine KL.op (R.move rfl rfl) rfl rfl rfl (KL.op (R.extract rfl rfl rfl) rfl rfl rfl (KL.op (R.extract rfl rfl rfl) rfl rfl rfl (KL.op (R.extract rfl rfl rfl) rfl rfl rfl (KL.op (R.assign rfl rfl) rfl rfl rfl (KL.op (R.assign rfl rfl) rfl rfl rfl (KL.op (R.assign rfl rfl) rfl rfl rfl (KL.nil (KQ.seq (KC.seq ?_)))))))))
  refine KC.region (KL.op (R.move rfl rfl) rfl rfl rfl (KL.op (R.move rfl rfl) rfl rfl rfl (KL.op (R.assign rfl rfl) rfl rfl rfl (KL.op (R.assign rfl rfl) rfl rfl rfl (KL.nil (KQ.seq (KC.seq (KC.seq (KC.region ?_)))))))))
  refine KL.op (R.move rfl rfl) rfl rfl rfl ?_
  refine KL.op ((R.eql rfl rfl rfl).val (congrArg Value.bool (decide_eq_false (by decide)))) rfl rfl rfl ?_
  refine KL.nil (KQ.seq (KC.condF rfl ?_))
  refine KC.skip ?_
  refine KQ.seq (KC.seq (KC.seq (KC.region (KL.op (R.move rfl rfl) rfl rfl rfl (KL.nil (KQ.seq (KC.block (KC.seq (KC.region ?_)))))))))
  refine KL.op ((R.eql rfl rfl rfl).val (congrArg Value.bool (decide_eq_false (by decide)))) rfl rfl rfl ?_
  refine KL.op (R.assign rfl rfl) rfl rfl rfl (KL.nil (KQ.seq (KC.condF rfl (KC.seq (KC.region ?_)))))
  refine KL.op ((R.eql rfl rfl rfl).val (congrArg Value.bool (decide_eq_true (by rfl)))) rfl rfl rfl ?_
  refine KL.op (R.assign rfl rfl) rfl rfl rfl (KL.nil (KQ.seq (KC.condT rfl (KC.seq (KC.region (KL.op (R.move rfl rfl) rfl rfl rfl (KL.op (R.move rfl rfl) rfl rfl rfl (KL.op (R.move rfl rfl) rfl rfl rfl ?_))))))))
  refine KL.call rfl rfl rfl rfl Tryd.call25 rfl rfl rfl (Count64_0 (a) (by omega)) ?_
  rintro _ _ ⟨⟨c, hc, rfl, hl, h1⟩, rfl⟩
  refine KL.op (R.assign rfl rfl) rfl rfl rfl (KL.op (R.assign rfl rfl) rfl rfl rfl (KL.nil (KQ.seq (KC.ret (KQ.retBlock (KQ.retThen (KQ.ofRet ?_)))))))
  refine KQ.fin2 Tryd.results12 rfl rfl ?_
  exact ⟨Wr.tupR (by rw [Wr.E121 ⟨by decide, by decide⟩]; exact Wr.pair (Wr.count0 (n := 64) (by decide) (by rw [Wr.e64]; omega) hc hl h1)), o0⟩

set_option maxRecDepth 100000 in
set_option maxHeartbeats 4000000 in
theorem rDo_122 {H : Heap} (a b : Nat) (ha : a < 18446744073709551616) (hb : b < 18446744073709551616) : Ct Tryd.prog 12 [.int .u8 122, .int .u64 (a : Nat), .int .u64 (b : Nat)] H (fun u H' => u = .tuple #[.int .u64 (Wd.E 122 a b).1, .int .u8 (Wd.E 122 a b).2] ∧ Old H H') := by
  refine Ct.mk Tryd.func12 rfl Tryd.ntmps12 rfl ?_
  intro W0 hW0
  have o0 : Old H H := Old.refl H
  refine KC.seq (KC.region (KL.op (R.assign rfl rfl) rfl rfl rfl (KL.op (R.assign rfl rfl) rfl rfl rfl (KL.nil (KQ.seq (KC.seq (KC.region (KL.op (R.move rfl rfl) rfl rfl rfl ?_))))))))
  refine KL.call rfl rfl rfl rfl Tryd.call21 rfl rfl rfl (num_122) ?_
  rintro _ _ ⟨rfl, rfl⟩
  refine KL.op (R.move rfl rfl) rfl rfl rfl (KL.op (R.extract rfl rfl rfl) rfl rfl rfl (KL.op (R.extract rfl rfl rfl) rfl rfl rfl (KL.op (R.extract rfl rfl rfl) rfl rfl rfl (KL.op (R.assign rfl rfl) rfl rfl rfl (KL.op (R.assign rfl rfl) rfl rfl rfl (KL.op (R.assign rfl rfl) rfl rfl rfl (KL.nil (KQ.seq (KC.seq ?_)))))))))
  refine KC.region (KL.op (R.move rfl rfl) rfl rfl rfl (KL.op (R.move rfl rfl) rfl rfl rfl (KL.op (R.assign rfl rfl) rfl rfl rfl (KL.op (R.assign rfl rfl) rfl rfl rfl (KL.nil (KQ.seq (KC.seq (KC.seq (KC.region ?_)))))))))
  refine KL.op (R.move rfl rfl) rfl rfl rfl ?_
  refine KL.op ((R.eql rfl rfl rfl).val (congrArg Value.bool (decide_eq_false (by decide)))) rfl rfl rfl ?_
  refine KL.nil (KQ.seq (KC.condF rfl ?_))
  refine KC.skip ?_
  refine KQ.seq (KC.seq (KC.seq (KC.region (KL.op (R.move rfl rfl) rfl rfl rfl (KL.nil (KQ.seq (KC.block (KC.seq (KC.region ?_)))))))))
  refine KL.op ((R.eql rfl rfl rfl).val (congrArg Value.bool (decide_eq_false (by decide)))) rfl rfl rfl ?_
  refine KL.op (R.assign rfl rfl) rfl rfl rfl (KL.nil (KQ.seq (KC.condF rfl (KC.seq (KC.region ?_)))))
  refine KL.op ((R.eql rfl rfl rfl).val (congrArg Value.bool (decide_eq_true (by rfl)))) rfl rfl rfl ?_
  refine KL.op (R.assign rfl rfl) rfl rfl rfl (KL.nil (KQ.seq (KC.condT rfl (KC.seq (KC.region (KL.op (R.move rfl rfl) rfl rfl rfl (KL.op (R.move rfl rfl) rfl rfl rfl (KL.op (R.move rfl rfl) rfl rfl rfl ?_))))))))
  refine KL.call rfl rfl rfl rfl Tryd.call25 rfl rfl rfl (Count64_1 (a) (by omega)) ?_
  rintro _ _ ⟨⟨c, hc, rfl, hl, h1⟩, rfl⟩
  refine KL.op (R.assign rfl rfl) rfl rfl rfl (KL.op (R.assign rfl rfl) rfl rfl rfl (KL.nil (KQ.seq (KC.ret (KQ.retBlock (KQ.retThen (KQ.ofRet ?_)))))))
  refine KQ.fin2 Tryd.results12 rfl rfl ?_
  exact ⟨Wr.tupR (by rw [Wr.E121 ⟨by decide, by decide⟩]; exact Wr.pair (Wr.count1 (n := 64) (by decide) (by rw [Wr.e64]; omega) hc hl h1)), o0⟩

set_option maxRecDepth 100000 in
set_option maxHeartbeats 4000000 in
theorem rDo_123 {H : Heap} (a b : Nat) (ha : a < 18446744073709551616) (hb : b < 18446744073709551616) : Ct Tryd.prog 12 [.int .u8 123, .int .u64 (a : Nat), .int .u64 (b : Nat)] H (fun u H' => u = .tuple #[.int .u64 (Wd.E 123 a b).1, .int .u8 (Wd.E 123 a b).2] ∧ Old H H') := by
  refine Ct.mk Tryd.func12 rfl Tryd.ntmps12 rfl ?_
  intro W0 hW0
  have o0 : Old H H := Old.refl H
  refine KC.seq (KC.region (KL.op (R.assign rfl rfl) rfl rfl rfl (KL.op (R.assign rfl rfl) rfl rfl rfl (KL.nil (KQ.seq (KC.seq (KC.region (KL.op (R.move rfl rfl) rfl rfl rfl ?_))))))))
  refine KL.call rfl rfl rfl rfl Tryd.call21 rfl rfl rfl (num_123) ?_
  rintro _ _ ⟨rfl, rfl⟩
  refine KL.op (R.move rfl rfl) rfl rfl rfl (KL.op (R.extract rfl rfl rfl) rfl rfl rfl (KL.op (R.extract rfl rfl rfl) rfl rfl rfl (KL.op (R.extract rfl rfl rfl) rfl rfl rfl (KL.op (R.assign rfl rfl) rfl rfl rfl (KL.op (R.assign rfl rfl) rfl rfl rfl (KL.op (R.assign rfl rfl) rfl rfl rfl (KL.nil (KQ.seq (KC.seq ?_)))))))))
  refine KC.region (KL.op (R.move rfl rfl) rfl rfl rfl (KL.op (R.move rfl rfl) rfl rfl rfl (KL.op (R.assign rfl rfl) rfl rfl rfl (KL.op (R.assign rfl rfl) rfl rfl rfl (KL.nil (KQ.seq (KC.seq (KC.seq (KC.region ?_)))))))))
  refine KL.op (R.move rfl rfl) rfl rfl rfl ?_
  refine KL.op ((R.eql rfl rfl rfl).val (congrArg Value.bool (decide_eq_false (by decide)))) rfl rfl rfl ?_
  refine KL.nil (KQ.seq (KC.condF rfl ?_))
  refine KC.skip ?_
  refine KQ.seq (KC.seq (KC.seq (KC.region (KL.op (R.move rfl rfl) rfl rfl rfl (KL.nil (KQ.seq (KC.block (KC.seq (KC.region ?_)))))))))
  refine KL.op ((R.eql rfl rfl rfl).val (congrArg Value.bool (decide_eq_false (by decide)))) rfl rfl rfl ?_
  refine KL.op (R.assign rfl rfl) rfl rfl rfl (KL.nil (KQ.seq (KC.condF rfl (KC.seq (KC.region ?_)))))
  refine KL.op ((R.eql rfl rfl rfl).val (congrArg Value.bool (decide_eq_true (by rfl)))) rfl rfl rfl ?_
  refine KL.op (R.assign rfl rfl) rfl rfl rfl (KL.nil (KQ.seq (KC.condT rfl (KC.seq (KC.region (KL.op (R.move rfl rfl) rfl rfl rfl (KL.op (R.move rfl rfl) rfl rfl rfl (KL.op (R.move rfl rfl) rfl rfl rfl ?_))))))))
  refine KL.call rfl rfl rfl rfl Tryd.call25 rfl rfl rfl (Count64_2 (a) (by omega)) ?_
  rintro _ _ ⟨rfl, rfl⟩
  refine KL.op (R.assign rfl rfl) rfl rfl rfl (KL.op (R.assign rfl rfl) rfl rfl rfl (KL.nil (KQ.seq (KC.ret (KQ.retBlock (KQ.retThen (KQ.ofRet ?_)))))))
  refine KQ.fin2 Tryd.results12 rfl rfl ?_
  exact ⟨Wr.tupR (by rw [Wr.E121 ⟨by decide, by decide⟩]; exact Wr.pair (Wr.count2 (n := 64) (by decide) (by rw [Wr.e64]; omega))), o0⟩

set_option maxRecDepth 100000 in
set_option maxHeartbeats 4000000 in
theorem rDo_124 {H : Heap} (a b : Nat) (ha : a < 18446744073709551616) (hb : b < 18446744073709551616) : Ct Tryd.prog 12 [.int .u8 124, .int .u64 (a : Nat), .int .u64 (b : Nat)] H (fun u H' => u = .tuple #[.int .u64 (Wd.E 124 a b).1, .int .u8 (Wd.E 124 a b).2] ∧ Old H H') := by
  refine Ct.mk Tryd.func12 rfl Tryd.ntmps12 rfl ?_
  intro W0 hW0
  have o0 : Old H H := Old.refl H
  refine KC.seq (KC.region (KL.op (R.assign rfl rfl) rfl rfl rfl (KL.op (R.assign rfl rfl) rfl rfl rfl (KL.nil (KQ.seq (KC.seq (KC.region (KL.op (R.move rfl rfl) rfl rfl rfl ?_))))))))
  refine KL.call rfl rfl rfl rfl Tryd.call21 rfl rfl rfl (num_124) ?_
  rintro _ _ ⟨rfl, rfl⟩
  refine KL.op (R.move rfl rfl) rfl rfl rfl (KL.op (R.extract rfl rfl rfl) rfl rfl rfl (KL.op (R.extract rfl rfl rfl) rfl rfl rfl (KL.op (R.extract rfl rfl rfl) rfl rfl rfl (KL.op (R.assign rfl rfl) rfl rfl rfl (KL.op (R.assign rfl rfl) rfl rfl rfl (KL.op (R.assign rfl rfl) rfl rfl rfl (KL.nil (KQ.seq (KC.seq ?_)))))))))
  refine KC.region (KL.op (R.move rfl rfl) rfl rfl rfl (KL.op (R.move rfl rfl) rfl rfl rfl (KL.op (R.assign rfl rfl) rfl rfl rfl (KL.op (R.assign rfl rfl) rfl rfl rfl (KL.nil (KQ.seq (KC.seq (KC.seq (KC.region ?_)))))))))
  refine KL.op (R.move rfl rfl) rfl rfl rfl ?_
  refine KL.op ((R.eql rfl rfl rfl).val (congrArg Value.bool (decide_eq_false (by decide)))) rfl rfl rfl ?_
  refine KL.nil (KQ.seq (KC.condF rfl ?_))
  refine KC.skip ?_
  refine KQ.seq (KC.seq (KC.seq (KC.region (KL.op (R.move rfl rfl) rfl rfl rfl (KL.nil (KQ.seq (KC.block (KC.seq (KC.region ?_)))))))))
  refine KL.op ((R.eql rfl rfl rfl).val (congrArg Value.bool (decide_eq_false (by decide)))) rfl rfl rfl ?_
  refine KL.op (R.assign rfl rfl) rfl rfl rfl (KL.nil (KQ.seq (KC.condF rfl (KC.seq (KC.region ?_)))))
  refine KL.op ((R.eql rfl rfl rfl).val (congrArg Value.bool (decide_eq_false (by decide)))) rfl rfl rfl ?_
  refine KL.op (R.assign rfl rfl) rfl rfl rfl (KL.nil (KQ.seq (KC.condF rfl (KC.seq (KC.region ?_)))))
  refine KL.op ((R.eql rfl rfl rfl).val (congrArg Value.bool (decide_eq_true (by rfl)))) rfl rfl rfl ?_
  refine KL.op (R.assign rfl rfl) rfl rfl rfl (KL.nil (KQ.seq (KC.condT rfl (KC.seq (KC.block (KC.seq (KC.region (KL.op (R.move rfl rfl) rfl rfl rfl ?_))))))))
  refine KL.op ((R.eql rfl rfl rfl).val (congrArg Value.bool (decide_eq_true (by rfl)))) rfl rfl rfl ?_
  refine KL.op (R.assign rfl rfl) rfl rfl rfl (KL.nil (KQ.seq (KC.condT rfl (KC.seq (KC.region (KL.op (R.move rfl rfl) rfl rfl rfl (KL.op (R.move rfl rfl) rfl rfl rfl ?_)))))))
  refine KL.op (R.addW rfl rfl rfl) rfl rfl rfl ?_
  refine KL.op (R.move rfl rfl) rfl rfl rfl ?_
  refine KL.call rfl rfl rfl rfl Tryd.call22 rfl rfl rfl (cut64_k _) ?_
  rintro _ _ ⟨rfl, rfl⟩
  refine KL.op (R.assign rfl rfl) rfl rfl rfl (KL.op (R.assign rfl rfl) rfl rfl rfl (KL.nil (KQ.seq (KC.ret (KQ.retBlock (KQ.retThen (KQ.retBlock (KQ.retThen (KQ.ofRet ?_)))))))))
  refine KQ.fin2 Tryd.results12 rfl rfl ?_
  exact ⟨Wr.tupR ((Wr.pair (rfl)).trans (Wd.E_sup (op := 124) _ _ (by omega)).symm), o0⟩

set_option maxRecDepth 100000 in
set_option maxHeartbeats 4000000 in
theorem rDo_125 {H : Heap} (a b : Nat) (ha : a < 18446744073709551616) (hb : b < 18446744073709551616) : Ct Tryd.prog 12 [.int .u8 125, .int .u64 (a : Nat), .int .u64 (b : Nat)] H (fun u H' => u = .tuple #[.int .u64 (Wd.E 125 a b).1, .int .u8 (Wd.E 125 a b).2] ∧ Old H H') := by
  refine Ct.mk Tryd.func12 rfl Tryd.ntmps12 rfl ?_
  intro W0 hW0
  have o0 : Old H H := Old.refl H
  refine KC.seq (KC.region (KL.op (R.assign rfl rfl) rfl rfl rfl (KL.op (R.assign rfl rfl) rfl rfl rfl (KL.nil (KQ.seq (KC.seq (KC.region (KL.op (R.move rfl rfl) rfl rfl rfl ?_))))))))
  refine KL.call rfl rfl rfl rfl Tryd.call21 rfl rfl rfl (num_125) ?_
  rintro _ _ ⟨rfl, rfl⟩
  refine KL.op (R.move rfl rfl) rfl rfl rfl (KL.op (R.extract rfl rfl rfl) rfl rfl rfl (KL.op (R.extract rfl rfl rfl) rfl rfl rfl (KL.op (R.extract rfl rfl rfl) rfl rfl rfl (KL.op (R.assign rfl rfl) rfl rfl rfl (KL.op (R.assign rfl rfl) rfl rfl rfl (KL.op (R.assign rfl rfl) rfl rfl rfl (KL.nil (KQ.seq (KC.seq ?_)))))))))
  refine KC.region (KL.op (R.move rfl rfl) rfl rfl rfl (KL.op (R.move rfl rfl) rfl rfl rfl (KL.op (R.assign rfl rfl) rfl rfl rfl (KL.op (R.assign rfl rfl) rfl rfl rfl (KL.nil (KQ.seq (KC.seq (KC.seq (KC.region ?_)))))))))
  refine KL.op (R.move rfl rfl) rfl rfl rfl ?_
  refine KL.op ((R.eql rfl rfl rfl).val (congrArg Value.bool (decide_eq_false (by decide)))) rfl rfl rfl ?_
  refine KL.nil (KQ.seq (KC.condF rfl ?_))
  refine KC.skip ?_
  refine KQ.seq (KC.seq (KC.seq (KC.region (KL.op (R.move rfl rfl) rfl rfl rfl (KL.nil (KQ.seq (KC.block (KC.seq (KC.region ?_)))))))))
  refine KL.op ((R.eql rfl rfl rfl).val (congrArg Value.bool (decide_eq_false (by decide)))) rfl rfl rfl ?_
  refine KL.op (R.assign rfl rfl) rfl rfl rfl (KL.nil (KQ.seq (KC.condF rfl (KC.seq (KC.region ?_)))))
  refine KL.op ((R.eql rfl rfl rfl).val (congrArg Value.bool (decide_eq_false (by decide)))) rfl rfl rfl ?_
  refine KL.op (R.assign rfl rfl) rfl rfl rfl (KL.nil (KQ.seq (KC.condF rfl (KC.seq (KC.region ?_)))))
  refine KL.op ((R.eql rfl rfl rfl).val (congrArg Value.bool (decide_eq_true (by rfl)))) rfl rfl rfl ?_
  refine KL.op (R.assign rfl rfl) rfl rfl rfl (KL.nil (KQ.seq (KC.condT rfl (KC.seq (KC.block (KC.seq (KC.region (KL.op (R.move rfl rfl) rfl rfl rfl ?_))))))))
  refine KL.op ((R.eql rfl rfl rfl).val (congrArg Value.bool (decide_eq_false (by decide)))) rfl rfl rfl ?_
  refine KL.op (R.assign rfl rfl) rfl rfl rfl (KL.nil (KQ.seq (KC.condF rfl (KC.seq (KC.region (KL.op (R.move rfl rfl) rfl rfl rfl ?_))))))
  refine KL.op ((R.eql rfl rfl rfl).val (congrArg Value.bool (decide_eq_true (by rfl)))) rfl rfl rfl ?_
  refine KL.op (R.assign rfl rfl) rfl rfl rfl (KL.nil (KQ.seq (KC.condT rfl (KC.seq (KC.region (KL.op (R.move rfl rfl) rfl rfl rfl (KL.op (R.move rfl rfl) rfl rfl rfl ?_)))))))
  refine KL.op (R.subW rfl rfl rfl) rfl rfl rfl ?_
  refine KL.op (R.move rfl rfl) rfl rfl rfl ?_
  refine KL.call rfl rfl rfl rfl Tryd.call22 rfl rfl rfl (cut64_k _) ?_
  rintro _ _ ⟨rfl, rfl⟩
  refine KL.op (R.assign rfl rfl) rfl rfl rfl (KL.op (R.assign rfl rfl) rfl rfl rfl (KL.nil (KQ.seq (KC.ret (KQ.retBlock (KQ.retThen (KQ.retBlock (KQ.retThen (KQ.ofRet ?_)))))))))
  refine KQ.fin2 Tryd.results12 rfl rfl ?_
  exact ⟨Wr.tupR ((Wr.pair (rfl)).trans (Wd.E_sup (op := 125) _ _ (by omega)).symm), o0⟩

set_option maxRecDepth 100000 in
set_option maxHeartbeats 4000000 in
theorem rDo_126 {H : Heap} (a b : Nat) (ha : a < 18446744073709551616) (hb : b < 18446744073709551616) : Ct Tryd.prog 12 [.int .u8 126, .int .u64 (a : Nat), .int .u64 (b : Nat)] H (fun u H' => u = .tuple #[.int .u64 (Wd.E 126 a b).1, .int .u8 (Wd.E 126 a b).2] ∧ Old H H') := by
  refine Ct.mk Tryd.func12 rfl Tryd.ntmps12 rfl ?_
  intro W0 hW0
  have o0 : Old H H := Old.refl H
  refine KC.seq (KC.region (KL.op (R.assign rfl rfl) rfl rfl rfl (KL.op (R.assign rfl rfl) rfl rfl rfl (KL.nil (KQ.seq (KC.seq (KC.region (KL.op (R.move rfl rfl) rfl rfl rfl ?_))))))))
  refine KL.call rfl rfl rfl rfl Tryd.call21 rfl rfl rfl (num_126) ?_
  rintro _ _ ⟨rfl, rfl⟩
  refine KL.op (R.move rfl rfl) rfl rfl rfl (KL.op (R.extract rfl rfl rfl) rfl rfl rfl (KL.op (R.extract rfl rfl rfl) rfl rfl rfl (KL.op (R.extract rfl rfl rfl) rfl rfl rfl (KL.op (R.assign rfl rfl) rfl rfl rfl (KL.op (R.assign rfl rfl) rfl rfl rfl (KL.op (R.assign rfl rfl) rfl rfl rfl (KL.nil (KQ.seq (KC.seq ?_)))))))))
  refine KC.region (KL.op (R.move rfl rfl) rfl rfl rfl (KL.op (R.move rfl rfl) rfl rfl rfl (KL.op (R.assign rfl rfl) rfl rfl rfl (KL.op (R.assign rfl rfl) rfl rfl rfl (KL.nil (KQ.seq (KC.seq (KC.seq (KC.region ?_)))))))))
  refine KL.op (R.move rfl rfl) rfl rfl rfl ?_
  refine KL.op ((R.eql rfl rfl rfl).val (congrArg Value.bool (decide_eq_false (by decide)))) rfl rfl rfl ?_
  refine KL.nil (KQ.seq (KC.condF rfl ?_))
  refine KC.skip ?_
  refine KQ.seq (KC.seq (KC.seq (KC.region (KL.op (R.move rfl rfl) rfl rfl rfl (KL.nil (KQ.seq (KC.block (KC.seq (KC.region ?_)))))))))
  refine KL.op ((R.eql rfl rfl rfl).val (congrArg Value.bool (decide_eq_false (by decide)))) rfl rfl rfl ?_
  refine KL.op (R.assign rfl rfl) rfl rfl rfl (KL.nil (KQ.seq (KC.condF rfl (KC.seq (KC.region ?_)))))
  refine KL.op ((R.eql rfl rfl rfl).val (congrArg Value.bool (decide_eq_false (by decide)))) rfl rfl rfl ?_
  refine KL.op (R.assign rfl rfl) rfl rfl rfl (KL.nil (KQ.seq (KC.condF rfl (KC.seq (KC.region ?_)))))
  refine KL.op ((R.eql rfl rfl rfl).val (congrArg Value.bool (decide_eq_true (by rfl)))) rfl rfl rfl ?_
  refine KL.op (R.assign rfl rfl) rfl rfl rfl (KL.nil (KQ.seq (KC.condT rfl (KC.seq (KC.block (KC.seq (KC.region (KL.op (R.move rfl rfl) rfl rfl rfl ?_))))))))
  refine KL.op ((R.eql rfl rfl rfl).val (congrArg Value.bool (decide_eq_false (by decide)))) rfl rfl rfl ?_
  refine KL.op (R.assign rfl rfl) rfl rfl rfl (KL.nil (KQ.seq (KC.condF rfl (KC.seq (KC.region (KL.op (R.move rfl rfl) rfl rfl rfl ?_))))))
  refine KL.op ((R.eql rfl rfl rfl).val (congrArg Value.bool (decide_eq_false (by decide)))) rfl rfl rfl ?_
  refine KL.op (R.assign rfl rfl) rfl rfl rfl (KL.nil (KQ.seq (KC.condF rfl (KC.seq (KC.region (KL.op (R.move rfl rfl) rfl rfl rfl ?_))))))
  refine KL.op ((R.eql rfl rfl rfl).val (congrArg Value.bool (decide_eq_true (by rfl)))) rfl rfl rfl ?_
  refine KL.op (R.assign rfl rfl) rfl rfl rfl (KL.nil (KQ.seq (KC.condT rfl (KC.seq (KC.region (KL.op (R.move rfl rfl) rfl rfl rfl (KL.op (R.move rfl rfl) rfl rfl rfl ?_)))))))
  refine KL.op (R.mulW rfl rfl rfl) rfl rfl rfl ?_
  refine KL.op (R.move rfl rfl) rfl rfl rfl ?_
  refine KL.call rfl rfl rfl rfl Tryd.call22 rfl rfl rfl (cut64_k _) ?_
  rintro _ _ ⟨rfl, rfl⟩
  refine KL.op (R.assign rfl rfl) rfl rfl rfl (KL.op (R.assign rfl rfl) rfl rfl rfl (KL.nil (KQ.seq (KC.ret (KQ.retBlock (KQ.retThen (KQ.retBlock (KQ.retThen (KQ.ofRet ?_)))))))))
  refine KQ.fin2 Tryd.results12 rfl rfl ?_
  exact ⟨Wr.tupR ((Wr.pair (rfl)).trans (Wd.E_sup (op := 126) _ _ (by omega)).symm), o0⟩

set_option maxRecDepth 100000 in
set_option maxHeartbeats 4000000 in
theorem rDo_167 {H : Heap} (a b : Nat) (ha : a < 18446744073709551616) (hb : b < 18446744073709551616) : Ct Tryd.prog 12 [.int .u8 167, .int .u64 (a : Nat), .int .u64 (b : Nat)] H (fun u H' => u = .tuple #[.int .u64 (Wd.E 167 a b).1, .int .u8 (Wd.E 167 a b).2] ∧ Old H H') := by
  refine Ct.mk Tryd.func12 rfl Tryd.ntmps12 rfl ?_
  intro W0 hW0
  have o0 : Old H H := Old.refl H
  refine KC.seq (KC.region (KL.op (R.assign rfl rfl) rfl rfl rfl (KL.op (R.assign rfl rfl) rfl rfl rfl (KL.nil (KQ.seq (KC.seq (KC.region (KL.op (R.move rfl rfl) rfl rfl rfl ?_))))))))
  refine KL.call rfl rfl rfl rfl Tryd.call21 rfl rfl rfl (num_167) ?_
  rintro _ _ ⟨rfl, rfl⟩
  refine KL.op (R.move rfl rfl) rfl rfl rfl (KL.op (R.extract rfl rfl rfl) rfl rfl rfl (KL.op (R.extract rfl rfl rfl) rfl rfl rfl (KL.op (R.extract rfl rfl rfl) rfl rfl rfl (KL.op (R.assign rfl rfl) rfl rfl rfl (KL.op (R.assign rfl rfl) rfl rfl rfl (KL.op (R.assign rfl rfl) rfl rfl rfl (KL.nil (KQ.seq (KC.seq ?_)))))))))
  refine KC.region (KL.op (R.move rfl rfl) rfl rfl rfl (KL.op (R.move rfl rfl) rfl rfl rfl (KL.op (R.assign rfl rfl) rfl rfl rfl (KL.op (R.assign rfl rfl) rfl rfl rfl (KL.nil (KQ.seq (KC.seq (KC.seq (KC.region ?_)))))))))
  refine KL.op (R.move rfl rfl) rfl rfl rfl ?_
  refine KL.op ((R.eql rfl rfl rfl).val (congrArg Value.bool (decide_eq_false (by decide)))) rfl rfl rfl ?_
  refine KL.nil (KQ.seq (KC.condF rfl ?_))
  refine KC.skip ?_
  refine KQ.seq (KC.seq (KC.seq (KC.region (KL.op (R.move rfl rfl) rfl rfl rfl (KL.nil (KQ.seq (KC.block (KC.seq (KC.region ?_)))))))))
  refine KL.op ((R.eql rfl rfl rfl).val (congrArg Value.bool (decide_eq_false (by decide)))) rfl rfl rfl ?_
  refine KL.op (R.assign rfl rfl) rfl rfl rfl (KL.nil (KQ.seq (KC.condF rfl (KC.seq (KC.region ?_)))))
  refine KL.op ((R.eql rfl rfl rfl).val (congrArg Value.bool (decide_eq_false (by decide)))) rfl rfl rfl ?_
  refine KL.op (R.assign rfl rfl) rfl rfl rfl (KL.nil (KQ.seq (KC.condF rfl (KC.seq (KC.region ?_)))))
  refine KL.op ((R.eql rfl rfl rfl).val (congrArg Value.bool (decide_eq_false (by decide)))) rfl rfl rfl ?_
  refine KL.op (R.assign rfl rfl) rfl rfl rfl (KL.nil (KQ.seq (KC.condF rfl ?_)))
  refine KC.skip ?_
  refine KQ.normBlock (KQ.seq (KC.seq (KC.region (KL.op (R.move rfl rfl) rfl rfl rfl ?_))))
  refine KL.call rfl rfl rfl rfl Tryd.call22 rfl rfl rfl (cutN32 a ha) ?_
  rintro _ _ ⟨rfl, rfl⟩
  refine KL.op (R.assign rfl rfl) rfl rfl rfl (KL.nil (KQ.seq (KC.seq (KC.seq (KC.region (KL.op (R.move rfl rfl) rfl rfl rfl (KL.nil (KQ.seq (KC.block ?_)))))))))
  refine KC.seq (KC.region ?_)
  refine KL.op ((R.eql rfl rfl rfl).val (congrArg Value.bool (decide_eq_false (by decide)))) rfl rfl rfl ?_
  refine KL.op (R.assign rfl rfl) rfl rfl rfl (KL.nil (KQ.seq (KC.condF rfl (KC.seq (KC.region ?_)))))
  refine KL.op ((R.eql rfl rfl rfl).val (congrArg Value.bool (decide_eq_false (by decide)))) rfl rfl rfl ?_
  refine KL.op (R.assign rfl rfl) rfl rfl rfl (KL.nil (KQ.seq (KC.condF rfl (KC.seq (KC.seq (KC.region ?_))))))
  refine KL.op ((R.eql rfl rfl rfl).val (congrArg Value.bool (decide_eq_true (by rfl)))) rfl rfl rfl ?_
  refine KL.op (R.assign rfl rfl) rfl rfl rfl (KL.nil (KQ.seq (KC.condT rfl ?_)))
  refine KC.skip ?_
  refine KQ.seq (KC.condT rfl (KC.seq (KC.region (KL.op (R.move rfl rfl) rfl rfl rfl (KL.op (R.assign rfl rfl) rfl rfl rfl (KL.op (R.assign rfl rfl) rfl rfl rfl (KL.nil (KQ.seq (KC.ret ?_)))))))))
  refine KQ.retBlock (KQ.retThen (KQ.ofRet ?_))
  refine KQ.fin2 Tryd.results12 rfl rfl ?_
  exact ⟨Wr.tupR (by rw [Wr.E167 (by omega), Wr.low32]), o0⟩

set_option maxRecDepth 100000 in
set_option maxHeartbeats 4000000 in
theorem rDo_172 {H : Heap} (a b : Nat) (ha : a < 18446744073709551616) (hb : b < 18446744073709551616) : Ct Tryd.prog 12 [.int .u8 172, .int .u64 (a : Nat), .int .u64 (b : Nat)] H (fun u H' => u = .tuple #[.int .u64 (Wd.E 172 a b).1, .int .u8 (Wd.E 172 a b).2] ∧ Old H H') := by
  refine Ct.mk Tryd.func12 rfl Tryd.ntmps12 rfl ?_
  intro W0 hW0
  have o0 : Old H H := Old.refl H
  refine KC.seq (KC.region (KL.op (R.assign rfl rfl) rfl rfl rfl (KL.op (R.assign rfl rfl) rfl rfl rfl (KL.nil (KQ.seq (KC.seq (KC.region (KL.op (R.move rfl rfl) rfl rfl rfl ?_))))))))
  refine KL.call rfl rfl rfl rfl Tryd.call21 rfl rfl rfl (num_172) ?_
  rintro _ _ ⟨rfl, rfl⟩
  refine KL.op (R.move rfl rfl) rfl rfl rfl (KL.op (R.extract rfl rfl rfl) rfl rfl rfl (KL.op (R.extract rfl rfl rfl) rfl rfl rfl (KL.op (R.extract rfl rfl rfl) rfl rfl rfl (KL.op (R.assign rfl rfl) rfl rfl rfl (KL.op (R.assign rfl rfl) rfl rfl rfl (KL.op (R.assign rfl rfl) rfl rfl rfl (KL.nil (KQ.seq (KC.seq ?_)))))))))
  refine KC.region (KL.op (R.move rfl rfl) rfl rfl rfl (KL.op (R.move rfl rfl) rfl rfl rfl (KL.op (R.assign rfl rfl) rfl rfl rfl (KL.op (R.assign rfl rfl) rfl rfl rfl (KL.nil (KQ.seq (KC.seq (KC.seq (KC.region ?_)))))))))
  refine KL.op (R.move rfl rfl) rfl rfl rfl ?_
  refine KL.op ((R.eql rfl rfl rfl).val (congrArg Value.bool (decide_eq_false (by decide)))) rfl rfl rfl ?_
  refine KL.nil (KQ.seq (KC.condF rfl ?_))
  refine KC.skip ?_
  refine KQ.seq (KC.seq (KC.seq (KC.region (KL.op (R.move rfl rfl) rfl rfl rfl (KL.nil (KQ.seq (KC.block (KC.seq (KC.region ?_)))))))))
  refine KL.op ((R.eql rfl rfl rfl).val (congrArg Value.bool (decide_eq_false (by decide)))) rfl rfl rfl ?_
  refine KL.op (R.assign rfl rfl) rfl rfl rfl (KL.nil (KQ.seq (KC.condF rfl (KC.seq (KC.region ?_)))))
  refine KL.op ((R.eql rfl rfl rfl).val (congrArg Value.bool (decide_eq_false (by decide)))) rfl rfl rfl ?_
  refine KL.op (R.assign rfl rfl) rfl rfl rfl (KL.nil (KQ.seq (KC.condF rfl (KC.seq (KC.region ?_)))))
  refine KL.op ((R.eql rfl rfl rfl).val (congrArg Value.bool (decide_eq_false (by decide)))) rfl rfl rfl ?_
  refine KL.op (R.assign rfl rfl) rfl rfl rfl (KL.nil (KQ.seq (KC.condF rfl ?_)))
  refine KC.skip ?_
  refine KQ.normBlock (KQ.seq (KC.seq (KC.region (KL.op (R.move rfl rfl) rfl rfl rfl ?_))))
  refine KL.call rfl rfl rfl rfl Tryd.call22 rfl rfl rfl (cutN32 a ha) ?_
  rintro _ _ ⟨rfl, rfl⟩
  refine KL.op (R.assign rfl rfl) rfl rfl rfl (KL.nil (KQ.seq (KC.seq (KC.seq (KC.region (KL.op (R.move rfl rfl) rfl rfl rfl (KL.nil (KQ.seq (KC.block ?_)))))))))
  refine KC.seq (KC.region ?_)
  refine KL.op ((R.eql rfl rfl rfl).val (congrArg Value.bool (decide_eq_false (by decide)))) rfl rfl rfl ?_
  refine KL.op (R.assign rfl rfl) rfl rfl rfl (KL.nil (KQ.seq (KC.condF rfl (KC.seq (KC.region ?_)))))
  refine KL.op ((R.eql rfl rfl rfl).val (congrArg Value.bool (decide_eq_false (by decide)))) rfl rfl rfl ?_
  refine KL.op (R.assign rfl rfl) rfl rfl rfl (KL.nil (KQ.seq (KC.condF rfl (KC.seq (KC.seq (KC.region ?_))))))
  refine KL.op ((R.eql rfl rfl rfl).val (congrArg Value.bool (decide_eq_false (by decide)))) rfl rfl rfl ?_
  refine KL.op (R.assign rfl rfl) rfl rfl rfl (KL.nil (KQ.seq (KC.condF rfl (KC.region ?_))))
  refine KL.op ((R.eql rfl rfl rfl).val (congrArg Value.bool (decide_eq_false (by decide)))) rfl rfl rfl ?_
  refine KL.op (R.assign rfl rfl) rfl rfl rfl (KL.nil (KQ.seq (KC.condF rfl (KC.seq (KC.region ?_)))))
  refine KL.op ((R.eql rfl rfl rfl).val (congrArg Value.bool (decide_eq_true (by rfl)))) rfl rfl rfl ?_
  refine KL.op (R.assign rfl rfl) rfl rfl rfl (KL.nil (KQ.seq (KC.condT rfl (KC.seq (KC.seq (KC.region (KL.op (R.move rfl rfl) rfl rfl rfl ?_)))))))
  refine KL.op (R.geq rfl rfl rfl) rfl rfl rfl ?_
  refine KL.nil (KQ.seq ?_)
  refine KC.iteL rfl ?_ ?_
  · intro hx
    try simp only [decide_eq_true_eq, decide_eq_false_iff_not, Bool.not_eq_true', Bool.not_eq_false', Bool.and_eq_true, Bool.or_eq_false_iff] at hx
    have hx2 : (2147483648 : Int) ≤ ((a % 4294967296 : Nat) : Int) := by omega
    have hl := Wr.ext32 a
    rw [if_pos hx2] at hl
    refine KC.seq (KC.region (KL.op (R.move rfl rfl) rfl rfl rfl ?_))
    refine KL.op (R.subW rfl rfl rfl) rfl rfl rfl ?_
    refine KL.op (R.assign rfl rfl) rfl rfl rfl (KL.op (R.assign rfl rfl) rfl rfl rfl (KL.nil (KQ.seq (KC.ret (KQ.retThen (KQ.retBlock (KQ.retThen (KQ.ofRet ?_))))))))
    refine KQ.fin2 Tryd.results12 rfl rfl ?_
    exact ⟨Wr.tupR ((Wr.pair hl).trans (Wd.E_sup (op := 172) _ _ (by omega)).symm), o0⟩
  · intro hx
    try simp only [decide_eq_true_eq, decide_eq_false_iff_not, Bool.not_eq_true', Bool.not_eq_false', Bool.and_eq_true, Bool.or_eq_false_iff] at hx
    have hx2 : ¬ (2147483648 : Int) ≤ ((a % 4294967296 : Nat) : Int) := by omega
    have hl := Wr.ext32 a
    rw [if_neg hx2] at hl
    refine KC.skip ?_
    refine KQ.seq (KC.seq (KC.region (KL.op (R.move rfl rfl) rfl rfl rfl (KL.op (R.assign rfl rfl) rfl rfl rfl (KL.op (R.assign rfl rfl) rfl rfl rfl (KL.nil (KQ.seq (KC.ret (KQ.retBlock ?_)))))))))
    refine KQ.retThen (KQ.ofRet ?_)
    refine KQ.fin2 Tryd.results12 rfl rfl ?_
    exact ⟨Wr.tupR ((Wr.pair hl).trans (Wd.E_sup (op := 172) _ _ (by omega)).symm), o0⟩

set_option maxRecDepth 100000 in
set_option maxHeartbeats 4000000 in
theorem rDo_173 {H : Heap} (a b : Nat) (ha : a < 18446744073709551616) (hb : b < 18446744073709551616) : Ct Tryd.prog 12 [.int .u8 173, .int .u64 (a : Nat), .int .u64 (b : Nat)] H (fun u H' => u = .tuple #[.int .u64 (Wd.E 173 a b).1, .int .u8 (Wd.E 173 a b).2] ∧ Old H H') := by
  refine Ct.mk Tryd.func12 rfl Tryd.ntmps12 rfl ?_
  intro W0 hW0
  have o0 : Old H H := Old.refl H
  refine KC.seq (KC.region (KL.op (R.assign rfl rfl) rfl rfl rfl (KL.op (R.assign rfl rfl) rfl rfl rfl (KL.nil (KQ.seq (KC.seq (KC.region (KL.op (R.move rfl rfl) rfl rfl rfl ?_))))))))
  refine KL.call rfl rfl rfl rfl Tryd.call21 rfl rfl rfl (num_173) ?_
  rintro _ _ ⟨rfl, rfl⟩
  refine KL.op (R.move rfl rfl) rfl rfl rfl (KL.op (R.extract rfl rfl rfl) rfl rfl rfl (KL.op (R.extract rfl rfl rfl) rfl rfl rfl (KL.op (R.extract rfl rfl rfl) rfl rfl rfl (KL.op (R.assign rfl rfl) rfl rfl rfl (KL.op (R.assign rfl rfl) rfl rfl rfl (KL.op (R.assign rfl rfl) rfl rfl rfl (KL.nil (KQ.seq (KC.seq ?_)))))))))
  refine KC.region (KL.op (R.move rfl rfl) rfl rfl rfl (KL.op (R.move rfl rfl) rfl rfl rfl (KL.op (R.assign rfl rfl) rfl rfl rfl (KL.op (R.assign rfl rfl) rfl rfl rfl (KL.nil (KQ.seq (KC.seq (KC.seq (KC.region ?_)))))))))
  refine KL.op (R.move rfl rfl) rfl rfl rfl ?_
  refine KL.op ((R.eql rfl rfl rfl).val (congrArg Value.bool (decide_eq_false (by decide)))) rfl rfl rfl ?_
  refine KL.nil (KQ.seq (KC.condF rfl ?_))
  refine KC.skip ?_
  refine KQ.seq (KC.seq (KC.seq (KC.region (KL.op (R.move rfl rfl) rfl rfl rfl (KL.nil (KQ.seq (KC.block (KC.seq (KC.region ?_)))))))))
  refine KL.op ((R.eql rfl rfl rfl).val (congrArg Value.bool (decide_eq_false (by decide)))) rfl rfl rfl ?_
  refine KL.op (R.assign rfl rfl) rfl rfl rfl (KL.nil (KQ.seq (KC.condF rfl (KC.seq (KC.region ?_)))))
  refine KL.op ((R.eql rfl rfl rfl).val (congrArg Value.bool (decide_eq_false (by decide)))) rfl rfl rfl ?_
  refine KL.op (R.assign rfl rfl) rfl rfl rfl (KL.nil (KQ.seq (KC.condF rfl (KC.seq (KC.region ?_)))))
  refine KL.op ((R.eql rfl rfl rfl).val (congrArg Value.bool (decide_eq_false (by decide)))) rfl rfl rfl ?_
  refine KL.op (R.assign rfl rfl) rfl rfl rfl (KL.nil (KQ.seq (KC.condF rfl ?_)))
  refine KC.skip ?_
  refine KQ.normBlock (KQ.seq (KC.seq (KC.region (KL.op (R.move rfl rfl) rfl rfl rfl ?_))))
  refine KL.call rfl rfl rfl rfl Tryd.call22 rfl rfl rfl (cutN32 a ha) ?_
  rintro _ _ ⟨rfl, rfl⟩
  refine KL.op (R.assign rfl rfl) rfl rfl rfl (KL.nil (KQ.seq (KC.seq (KC.seq (KC.region (KL.op (R.move rfl rfl) rfl rfl rfl (KL.nil (KQ.seq (KC.block ?_)))))))))
  refine KC.seq (KC.region ?_)
  refine KL.op ((R.eql rfl rfl rfl).val (congrArg Value.bool (decide_eq_false (by decide)))) rfl rfl rfl ?_
  refine KL.op (R.assign rfl rfl) rfl rfl rfl (KL.nil (KQ.seq (KC.condF rfl (KC.seq (KC.region ?_)))))
  refine KL.op ((R.eql rfl rfl rfl).val (congrArg Value.bool (decide_eq_false (by decide)))) rfl rfl rfl ?_
  refine KL.op (R.assign rfl rfl) rfl rfl rfl (KL.nil (KQ.seq (KC.condF rfl (KC.seq (KC.seq (KC.region ?_))))))
  refine KL.op ((R.eql rfl rfl rfl).val (congrArg Value.bool (decide_eq_false (by decide)))) rfl rfl rfl ?_
  refine KL.op (R.assign rfl rfl) rfl rfl rfl (KL.nil (KQ.seq (KC.condF rfl (KC.region ?_))))
  refine KL.op ((R.eql rfl rfl rfl).val (congrArg Value.bool (decide_eq_true (by rfl)))) rfl rfl rfl ?_
  refine KL.op (R.assign rfl rfl) rfl rfl rfl (KL.nil (KQ.seq (KC.condT rfl (KC.seq (KC.region (KL.op (R.move rfl rfl) rfl rfl rfl (KL.op (R.assign rfl rfl) rfl rfl rfl (KL.op (R.assign rfl rfl) rfl rfl rfl (KL.nil ?_)))))))))
  refine KQ.seq (KC.ret (KQ.retBlock (KQ.retThen (KQ.ofRet ?_))))
  refine KQ.fin2 Tryd.results12 rfl rfl ?_
  exact ⟨Wr.tupR (by rw [Wr.E167 (by omega), Wr.low32]), o0⟩


theorem num_pl {H : Heap} (op : Int) (b n : Int) (h : (106 ≤ op ∧ op ≤ 120 ∧ b = 106 ∧ n = 32) ∨ (124 ≤ op ∧ op ≤ 138 ∧ b = 124 ∧ n = 64)) : Ct Tryd.prog 21 [.int .u8 op] H (fun u H' => u = .tuple #[.int .i64 2, .int .i64 (op - b), .int .i64 n] ∧ H = H') := by
  have h2 := number_k (H := H) op (by dsimp only [InR]; omega)
  have e : Wr.num op = (2, op - b, n) := by
    unfold Wr.num
    rcases h with ⟨h1, h3, rfl, rfl⟩ | ⟨h1, h3, rfl, rfl⟩
    · rw [if_neg (by omega), if_neg (by omega), if_neg (by omega), if_neg (by omega), if_pos (by omega)]
    · rw [if_neg (by omega), if_neg (by omega), if_neg (by omega), if_neg (by omega), if_neg (by omega), if_pos (by omega)]
  rw [e] at h2
  exact h2
theorem D127r {op : Int} (h : 127 ≤ op ∧ op ≤ 130) (a b : Int) : Wd.D op a b = Wd.d64 (op - 127) a b := by
  unfold Wd.D; rw [if_neg (by omega), if_neg (by omega), if_neg (by omega), if_neg (by omega), if_pos h]
theorem D124r {op : Int} (h : 131 ≤ op ∧ op ≤ 138) (a b : Int) : Wd.D op a b = (Wd.p64 (op - 124) a b, 0) := by
  unfold Wd.D; rw [if_neg (by omega), if_neg (by omega), if_neg (by omega), if_neg (by omega), if_neg (by omega)]

theorem Div32_any {H : Heap} (kd : Nat) (hk : kd < 4) (a b : Nat) (ha : a < 4294967296) (hb : b < 4294967296) : Ct Tryd.prog 26 [.int .i64 (kd : Nat), .int .u64 (a : Nat), .int .u64 (b : Nat), .int .i64 32] H (fun u H' => u = .tuple #[.int .u64 (Wr.dvv kd a b 32).1, .int .u8 (Wr.dvv kd a b 32).2] ∧ H = H') := by
  rcases (by omega : kd = 0 ∨ kd = 1 ∨ kd = 2 ∨ kd = 3) with rfl | rfl | rfl | rfl
  · exact Div32_0 a b ha hb
  · exact Div32_1 a b ha hb
  · exact Div32_2 a b ha hb
  · exact Div32_3 a b ha hb
theorem Bits32_any {H : Heap} (kd : Nat) (hk : kd < 8) (a b : Nat) (ha : a < 4294967296) (hb : b < 4294967296) : Ct Tryd.prog 27 [.int .i64 (kd : Nat), .int .u64 (a : Nat), .int .u64 (b : Nat), .int .i64 32] H (fun u H' => u = .int .u64 (Wr.with_ (Wr.rows kd a b 32 32)) ∧ Old H H') := by
  rcases (by omega : kd = 0 ∨ kd = 1 ∨ kd = 2 ∨ kd = 3 ∨ kd = 4 ∨ kd = 5 ∨ kd = 6 ∨ kd = 7) with rfl | rfl | rfl | rfl | rfl | rfl | rfl | rfl
  · exact Bits32_0 a b ha hb
  · exact Bits32_1 a b ha hb
  · exact Bits32_2 a b ha hb
  · exact Bits32_3 a b ha hb
  · exact Bits32_4 a b ha hb
  · exact Bits32_5 a b ha hb
  · exact Bits32_6 a b ha hb
  · exact Bits32_7 a b ha hb
theorem Div64_any {H : Heap} (kd : Nat) (hk : kd < 4) (a b : Nat) (ha : a < 18446744073709551616) (hb : b < 18446744073709551616) : Ct Tryd.prog 26 [.int .i64 (kd : Nat), .int .u64 (a : Nat), .int .u64 (b : Nat), .int .i64 64] H (fun u H' => u = .tuple #[.int .u64 (Wr.dvv kd a b 64).1, .int .u8 (Wr.dvv kd a b 64).2] ∧ H = H') := by
  rcases (by omega : kd = 0 ∨ kd = 1 ∨ kd = 2 ∨ kd = 3) with rfl | rfl | rfl | rfl
  · exact Div64_0 a b ha hb
  · exact Div64_1 a b ha hb
  · exact Div64_2 a b ha hb
  · exact Div64_3 a b ha hb
theorem Bits64_any {H : Heap} (kd : Nat) (hk : kd < 8) (a b : Nat) (ha : a < 18446744073709551616) (hb : b < 18446744073709551616) : Ct Tryd.prog 27 [.int .i64 (kd : Nat), .int .u64 (a : Nat), .int .u64 (b : Nat), .int .i64 64] H (fun u H' => u = .int .u64 (Wr.with_ (Wr.rows kd a b 64 64)) ∧ Old H H') := by
  rcases (by omega : kd = 0 ∨ kd = 1 ∨ kd = 2 ∨ kd = 3 ∨ kd = 4 ∨ kd = 5 ∨ kd = 6 ∨ kd = 7) with rfl | rfl | rfl | rfl | rfl | rfl | rfl | rfl
  · exact Bits64_0 a b ha hb
  · exact Bits64_1 a b ha hb
  · exact Bits64_2 a b ha hb
  · exact Bits64_3 a b ha hb
  · exact Bits64_4 a b ha hb
  · exact Bits64_5 a b ha hb
  · exact Bits64_6 a b ha hb
  · exact Bits64_7 a b ha hb
set_option maxRecDepth 100000 in
set_option maxHeartbeats 4000000 in
theorem rDo_r109 {H : Heap} (op : Int) (h : 109 ≤ op ∧ op ≤ 112) (a b : Nat) (ha : a < 18446744073709551616) (hb : b < 18446744073709551616) : Ct Tryd.prog 12 [.int .u8 op, .int .u64 (a : Nat), .int .u64 (b : Nat)] H (fun u H' => u = .tuple #[.int .u64 (Wd.E op a b).1, .int .u8 (Wd.E op a b).2] ∧ Old H H') := by
  refine Ct.mk Tryd.func12 rfl Tryd.ntmps12 rfl ?_
  intro W0 hW0
  have o0 : Old H H := Old.refl H
  refine KC.seq (KC.region (KL.op (R.assign rfl rfl) rfl rfl rfl (KL.op (R.assign rfl rfl) rfl rfl rfl (KL.nil (KQ.seq (KC.seq (KC.region (KL.op (R.move rfl rfl) rfl rfl rfl ?_))))))))
  refine KL.call rfl rfl rfl rfl Tryd.call21 rfl rfl rfl (num_pl op 106 32 (by omega)) ?_
  rintro _ _ ⟨rfl, rfl⟩
  refine KL.op (R.move rfl rfl) rfl rfl rfl (KL.op (R.extract rfl rfl rfl) rfl rfl rfl (KL.op (R.extract rfl rfl rfl) rfl rfl rfl (KL.op (R.extract rfl rfl rfl) rfl rfl rfl (KL.op (R.assign rfl rfl) rfl rfl rfl (KL.op (R.assign rfl rfl) rfl rfl rfl (KL.op (R.assign rfl rfl) rfl rfl rfl (KL.nil (KQ.seq (KC.seq ?_)))))))))
  refine KC.region (KL.op (R.move rfl rfl) rfl rfl rfl (KL.op (R.move rfl rfl) rfl rfl rfl (KL.op (R.assign rfl rfl) rfl rfl rfl (KL.op (R.assign rfl rfl) rfl rfl rfl (KL.nil (KQ.seq (KC.seq (KC.seq (KC.region ?_)))))))))
  refine KL.op (R.move rfl rfl) rfl rfl rfl ?_
  refine KL.op ((R.eql rfl rfl rfl).val (congrArg Value.bool (decide_eq_true (by rfl)))) rfl rfl rfl ?_
  refine KL.nil (KQ.seq (KC.condT rfl (KC.seq (KC.region (KL.op (R.move rfl rfl) rfl rfl rfl ?_)))))
  refine KL.call rfl rfl rfl rfl Tryd.call22 rfl rfl rfl (cutN32 a ha) ?_
  rintro _ _ ⟨rfl, rfl⟩
  refine KL.op (R.assign rfl rfl) rfl rfl rfl (KL.nil (KQ.seq (KC.region (KL.op (R.move rfl rfl) rfl rfl rfl ?_))))
  refine KL.call rfl rfl rfl rfl Tryd.call22 rfl rfl rfl (cutN32 b hb) ?_
  rintro _ _ ⟨rfl, rfl⟩
  refine KL.op (R.assign rfl rfl) rfl rfl rfl (KL.nil (KQ.seq (KC.seq (KC.seq (KC.region (KL.op (R.move rfl rfl) rfl rfl rfl (KL.nil (KQ.seq (KC.block ?_)))))))))
  refine KC.seq (KC.region ?_)
  refine KL.op ((R.eql rfl rfl rfl).val (congrArg Value.bool (decide_eq_false (by decide)))) rfl rfl rfl ?_
  refine KL.op (R.assign rfl rfl) rfl rfl rfl (KL.nil (KQ.seq (KC.condF rfl (KC.seq (KC.region ?_)))))
  refine KL.op ((R.eql rfl rfl rfl).val (congrArg Value.bool (decide_eq_false (by decide)))) rfl rfl rfl ?_
  refine KL.op (R.assign rfl rfl) rfl rfl rfl (KL.nil (KQ.seq (KC.condF rfl (KC.seq (KC.region ?_)))))
  refine KL.op ((R.eql rfl rfl rfl).val (congrArg Value.bool (decide_eq_true (by rfl)))) rfl rfl rfl ?_
  refine KL.op (R.assign rfl rfl) rfl rfl rfl (KL.nil (KQ.seq (KC.condT rfl (KC.seq (KC.block (KC.seq (KC.region (KL.op (R.move rfl rfl) rfl rfl rfl ?_))))))))
  refine KL.op ((R.eql rfl rfl rfl).val (congrArg Value.bool (decide_eq_false (by omega)))) rfl rfl rfl ?_
  refine KL.op (R.assign rfl rfl) rfl rfl rfl (KL.nil (KQ.seq (KC.condF rfl (KC.seq (KC.region (KL.op (R.move rfl rfl) rfl rfl rfl ?_))))))
  refine KL.op ((R.eql rfl rfl rfl).val (congrArg Value.bool (decide_eq_false (by omega)))) rfl rfl rfl ?_
  refine KL.op (R.assign rfl rfl) rfl rfl rfl (KL.nil (KQ.seq (KC.condF rfl (KC.seq (KC.region (KL.op (R.move rfl rfl) rfl rfl rfl ?_))))))
  refine KL.op ((R.eql rfl rfl rfl).val (congrArg Value.bool (decide_eq_false (by omega)))) rfl rfl rfl ?_
  refine KL.op (R.assign rfl rfl) rfl rfl rfl (KL.nil (KQ.seq (KC.condF rfl (KC.seq (KC.region (KL.op (R.move rfl rfl) rfl rfl rfl ?_))))))
  refine KL.op ((R.leq rfl rfl rfl).val (congrArg Value.bool (decide_eq_true (by omega)))) rfl rfl rfl ?_
  refine KL.op (R.assign rfl rfl) rfl rfl rfl (KL.nil (KQ.seq (KC.condT rfl (KC.seq (KC.region (KL.op (R.move rfl rfl) rfl rfl rfl ?_))))))
  refine KL.op ((R.sub rfl rfl rfl (by dsimp only [InR]; omega)).val (congrArg (Value.int .i64) (show op - 106 - 3 = (((op - 109).toNat : Nat) : Int) by omega))) rfl rfl rfl ?_
  refine KL.op (R.move rfl rfl) rfl rfl rfl (KL.op (R.move rfl rfl) rfl rfl rfl (KL.op (R.move rfl rfl) rfl rfl rfl ?_))
  refine KL.call rfl rfl rfl rfl Tryd.call26 rfl rfl rfl (Div32_any ((op - 109).toNat) (by omega) (a % 4294967296) (b % 4294967296) (by omega) (by omega)) ?_
  rintro _ _ ⟨rfl, rfl⟩
  refine KL.op (R.extract rfl rfl rfl) rfl rfl rfl (KL.op (R.extract rfl rfl rfl) rfl rfl rfl (KL.op (R.assign rfl rfl) rfl rfl rfl (KL.op (R.assign rfl rfl) rfl rfl rfl (KL.nil (KQ.seq (KC.ret (KQ.retBlock (KQ.retThen (KQ.retBlock ?_)))))))))
  refine KQ.retThen (KQ.ofRet ?_)
  refine KQ.fin2 Tryd.results12 rfl rfl ?_
  exact ⟨Wr.tupR ((Wr.div32 (kd := (op - 109).toNat) (by omega) a b).trans (by rw [Int.toNat_of_nonneg (by omega), Wd.E_sup _ _ (by omega), Wd.D109r h])), o0⟩

set_option maxRecDepth 100000 in
set_option maxHeartbeats 4000000 in
theorem rDo_r127 {H : Heap} (op : Int) (h : 127 ≤ op ∧ op ≤ 130) (a b : Nat) (ha : a < 18446744073709551616) (hb : b < 18446744073709551616) : Ct Tryd.prog 12 [.int .u8 op, .int .u64 (a : Nat), .int .u64 (b : Nat)] H (fun u H' => u = .tuple #[.int .u64 (Wd.E op a b).1, .int .u8 (Wd.E op a b).2] ∧ Old H H') := by
  refine Ct.mk Tryd.func12 rfl Tryd.ntmps12 rfl ?_
  intro W0 hW0
  have o0 : Old H H := Old.refl H
  refine KC.seq (KC.region (KL.op (R.assign rfl rfl) rfl rfl rfl (KL.op (R.assign rfl rfl) rfl rfl rfl (KL.nil (KQ.seq (KC.seq (KC.region (KL.op (R.move rfl rfl) rfl rfl rfl ?_))))))))
  refine KL.call rfl rfl rfl rfl Tryd.call21 rfl rfl rfl (num_pl op 124 64 (by omega)) ?_
  rintro _ _ ⟨rfl, rfl⟩
  refine KL.op (R.move rfl rfl) rfl rfl rfl (KL.op (R.extract rfl rfl rfl) rfl rfl rfl (KL.op (R.extract rfl rfl rfl) rfl rfl rfl (KL.op (R.extract rfl rfl rfl) rfl rfl rfl (KL.op (R.assign rfl rfl) rfl rfl rfl (KL.op (R.assign rfl rfl) rfl rfl rfl (KL.op (R.assign rfl rfl) rfl rfl rfl (KL.nil (KQ.seq (KC.seq ?_)))))))))
  refine KC.region (KL.op (R.move rfl rfl) rfl rfl rfl (KL.op (R.move rfl rfl) rfl rfl rfl (KL.op (R.assign rfl rfl) rfl rfl rfl (KL.op (R.assign rfl rfl) rfl rfl rfl (KL.nil (KQ.seq (KC.seq (KC.seq (KC.region ?_)))))))))
  refine KL.op (R.move rfl rfl) rfl rfl rfl ?_
  refine KL.op ((R.eql rfl rfl rfl).val (congrArg Value.bool (decide_eq_false (by decide)))) rfl rfl rfl ?_
  refine KL.nil (KQ.seq (KC.condF rfl ?_))
  refine KC.skip ?_
  refine KQ.seq (KC.seq (KC.seq (KC.region (KL.op (R.move rfl rfl) rfl rfl rfl (KL.nil (KQ.seq (KC.block (KC.seq (KC.region ?_)))))))))
  refine KL.op ((R.eql rfl rfl rfl).val (congrArg Value.bool (decide_eq_false (by decide)))) rfl rfl rfl ?_
  refine KL.op (R.assign rfl rfl) rfl rfl rfl (KL.nil (KQ.seq (KC.condF rfl (KC.seq (KC.region ?_)))))
  refine KL.op ((R.eql rfl rfl rfl).val (congrArg Value.bool (decide_eq_false (by decide)))) rfl rfl rfl ?_
  refine KL.op (R.assign rfl rfl) rfl rfl rfl (KL.nil (KQ.seq (KC.condF rfl (KC.seq (KC.region ?_)))))
  refine KL.op ((R.eql rfl rfl rfl).val (congrArg Value.bool (decide_eq_true (by rfl)))) rfl rfl rfl ?_
  refine KL.op (R.assign rfl rfl) rfl rfl rfl (KL.nil (KQ.seq (KC.condT rfl (KC.seq (KC.block (KC.seq (KC.region (KL.op (R.move rfl rfl) rfl rfl rfl ?_))))))))
  refine KL.op ((R.eql rfl rfl rfl).val (congrArg Value.bool (decide_eq_false (by omega)))) rfl rfl rfl ?_
  refine KL.op (R.assign rfl rfl) rfl rfl rfl (KL.nil (KQ.seq (KC.condF rfl (KC.seq (KC.region (KL.op (R.move rfl rfl) rfl rfl rfl ?_))))))
  refine KL.op ((R.eql rfl rfl rfl).val (congrArg Value.bool (decide_eq_false (by omega)))) rfl rfl rfl ?_
  refine KL.op (R.assign rfl rfl) rfl rfl rfl (KL.nil (KQ.seq (KC.condF rfl (KC.seq (KC.region (KL.op (R.move rfl rfl) rfl rfl rfl ?_))))))
  refine KL.op ((R.eql rfl rfl rfl).val (congrArg Value.bool (decide_eq_false (by omega)))) rfl rfl rfl ?_
  refine KL.op (R.assign rfl rfl) rfl rfl rfl (KL.nil (KQ.seq (KC.condF rfl (KC.seq (KC.region (KL.op (R.move rfl rfl) rfl rfl rfl ?_))))))
  refine KL.op ((R.leq rfl rfl rfl).val (congrArg Value.bool (decide_eq_true (by omega)))) rfl rfl rfl ?_
  refine KL.op (R.assign rfl rfl) rfl rfl rfl (KL.nil (KQ.seq (KC.condT rfl (KC.seq (KC.region (KL.op (R.move rfl rfl) rfl rfl rfl ?_))))))
  refine KL.op ((R.sub rfl rfl rfl (by dsimp only [InR]; omega)).val (congrArg (Value.int .i64) (show op - 124 - 3 = (((op - 127).toNat : Nat) : Int) by omega))) rfl rfl rfl ?_
  refine KL.op (R.move rfl rfl) rfl rfl rfl (KL.op (R.move rfl rfl) rfl rfl rfl (KL.op (R.move rfl rfl) rfl rfl rfl ?_))
  refine KL.call rfl rfl rfl rfl Tryd.call26 rfl rfl rfl (Div64_any ((op - 127).toNat) (by omega) (a) (b) (by omega) (by omega)) ?_
  rintro _ _ ⟨rfl, rfl⟩
  refine KL.op (R.extract rfl rfl rfl) rfl rfl rfl (KL.op (R.extract rfl rfl rfl) rfl rfl rfl (KL.op (R.assign rfl rfl) rfl rfl rfl (KL.op (R.assign rfl rfl) rfl rfl rfl (KL.nil (KQ.seq (KC.ret (KQ.retBlock (KQ.retThen (KQ.retBlock ?_)))))))))
  refine KQ.retThen (KQ.ofRet ?_)
  refine KQ.fin2 Tryd.results12 rfl rfl ?_
  exact ⟨Wr.tupR ((Wr.div64 (kd := (op - 127).toNat) (by omega) ha hb).trans (by rw [Int.toNat_of_nonneg (by omega), Wd.E_sup _ _ (by omega), D127r h])), o0⟩

set_option maxRecDepth 100000 in
set_option maxHeartbeats 4000000 in
theorem rDo_r113 {H : Heap} (op : Int) (h : 113 ≤ op ∧ op ≤ 120) (a b : Nat) (ha : a < 18446744073709551616) (hb : b < 18446744073709551616) : Ct Tryd.prog 12 [.int .u8 op, .int .u64 (a : Nat), .int .u64 (b : Nat)] H (fun u H' => u = .tuple #[.int .u64 (Wd.E op a b).1, .int .u8 (Wd.E op a b).2] ∧ Old H H') := by
  refine Ct.mk Tryd.func12 rfl Tryd.ntmps12 rfl ?_
  intro W0 hW0
  have o0 : Old H H := Old.refl H
  refine KC.seq (KC.region (KL.op (R.assign rfl rfl) rfl rfl rfl (KL.op (R.assign rfl rfl) rfl rfl rfl (KL.nil (KQ.seq (KC.seq (KC.region (KL.op (R.move rfl rfl) rfl rfl rfl ?_))))))))
  refine KL.call rfl rfl rfl rfl Tryd.call21 rfl rfl rfl (num_pl op 106 32 (by omega)) ?_
  rintro _ _ ⟨rfl, rfl⟩
  refine KL.op (R.move rfl rfl) rfl rfl rfl (KL.op (R.extract rfl rfl rfl) rfl rfl rfl (KL.op (R.extract rfl rfl rfl) rfl rfl rfl (KL.op (R.extract rfl rfl rfl) rfl rfl rfl (KL.op (R.assign rfl rfl) rfl rfl rfl (KL.op (R.assign rfl rfl) rfl rfl rfl (KL.op (R.assign rfl rfl) rfl rfl rfl (KL.nil (KQ.seq (KC.seq ?_)))))))))
  refine KC.region (KL.op (R.move rfl rfl) rfl rfl rfl (KL.op (R.move rfl rfl) rfl rfl rfl (KL.op (R.assign rfl rfl) rfl rfl rfl (KL.op (R.assign rfl rfl) rfl rfl rfl (KL.nil (KQ.seq (KC.seq (KC.seq (KC.region ?_)))))))))
  refine KL.op (R.move rfl rfl) rfl rfl rfl ?_
  refine KL.op ((R.eql rfl rfl rfl).val (congrArg Value.bool (decide_eq_true (by rfl)))) rfl rfl rfl ?_
  refine KL.nil (KQ.seq (KC.condT rfl (KC.seq (KC.region (KL.op (R.move rfl rfl) rfl rfl rfl ?_)))))
  refine KL.call rfl rfl rfl rfl Tryd.call22 rfl rfl rfl (cutN32 a ha) ?_
  rintro _ _ ⟨rfl, rfl⟩
  refine KL.op (R.assign rfl rfl) rfl rfl rfl (KL.nil (KQ.seq (KC.region (KL.op (R.move rfl rfl) rfl rfl rfl ?_))))
  refine KL.call rfl rfl rfl rfl Tryd.call22 rfl rfl rfl (cutN32 b hb) ?_
  rintro _ _ ⟨rfl, rfl⟩
  refine KL.op (R.assign rfl rfl) rfl rfl rfl (KL.nil (KQ.seq (KC.seq (KC.seq (KC.region (KL.op (R.move rfl rfl) rfl rfl rfl (KL.nil (KQ.seq (KC.block ?_)))))))))
  refine KC.seq (KC.region ?_)
  refine KL.op ((R.eql rfl rfl rfl).val (congrArg Value.bool (decide_eq_false (by decide)))) rfl rfl rfl ?_
  refine KL.op (R.assign rfl rfl) rfl rfl rfl (KL.nil (KQ.seq (KC.condF rfl (KC.seq (KC.region ?_)))))
  refine KL.op ((R.eql rfl rfl rfl).val (congrArg Value.bool (decide_eq_false (by decide)))) rfl rfl rfl ?_
  refine KL.op (R.assign rfl rfl) rfl rfl rfl (KL.nil (KQ.seq (KC.condF rfl (KC.seq (KC.region ?_)))))
  refine KL.op ((R.eql rfl rfl rfl).val (congrArg Value.bool (decide_eq_true (by rfl)))) rfl rfl rfl ?_
  refine KL.op (R.assign rfl rfl) rfl rfl rfl (KL.nil (KQ.seq (KC.condT rfl (KC.seq (KC.block (KC.seq (KC.region (KL.op (R.move rfl rfl) rfl rfl rfl ?_))))))))
  refine KL.op ((R.eql rfl rfl rfl).val (congrArg Value.bool (decide_eq_false (by omega)))) rfl rfl rfl ?_
  refine KL.op (R.assign rfl rfl) rfl rfl rfl (KL.nil (KQ.seq (KC.condF rfl (KC.seq (KC.region (KL.op (R.move rfl rfl) rfl rfl rfl ?_))))))
  refine KL.op ((R.eql rfl rfl rfl).val (congrArg Value.bool (decide_eq_false (by omega)))) rfl rfl rfl ?_
  refine KL.op (R.assign rfl rfl) rfl rfl rfl (KL.nil (KQ.seq (KC.condF rfl (KC.seq (KC.region (KL.op (R.move rfl rfl) rfl rfl rfl ?_))))))
  refine KL.op ((R.eql rfl rfl rfl).val (congrArg Value.bool (decide_eq_false (by omega)))) rfl rfl rfl ?_
  refine KL.op (R.assign rfl rfl) rfl rfl rfl (KL.nil (KQ.seq (KC.condF rfl (KC.seq (KC.region (KL.op (R.move rfl rfl) rfl rfl rfl ?_))))))
  refine KL.op ((R.leq rfl rfl rfl).val (congrArg Value.bool (decide_eq_false (by omega)))) rfl rfl rfl ?_
  refine KL.op (R.assign rfl rfl) rfl rfl rfl (KL.nil (KQ.seq (KC.condF rfl ?_)))
  refine KC.skip ?_
  refine KQ.normBlock (KQ.seq (KC.seq (KC.region (KL.op (R.move rfl rfl) rfl rfl rfl ?_))))
  refine KL.op ((R.sub rfl rfl rfl (by dsimp only [InR]; omega)).val (congrArg (Value.int .i64) (show op - 106 - 7 = (((op - 113).toNat : Nat) : Int) by omega))) rfl rfl rfl ?_
  refine KL.op (R.move rfl rfl) rfl rfl rfl (KL.op (R.move rfl rfl) rfl rfl rfl (KL.op (R.move rfl rfl) rfl rfl rfl ?_))
  refine KL.call rfl rfl rfl rfl Tryd.call27 rfl rfl rfl (Bits32_any ((op - 113).toNat) (by omega) (a % 4294967296) (b % 4294967296) (by omega) (by omega)) ?_
  rintro _ H9 ⟨rfl, o9⟩
  have zc_H1 := (o9).1
  have o0 := o0.trans o9
  refine KL.op (R.assign rfl rfl) rfl rfl rfl (KL.op (R.assign rfl rfl) rfl rfl rfl (KL.nil (KQ.seq (KC.ret (KQ.retBlock (KQ.retThen (KQ.ofRet ?_)))))))
  refine KQ.fin2 Tryd.results12 rfl rfl ?_
  exact ⟨Wr.tupR ((Wr.pair (Wr.bits32 (kd := (op - 113).toNat) (by omega) a b)).trans (by rw [show ((7 + (op - 113).toNat : Nat) : Int) = op - 106 by omega, Wd.E_sup _ _ (by omega), Wd.D106r (by omega) (by omega)])), o0⟩

set_option maxRecDepth 100000 in
set_option maxHeartbeats 4000000 in
theorem rDo_r131 {H : Heap} (op : Int) (h : 131 ≤ op ∧ op ≤ 138) (a b : Nat) (ha : a < 18446744073709551616) (hb : b < 18446744073709551616) : Ct Tryd.prog 12 [.int .u8 op, .int .u64 (a : Nat), .int .u64 (b : Nat)] H (fun u H' => u = .tuple #[.int .u64 (Wd.E op a b).1, .int .u8 (Wd.E op a b).2] ∧ Old H H') := by
  refine Ct.mk Tryd.func12 rfl Tryd.ntmps12 rfl ?_
  intro W0 hW0
  have o0 : Old H H := Old.refl H
  refine KC.seq (KC.region (KL.op (R.assign rfl rfl) rfl rfl rfl (KL.op (R.assign rfl rfl) rfl rfl rfl (KL.nil (KQ.seq (KC.seq (KC.region (KL.op (R.move rfl rfl) rfl rfl rfl ?_))))))))
  refine KL.call rfl rfl rfl rfl Tryd.call21 rfl rfl rfl (num_pl op 124 64 (by omega)) ?_
  rintro _ _ ⟨rfl, rfl⟩
  refine KL.op (R.move rfl rfl) rfl rfl rfl (KL.op (R.extract rfl rfl rfl) rfl rfl rfl (KL.op (R.extract rfl rfl rfl) rfl rfl rfl (KL.op (R.extract rfl rfl rfl) rfl rfl rfl (KL.op (R.assign rfl rfl) rfl rfl rfl (KL.op (R.assign rfl rfl) rfl rfl rfl (KL.op (R.assign rfl rfl) rfl rfl rfl (KL.nil (KQ.seq (KC.seq ?_)))))))))
  refine KC.region (KL.op (R.move rfl rfl) rfl rfl rfl (KL.op (R.move rfl rfl) rfl rfl rfl (KL.op (R.assign rfl rfl) rfl rfl rfl (KL.op (R.assign rfl rfl) rfl rfl rfl (KL.nil (KQ.seq (KC.seq (KC.seq (KC.region ?_)))))))))
  refine KL.op (R.move rfl rfl) rfl rfl rfl ?_
  refine KL.op ((R.eql rfl rfl rfl).val (congrArg Value.bool (decide_eq_false (by decide)))) rfl rfl rfl ?_
  refine KL.nil (KQ.seq (KC.condF rfl ?_))
  refine KC.skip ?_
  refine KQ.seq (KC.seq (KC.seq (KC.region (KL.op (R.move rfl rfl) rfl rfl rfl (KL.nil (KQ.seq (KC.block (KC.seq (KC.region ?_)))))))))
  refine KL.op ((R.eql rfl rfl rfl).val (congrArg Value.bool (decide_eq_false (by decide)))) rfl rfl rfl ?_
  refine KL.op (R.assign rfl rfl) rfl rfl rfl (KL.nil (KQ.seq (KC.condF rfl (KC.seq (KC.region ?_)))))
  refine KL.op ((R.eql rfl rfl rfl).val (congrArg Value.bool (decide_eq_false (by decide)))) rfl rfl rfl ?_
  refine KL.op (R.assign rfl rfl) rfl rfl rfl (KL.nil (KQ.seq (KC.condF rfl (KC.seq (KC.region ?_)))))
  refine KL.op ((R.eql rfl rfl rfl).val (congrArg Value.bool (decide_eq_true (by rfl)))) rfl rfl rfl ?_
  refine KL.op (R.assign rfl rfl) rfl rfl rfl (KL.nil (KQ.seq (KC.condT rfl (KC.seq (KC.block (KC.seq (KC.region (KL.op (R.move rfl rfl) rfl rfl rfl ?_))))))))
  refine KL.op ((R.eql rfl rfl rfl).val (congrArg Value.bool (decide_eq_false (by omega)))) rfl rfl rfl ?_
  refine KL.op (R.assign rfl rfl) rfl rfl rfl (KL.nil (KQ.seq (KC.condF rfl (KC.seq (KC.region (KL.op (R.move rfl rfl) rfl rfl rfl ?_))))))
  refine KL.op ((R.eql rfl rfl rfl).val (congrArg Value.bool (decide_eq_false (by omega)))) rfl rfl rfl ?_
  refine KL.op (R.assign rfl rfl) rfl rfl rfl (KL.nil (KQ.seq (KC.condF rfl (KC.seq (KC.region (KL.op (R.move rfl rfl) rfl rfl rfl ?_))))))
  refine KL.op ((R.eql rfl rfl rfl).val (congrArg Value.bool (decide_eq_false (by omega)))) rfl rfl rfl ?_
  refine KL.op (R.assign rfl rfl) rfl rfl rfl (KL.nil (KQ.seq (KC.condF rfl (KC.seq (KC.region (KL.op (R.move rfl rfl) rfl rfl rfl ?_))))))
  refine KL.op ((R.leq rfl rfl rfl).val (congrArg Value.bool (decide_eq_false (by omega)))) rfl rfl rfl ?_
  refine KL.op (R.assign rfl rfl) rfl rfl rfl (KL.nil (KQ.seq (KC.condF rfl ?_)))
  refine KC.skip ?_
  refine KQ.normBlock (KQ.seq (KC.seq (KC.region (KL.op (R.move rfl rfl) rfl rfl rfl ?_))))
  refine KL.op ((R.sub rfl rfl rfl (by dsimp only [InR]; omega)).val (congrArg (Value.int .i64) (show op - 124 - 7 = (((op - 131).toNat : Nat) : Int) by omega))) rfl rfl rfl ?_
  refine KL.op (R.move rfl rfl) rfl rfl rfl (KL.op (R.move rfl rfl) rfl rfl rfl (KL.op (R.move rfl rfl) rfl rfl rfl ?_))
  refine KL.call rfl rfl rfl rfl Tryd.call27 rfl rfl rfl (Bits64_any ((op - 131).toNat) (by omega) (a) (b) (by omega) (by omega)) ?_
  rintro _ H9 ⟨rfl, o9⟩
  have zc_H1 := (o9).1
  have o0 := o0.trans o9
  refine KL.op (R.assign rfl rfl) rfl rfl rfl (KL.op (R.assign rfl rfl) rfl rfl rfl (KL.nil (KQ.seq (KC.ret (KQ.retBlock (KQ.retThen (KQ.ofRet ?_)))))))
  refine KQ.fin2 Tryd.results12 rfl rfl ?_
  exact ⟨Wr.tupR ((Wr.pair (Wr.bits64 (kd := (op - 131).toNat) (by omega) ha hb)).trans (by rw [show ((7 + (op - 131).toNat : Nat) : Int) = op - 124 by omega, Wd.E_sup _ _ (by omega), D124r h])), o0⟩

theorem num_none {H : Heap} (op : Int) (ro : InR .u8 op) (h0 : Wr.num op = (-1, 0, 0)) : Ct Tryd.prog 21 [.int .u8 op] H (fun u H' => u = .tuple #[.int .i64 (-1), .int .i64 0, .int .i64 0] ∧ H = H') := by
  have h := number_k (H := H) op ro
  rw [h0] at h
  exact h
theorem num_ar {op : Int} (h : Wd.ar op = 0) : Wr.num op = (-1, 0, 0) ∧ op ≠ 69 ∧ op ≠ 80 ∧ op ≠ 167 ∧ op ≠ 172 ∧ op ≠ 173 := by
  unfold Wd.ar at h
  split at h
  · omega
  · split at h
    · omega
    · unfold Wr.num
      rw [if_neg (by omega), if_neg (by omega), if_neg (by omega), if_neg (by omega), if_neg (by omega), if_neg (by omega)]
      exact ⟨rfl, by omega, by omega, by omega, by omega, by omega⟩

set_option maxRecDepth 100000 in
set_option maxHeartbeats 4000000 in
theorem rDo_none {H : Heap} (op : Int) (ro : InR .u8 op) (a b : Nat) (ha : a < 18446744073709551616) (hb : b < 18446744073709551616) (h0 : Wd.ar op = 0) : Ct Tryd.prog 12 [.int .u8 op, .int .u64 (a : Nat), .int .u64 (b : Nat)] H (fun u H' => u = .tuple #[.int .u64 (Wd.E op a b).1, .int .u8 (Wd.E op a b).2] ∧ Old H H') := by
  refine Ct.mk Tryd.func12 rfl Tryd.ntmps12 rfl ?_
  intro W0 hW0
  have o0 : Old H H := Old.refl H
  have hn := num_ar h0
  refine KC.seq (KC.region (KL.op (R.assign rfl rfl) rfl rfl rfl (KL.op (R.assign rfl rfl) rfl rfl rfl (KL.nil (KQ.seq (KC.seq (KC.region (KL.op (R.move rfl rfl) rfl rfl rfl ?_))))))))
  refine KL.call rfl rfl rfl rfl Tryd.call21 rfl rfl rfl (num_none op ro hn.1) ?_
  rintro _ _ ⟨rfl, rfl⟩
  refine KL.op (R.move rfl rfl) rfl rfl rfl (KL.op (R.extract rfl rfl rfl) rfl rfl rfl (KL.op (R.extract rfl rfl rfl) rfl rfl rfl (KL.op (R.extract rfl rfl rfl) rfl rfl rfl (KL.op (R.assign rfl rfl) rfl rfl rfl (KL.op (R.assign rfl rfl) rfl rfl rfl (KL.op (R.assign rfl rfl) rfl rfl rfl (KL.nil (KQ.seq (KC.seq ?_)))))))))
  refine KC.region (KL.op (R.move rfl rfl) rfl rfl rfl (KL.op (R.move rfl rfl) rfl rfl rfl (KL.op (R.assign rfl rfl) rfl rfl rfl (KL.op (R.assign rfl rfl) rfl rfl rfl (KL.nil (KQ.seq (KC.seq (KC.seq (KC.region ?_)))))))))
  refine KL.op (R.move rfl rfl) rfl rfl rfl ?_
  refine KL.op ((R.eql rfl rfl rfl).val (congrArg Value.bool (decide_eq_false (by decide)))) rfl rfl rfl ?_
  refine KL.nil (KQ.seq (KC.condF rfl ?_))
  refine KC.skip ?_
  refine KQ.seq (KC.seq (KC.seq (KC.region (KL.op (R.move rfl rfl) rfl rfl rfl (KL.nil (KQ.seq (KC.block (KC.seq (KC.region ?_)))))))))
  refine KL.op ((R.eql rfl rfl rfl).val (congrArg Value.bool (decide_eq_false (by decide)))) rfl rfl rfl ?_
  refine KL.op (R.assign rfl rfl) rfl rfl rfl (KL.nil (KQ.seq (KC.condF rfl (KC.seq (KC.region ?_)))))
  refine KL.op ((R.eql rfl rfl rfl).val (congrArg Value.bool (decide_eq_false (by decide)))) rfl rfl rfl ?_
  refine KL.op (R.assign rfl rfl) rfl rfl rfl (KL.nil (KQ.seq (KC.condF rfl (KC.seq (KC.region ?_)))))
  refine KL.op ((R.eql rfl rfl rfl).val (congrArg Value.bool (decide_eq_false (by decide)))) rfl rfl rfl ?_
  refine KL.op (R.assign rfl rfl) rfl rfl rfl (KL.nil (KQ.seq (KC.condF rfl ?_)))
  refine KC.skip ?_
  refine KQ.normBlock (KQ.seq (KC.seq (KC.region (KL.op (R.move rfl rfl) rfl rfl rfl ?_))))
  refine KL.call rfl rfl rfl rfl Tryd.call22 rfl rfl rfl (cutN32 a ha) ?_
  rintro _ _ ⟨rfl, rfl⟩
  refine KL.op (R.assign rfl rfl) rfl rfl rfl (KL.nil (KQ.seq (KC.seq (KC.seq (KC.region (KL.op (R.move rfl rfl) rfl rfl rfl (KL.nil (KQ.seq (KC.block ?_)))))))))
  refine KC.seq (KC.region ?_)
  refine KL.op ((R.eql rfl rfl rfl).val (congrArg Value.bool (decide_eq_false (by exact hn.2.1)))) rfl rfl rfl ?_
  refine KL.op (R.assign rfl rfl) rfl rfl rfl (KL.nil (KQ.seq (KC.condF rfl (KC.seq (KC.region ?_)))))
  refine KL.op ((R.eql rfl rfl rfl).val (congrArg Value.bool (decide_eq_false (by exact hn.2.2.1)))) rfl rfl rfl ?_
  refine KL.op (R.assign rfl rfl) rfl rfl rfl (KL.nil (KQ.seq (KC.condF rfl (KC.seq (KC.seq (KC.region ?_))))))
  refine KL.op ((R.eql rfl rfl rfl).val (congrArg Value.bool (decide_eq_false (by exact hn.2.2.2.1)))) rfl rfl rfl ?_
  refine KL.op (R.assign rfl rfl) rfl rfl rfl (KL.nil (KQ.seq (KC.condF rfl (KC.region ?_))))
  refine KL.op ((R.eql rfl rfl rfl).val (congrArg Value.bool (decide_eq_false (by exact hn.2.2.2.2.2)))) rfl rfl rfl ?_
  refine KL.op (R.assign rfl rfl) rfl rfl rfl (KL.nil (KQ.seq (KC.condF rfl (KC.seq (KC.region ?_)))))
  refine KL.op ((R.eql rfl rfl rfl).val (congrArg Value.bool (decide_eq_false (by exact hn.2.2.2.2.1)))) rfl rfl rfl ?_
  refine KL.op (R.assign rfl rfl) rfl rfl rfl (KL.nil (KQ.seq (KC.condF rfl ?_)))
  refine KC.skip ?_
  refine KQ.normBlock (KQ.seq (KC.seq (KC.region (KL.op (R.assign rfl rfl) rfl rfl rfl (KL.op (R.assign rfl rfl) rfl rfl rfl (KL.nil (KQ.seq (KC.ret (KQ.ofRet ?_)))))))))
  refine KQ.fin2 Tryd.results12 rfl rfl ?_
  exact ⟨Wr.tupR (Wd.E_none _ _ h0).symm, o0⟩

set_option maxRecDepth 100000 in
set_option maxHeartbeats 4000000 in
theorem rDo_E {H : Heap} (op a b : Int) (ro : InR .u8 op) (ra : InR .u64 a) (rb : InR .u64 b) : Ct Tryd.prog 12 [.int .u8 op, .int .u64 a, .int .u64 b] H (fun u H' => u = .tuple #[.int .u64 (Wd.E op a b).1, .int .u8 (Wd.E op a b).2] ∧ Old H H') := by
  dsimp only [InR] at ra rb
  obtain ⟨x, rfl⟩ := Int.eq_ofNat_of_zero_le ra.1
  obtain ⟨y, rfl⟩ := Int.eq_ofNat_of_zero_le rb.1
  have ha : x < 18446744073709551616 := by omega
  have hb : y < 18446744073709551616 := by omega
  by_cases h0 : Wd.ar op = 0
  · exact rDo_none op ro x y ha hb h0
  have h2 : op = 69 ∨ op = 70 ∨ op = 71 ∨ op = 72 ∨ op = 73 ∨ op = 74 ∨ op = 75 ∨ op = 76 ∨ op = 77 ∨ op = 78 ∨ op = 79 ∨ op = 80 ∨ op = 81 ∨ op = 82 ∨ op = 83 ∨ op = 84 ∨ op = 85 ∨ op = 86 ∨ op = 87 ∨ op = 88 ∨ op = 89 ∨ op = 90 ∨ op = 103 ∨ op = 104 ∨ op = 105 ∨ op = 106 ∨ op = 107 ∨ op = 108 ∨ op = 121 ∨ op = 122 ∨ op = 123 ∨ op = 124 ∨ op = 125 ∨ op = 126 ∨ op = 167 ∨ op = 172 ∨ op = 173 ∨ (109 ≤ op ∧ op ≤ 112) ∨ (127 ≤ op ∧ op ≤ 130) ∨ (113 ≤ op ∧ op ≤ 120) ∨ (131 ≤ op ∧ op ≤ 138) := by
    unfold Wd.ar at h0
    split at h0
    · omega
    · split at h0
      · omega
      · exact absurd rfl h0
  rcases h2 with rfl | rfl | rfl | rfl | rfl | rfl | rfl | rfl | rfl | rfl | rfl | rfl | rfl | rfl | rfl | rfl | rfl | rfl | rfl | rfl | rfl | rfl | rfl | rfl | rfl | rfl | rfl | rfl | rfl | rfl | rfl | rfl | rfl | rfl | rfl | rfl | rfl | h | h | h | h
  · exact rDo_69 x y ha hb
  · exact rDo_70 x y ha hb
  · exact rDo_71 x y ha hb
  · exact rDo_72 x y ha hb
  · exact rDo_73 x y ha hb
  · exact rDo_74 x y ha hb
  · exact rDo_75 x y ha hb
  · exact rDo_76 x y ha hb
  · exact rDo_77 x y ha hb
  · exact rDo_78 x y ha hb
  · exact rDo_79 x y ha hb
  · exact rDo_80 x y ha hb
  · exact rDo_81 x y ha hb
  · exact rDo_82 x y ha hb
  · exact rDo_83 x y ha hb
  · exact rDo_84 x y ha hb
  · exact rDo_85 x y ha hb
  · exact rDo_86 x y ha hb
  · exact rDo_87 x y ha hb
  · exact rDo_88 x y ha hb
  · exact rDo_89 x y ha hb
  · exact rDo_90 x y ha hb
  · exact rDo_103 x y ha hb
  · exact rDo_104 x y ha hb
  · exact rDo_105 x y ha hb
  · exact rDo_106 x y ha hb
  · exact rDo_107 x y ha hb
  · exact rDo_108 x y ha hb
  · exact rDo_121 x y ha hb
  · exact rDo_122 x y ha hb
  · exact rDo_123 x y ha hb
  · exact rDo_124 x y ha hb
  · exact rDo_125 x y ha hb
  · exact rDo_126 x y ha hb
  · exact rDo_167 x y ha hb
  · exact rDo_172 x y ha hb
  · exact rDo_173 x y ha hb
  · exact rDo_r109 op h x y ha hb
  · exact rDo_r127 op h x y ha hb
  · exact rDo_r113 op h x y ha hb
  · exact rDo_r131 op h x y ha hb

theorem Wr.ar_num (op : Int) : ((Wr.num op).1 = 0 ∨ (Wr.num op).1 = 2 → Wd.ar op = 2) ∧ ((Wr.num op).1 = 1 → Wd.ar op = 1) ∧ (¬ ((Wr.num op).1 = 0 ∨ (Wr.num op).1 = 2) → ¬ (Wr.num op).1 = 1 → (op = 69 ∨ op = 80 ∨ op = 167 ∨ op = 172 ∨ op = 173 → Wd.ar op = 1) ∧ (¬ (op = 69 ∨ op = 80 ∨ op = 167 ∨ op = 172 ∨ op = 173) → Wd.ar op = 0)) := by
  unfold Wr.num Wd.ar
  repeat' split
  all_goals simp
  all_goals omega

set_option maxRecDepth 100000 in
set_option maxHeartbeats 4000000 in
theorem rArity_any {H : Heap} (op : Int) (ro : InR .u8 op) : Ct Tryd.prog 13 [.int .u8 op] H (fun u H' => u = .int .i64 (Wd.ar op) ∧ H = H') := by
  refine Ct.mk Tryd.func13 rfl Tryd.ntmps13 rfl ?_
  intro W0 hW0
  have o0 : Old H H := Old.refl H
  refine KC.seq (KC.region (KL.op (R.assign rfl rfl) rfl rfl rfl (KL.nil (KQ.seq (KC.seq (KC.region (KL.op (R.move rfl rfl) rfl rfl rfl ?_)))))))
  refine KL.call rfl rfl rfl rfl Tryd.call21 rfl rfl rfl (number_k _ ro) ?_
  rintro _ _ ⟨rfl, rfl⟩
  refine KL.op (R.move rfl rfl) rfl rfl rfl (KL.op (R.extract rfl rfl rfl) rfl rfl rfl (KL.op (R.extract rfl rfl rfl) rfl rfl rfl (KL.op (R.extract rfl rfl rfl) rfl rfl rfl (KL.op (R.assign rfl rfl) rfl rfl rfl (KL.op (R.assign rfl rfl) rfl rfl rfl (KL.op (R.assign rfl rfl) rfl rfl rfl (KL.nil (KQ.seq (KC.seq ?_)))))))))
  refine KC.block (KC.seq (KC.region (KL.op (R.move rfl rfl) rfl rfl rfl ?_)))
  refine KL.op (R.eql rfl rfl rfl) rfl rfl rfl ?_
  refine KL.op (R.move rfl rfl) rfl rfl rfl ?_
  refine KL.case (d := 15) rfl ?_ ?_
  · intro hg15
    try simp only [decide_eq_true_eq, decide_eq_false_iff_not, Bool.not_eq_true', Bool.not_eq_false', Bool.and_eq_true, Bool.or_eq_false_iff] at hg15
    refine KL.skip rfl rfl rfl ?_
    refine KL.skip rfl rfl rfl ?_
    refine KL.op (R.pick rfl rfl rfl) rfl rfl rfl ?_
    refine KL.op (R.assign rfl rfl) rfl rfl rfl (KL.nil (KQ.seq (KC.condT rfl (KC.seq (KC.region (KL.op (R.assign rfl rfl) rfl rfl rfl (KL.nil (KQ.seq (KC.ret ?_)))))))))
    refine KQ.retBlock (KQ.retThen (KQ.ofRet ?_))
    refine KQ.fin1 Tryd.results13 rfl ?_
    refine ⟨congrArg (Value.int .i64) ?_, rfl⟩
    obtain ⟨q1, q2, q3⟩ := Wr.ar_num op
    symm
    first
      | exact q1 (by omega)
      | exact q2 (by omega)
      | exact (q3 (by omega) (by omega)).1 (by omega)
      | exact (q3 (by omega) (by omega)).2 (by omega)
  · intro hg15
    try simp only [decide_eq_true_eq, decide_eq_false_iff_not, Bool.not_eq_true', Bool.not_eq_false', Bool.and_eq_true, Bool.or_eq_false_iff] at hg15
    refine KL.op (R.move rfl rfl) rfl rfl rfl ?_
    refine KL.op (R.eql rfl rfl rfl) rfl rfl rfl ?_
    refine KL.op (R.pick rfl rfl rfl) rfl rfl rfl ?_
    refine KL.op (R.assign rfl rfl) rfl rfl rfl (KL.nil (KQ.seq ?_))
    refine KC.iteL rfl ?_ ?_
    · intro hc12
      try simp only [decide_eq_true_eq, decide_eq_false_iff_not, Bool.not_eq_true', Bool.not_eq_false', Bool.and_eq_true, Bool.or_eq_false_iff] at hc12
      refine KC.seq (KC.region (KL.op (R.assign rfl rfl) rfl rfl rfl (KL.nil (KQ.seq (KC.ret (KQ.retBlock (KQ.retThen (KQ.ofRet ?_))))))))
      refine KQ.fin1 Tryd.results13 rfl ?_
      refine ⟨congrArg (Value.int .i64) ?_, rfl⟩
      obtain ⟨q1, q2, q3⟩ := Wr.ar_num op
      symm
      first
        | exact q1 (by omega)
        | exact q2 (by omega)
        | exact (q3 (by omega) (by omega)).1 (by omega)
        | exact (q3 (by omega) (by omega)).2 (by omega)
    · intro hc12
      try simp only [decide_eq_true_eq, decide_eq_false_iff_not, Bool.not_eq_true', Bool.not_eq_false', Bool.and_eq_true, Bool.or_eq_false_iff] at hc12
      refine KC.seq (KC.region (KL.op (R.move rfl rfl) rfl rfl rfl ?_))
      refine KL.op (R.eql rfl rfl rfl) rfl rfl rfl ?_
      refine KL.op (R.move rfl rfl) rfl rfl rfl ?_
      refine KL.case (d := 22) rfl ?_ ?_
      · intro hg22
        try simp only [decide_eq_true_eq, decide_eq_false_iff_not, Bool.not_eq_true', Bool.not_eq_false', Bool.and_eq_true, Bool.or_eq_false_iff] at hg22
        refine KL.skip rfl rfl rfl ?_
        refine KL.skip rfl rfl rfl ?_
        refine KL.op (R.pick rfl rfl rfl) rfl rfl rfl ?_
        refine KL.op (R.move rfl rfl) rfl rfl rfl ?_
        refine KL.skip rfl rfl rfl ?_
        refine KL.skip rfl rfl rfl ?_
        refine KL.op (R.pick rfl rfl rfl) rfl rfl rfl ?_
        refine KL.op (R.move rfl rfl) rfl rfl rfl ?_
        refine KL.skip rfl rfl rfl ?_
        refine KL.skip rfl rfl rfl ?_
        refine KL.op (R.pick rfl rfl rfl) rfl rfl rfl ?_
        refine KL.op (R.move rfl rfl) rfl rfl rfl ?_
        refine KL.skip rfl rfl rfl ?_
        refine KL.skip rfl rfl rfl ?_
        refine KL.op (R.pick rfl rfl rfl) rfl rfl rfl ?_
        refine KL.op (R.move rfl rfl) rfl rfl rfl ?_
        refine KL.skip rfl rfl rfl ?_
        refine KL.skip rfl rfl rfl ?_
        refine KL.op (R.pick rfl rfl rfl) rfl rfl rfl ?_
        refine KL.op (R.assign rfl rfl) rfl rfl rfl (KL.nil (KQ.seq (KC.condT rfl (KC.seq (KC.region (KL.op (R.assign rfl rfl) rfl rfl rfl (KL.nil (KQ.seq (KC.ret ?_)))))))))
        refine KQ.retBlock (KQ.retThen (KQ.ofRet ?_))
        refine KQ.fin1 Tryd.results13 rfl ?_
        refine ⟨congrArg (Value.int .i64) ?_, rfl⟩
        obtain ⟨q1, q2, q3⟩ := Wr.ar_num op
        symm
        first
          | exact q1 (by omega)
          | exact q2 (by omega)
          | exact (q3 (by omega) (by omega)).1 (by omega)
          | exact (q3 (by omega) (by omega)).2 (by omega)
      · intro hg22
        try simp only [decide_eq_true_eq, decide_eq_false_iff_not, Bool.not_eq_true', Bool.not_eq_false', Bool.and_eq_true, Bool.or_eq_false_iff] at hg22
        refine KL.op (R.move rfl rfl) rfl rfl rfl ?_
        refine KL.op (R.eql rfl rfl rfl) rfl rfl rfl ?_
        refine KL.op (R.pick rfl rfl rfl) rfl rfl rfl ?_
        refine KL.op (R.move rfl rfl) rfl rfl rfl ?_
        refine KL.case (d := 26) rfl ?_ ?_
        · intro hg26
          try simp only [decide_eq_true_eq, decide_eq_false_iff_not, Bool.not_eq_true', Bool.not_eq_false', Bool.and_eq_true, Bool.or_eq_false_iff] at hg26
          refine KL.skip rfl rfl rfl ?_
          refine KL.skip rfl rfl rfl ?_
          refine KL.op (R.pick rfl rfl rfl) rfl rfl rfl ?_
          refine KL.op (R.move rfl rfl) rfl rfl rfl ?_
          refine KL.skip rfl rfl rfl ?_
          refine KL.skip rfl rfl rfl ?_
          refine KL.op (R.pick rfl rfl rfl) rfl rfl rfl ?_
          refine KL.op (R.move rfl rfl) rfl rfl rfl ?_
          refine KL.skip rfl rfl rfl ?_
          refine KL.skip rfl rfl rfl ?_
          refine KL.op (R.pick rfl rfl rfl) rfl rfl rfl ?_
          refine KL.op (R.move rfl rfl) rfl rfl rfl ?_
          refine KL.skip rfl rfl rfl ?_
          refine KL.skip rfl rfl rfl ?_
          refine KL.op (R.pick rfl rfl rfl) rfl rfl rfl ?_
          refine KL.op (R.assign rfl rfl) rfl rfl rfl (KL.nil (KQ.seq (KC.condT rfl (KC.seq (KC.region (KL.op (R.assign rfl rfl) rfl rfl rfl (KL.nil (KQ.seq (KC.ret ?_)))))))))
          refine KQ.retBlock (KQ.retThen (KQ.ofRet ?_))
          refine KQ.fin1 Tryd.results13 rfl ?_
          refine ⟨congrArg (Value.int .i64) ?_, rfl⟩
          obtain ⟨q1, q2, q3⟩ := Wr.ar_num op
          symm
          first
            | exact q1 (by omega)
            | exact q2 (by omega)
            | exact (q3 (by omega) (by omega)).1 (by omega)
            | exact (q3 (by omega) (by omega)).2 (by omega)
        · intro hg26
          try simp only [decide_eq_true_eq, decide_eq_false_iff_not, Bool.not_eq_true', Bool.not_eq_false', Bool.and_eq_true, Bool.or_eq_false_iff] at hg26
          refine KL.op (R.move rfl rfl) rfl rfl rfl ?_
          refine KL.op (R.eql rfl rfl rfl) rfl rfl rfl ?_
          refine KL.op (R.pick rfl rfl rfl) rfl rfl rfl ?_
          refine KL.op (R.move rfl rfl) rfl rfl rfl ?_
          refine KL.case (d := 30) rfl ?_ ?_
          · intro hg30
            try simp only [decide_eq_true_eq, decide_eq_false_iff_not, Bool.not_eq_true', Bool.not_eq_false', Bool.and_eq_true, Bool.or_eq_false_iff] at hg30
            refine KL.skip rfl rfl rfl ?_
            refine KL.skip rfl rfl rfl ?_
            refine KL.op (R.pick rfl rfl rfl) rfl rfl rfl ?_
            refine KL.op (R.move rfl rfl) rfl rfl rfl ?_
            refine KL.skip rfl rfl rfl ?_
            refine KL.skip rfl rfl rfl ?_
            refine KL.op (R.pick rfl rfl rfl) rfl rfl rfl ?_
            refine KL.op (R.move rfl rfl) rfl rfl rfl ?_
            refine KL.skip rfl rfl rfl ?_
            refine KL.skip rfl rfl rfl ?_
            refine KL.op (R.pick rfl rfl rfl) rfl rfl rfl ?_
            refine KL.op (R.assign rfl rfl) rfl rfl rfl (KL.nil (KQ.seq (KC.condT rfl (KC.seq (KC.region (KL.op (R.assign rfl rfl) rfl rfl rfl (KL.nil (KQ.seq (KC.ret ?_)))))))))
            refine KQ.retBlock (KQ.retThen (KQ.ofRet ?_))
            refine KQ.fin1 Tryd.results13 rfl ?_
            refine ⟨congrArg (Value.int .i64) ?_, rfl⟩
            obtain ⟨q1, q2, q3⟩ := Wr.ar_num op
            symm
            first
              | exact q1 (by omega)
              | exact q2 (by omega)
              | exact (q3 (by omega) (by omega)).1 (by omega)
              | exact (q3 (by omega) (by omega)).2 (by omega)
          · intro hg30
            try simp only [decide_eq_true_eq, decide_eq_false_iff_not, Bool.not_eq_true', Bool.not_eq_false', Bool.and_eq_true, Bool.or_eq_false_iff] at hg30
            refine KL.op (R.move rfl rfl) rfl rfl rfl ?_
            refine KL.op (R.eql rfl rfl rfl) rfl rfl rfl ?_
            refine KL.op (R.pick rfl rfl rfl) rfl rfl rfl ?_
            refine KL.op (R.move rfl rfl) rfl rfl rfl ?_
            refine KL.case (d := 34) rfl ?_ ?_
            · intro hg34
              try simp only [decide_eq_true_eq, decide_eq_false_iff_not, Bool.not_eq_true', Bool.not_eq_false', Bool.and_eq_true, Bool.or_eq_false_iff] at hg34
              refine KL.skip rfl rfl rfl ?_
              refine KL.skip rfl rfl rfl ?_
              refine KL.op (R.pick rfl rfl rfl) rfl rfl rfl ?_
              refine KL.op (R.move rfl rfl) rfl rfl rfl ?_
              refine KL.skip rfl rfl rfl ?_
              refine KL.skip rfl rfl rfl ?_
              refine KL.op (R.pick rfl rfl rfl) rfl rfl rfl ?_
              refine KL.op (R.assign rfl rfl) rfl rfl rfl (KL.nil (KQ.seq (KC.condT rfl (KC.seq (KC.region (KL.op (R.assign rfl rfl) rfl rfl rfl (KL.nil (KQ.seq (KC.ret ?_)))))))))
              refine KQ.retBlock (KQ.retThen (KQ.ofRet ?_))
              refine KQ.fin1 Tryd.results13 rfl ?_
              refine ⟨congrArg (Value.int .i64) ?_, rfl⟩
              obtain ⟨q1, q2, q3⟩ := Wr.ar_num op
              symm
              first
                | exact q1 (by omega)
                | exact q2 (by omega)
                | exact (q3 (by omega) (by omega)).1 (by omega)
                | exact (q3 (by omega) (by omega)).2 (by omega)
            · intro hg34
              try simp only [decide_eq_true_eq, decide_eq_false_iff_not, Bool.not_eq_true', Bool.not_eq_false', Bool.and_eq_true, Bool.or_eq_false_iff] at hg34
              refine KL.op (R.move rfl rfl) rfl rfl rfl ?_
              refine KL.op (R.eql rfl rfl rfl) rfl rfl rfl ?_
              refine KL.op (R.pick rfl rfl rfl) rfl rfl rfl ?_
              refine KL.op (R.move rfl rfl) rfl rfl rfl ?_
              refine KL.case (d := 38) rfl ?_ ?_
              · intro hg38
                try simp only [decide_eq_true_eq, decide_eq_false_iff_not, Bool.not_eq_true', Bool.not_eq_false', Bool.and_eq_true, Bool.or_eq_false_iff] at hg38
                refine KL.skip rfl rfl rfl ?_
                refine KL.skip rfl rfl rfl ?_
                refine KL.op (R.pick rfl rfl rfl) rfl rfl rfl ?_
                refine KL.op (R.assign rfl rfl) rfl rfl rfl (KL.nil (KQ.seq (KC.condT rfl (KC.seq (KC.region (KL.op (R.assign rfl rfl) rfl rfl rfl (KL.nil (KQ.seq (KC.ret ?_)))))))))
                refine KQ.retBlock (KQ.retThen (KQ.ofRet ?_))
                refine KQ.fin1 Tryd.results13 rfl ?_
                refine ⟨congrArg (Value.int .i64) ?_, rfl⟩
                obtain ⟨q1, q2, q3⟩ := Wr.ar_num op
                symm
                first
                  | exact q1 (by omega)
                  | exact q2 (by omega)
                  | exact (q3 (by omega) (by omega)).1 (by omega)
                  | exact (q3 (by omega) (by omega)).2 (by omega)
              · intro hg38
                try simp only [decide_eq_true_eq, decide_eq_false_iff_not, Bool.not_eq_true', Bool.not_eq_false', Bool.and_eq_true, Bool.or_eq_false_iff] at hg38
                refine KL.op (R.move rfl rfl) rfl rfl rfl ?_
                refine KL.op (R.eql rfl rfl rfl) rfl rfl rfl ?_
                refine KL.op (R.pick rfl rfl rfl) rfl rfl rfl ?_
                refine KL.op (R.assign rfl rfl) rfl rfl rfl (KL.nil (KQ.seq ?_))
                refine KC.iteL rfl ?_ ?_
                · intro hc19
                  try simp only [decide_eq_true_eq, decide_eq_false_iff_not, Bool.not_eq_true', Bool.not_eq_false', Bool.and_eq_true, Bool.or_eq_false_iff] at hc19
                  refine KC.seq (KC.region (KL.op (R.assign rfl rfl) rfl rfl rfl (KL.nil (KQ.seq (KC.ret (KQ.retBlock (KQ.retThen (KQ.ofRet ?_))))))))
                  refine KQ.fin1 Tryd.results13 rfl ?_
                  refine ⟨congrArg (Value.int .i64) ?_, rfl⟩
                  obtain ⟨q1, q2, q3⟩ := Wr.ar_num op
                  symm
                  first
                    | exact q1 (by omega)
                    | exact q2 (by omega)
                    | exact (q3 (by omega) (by omega)).1 (by omega)
                    | exact (q3 (by omega) (by omega)).2 (by omega)
                · intro hc19
                  try simp only [decide_eq_true_eq, decide_eq_false_iff_not, Bool.not_eq_true', Bool.not_eq_false', Bool.and_eq_true, Bool.or_eq_false_iff] at hc19
                  refine KC.skip ?_
                  refine KQ.normBlock (KQ.seq (KC.seq (KC.region (KL.op (R.assign rfl rfl) rfl rfl rfl (KL.nil (KQ.seq (KC.ret (KQ.ofRet ?_))))))))
                  refine KQ.fin1 Tryd.results13 rfl ?_
                  refine ⟨congrArg (Value.int .i64) ?_, rfl⟩
                  obtain ⟨q1, q2, q3⟩ := Wr.ar_num op
                  symm
                  first
                    | exact q1 (by omega)
                    | exact q2 (by omega)
                    | exact (q3 (by omega) (by omega)).1 (by omega)
                    | exact (q3 (by omega) (by omega)).2 (by omega)

set_option maxRecDepth 100000 in
set_option maxHeartbeats 4000000 in
theorem WordDoes_any {H : Heap} (op a b : Int) (ro : InR .u8 op) (ra : InR .u64 a) (rb : InR .u64 b) (hT : TabH H) : Ct Tryd.prog 4 [.int .u8 op, .int .u64 a, .int .u64 b] H (fun u H' => u = .bool true ∧ Old H H') := by
  refine Ct.mk Tryd.func4 rfl Tryd.ntmps4 rfl ?_
  intro W0 hW0
  have o0 : Old H H := Old.refl H
  refine KC.seq (KC.region (KL.op (R.assign rfl rfl) rfl rfl rfl (KL.nil (KQ.seq (KC.seq (KC.region (KL.op (R.move rfl rfl) rfl rfl rfl (KL.op (R.move rfl rfl) rfl rfl rfl (KL.op (R.move rfl rfl) rfl rfl rfl ?_)))))))))
  refine KL.call rfl rfl rfl rfl Tryd.call8 rfl rfl rfl (Do_E op _ _ ro ra rb hT) ?_
  rintro _ _ ⟨rfl, rfl⟩
  refine KL.op (R.move rfl rfl) rfl rfl rfl (KL.op (R.extract rfl rfl rfl) rfl rfl rfl (KL.op (R.extract rfl rfl rfl) rfl rfl rfl (KL.op (R.assign rfl rfl) rfl rfl rfl (KL.op (R.assign rfl rfl) rfl rfl rfl (KL.nil (KQ.seq (KC.seq (KC.region (KL.op (R.move rfl rfl) rfl rfl rfl ?_)))))))))
  refine KL.op (R.move rfl rfl) rfl rfl rfl (KL.op (R.move rfl rfl) rfl rfl rfl ?_)
  refine KL.call rfl rfl rfl rfl Tryd.call12 rfl rfl rfl (rDo_E op _ _ ro ra rb) ?_
  rintro _ H9 ⟨rfl, o9⟩
  have zc_H1 := (o9).1
  have o0 := o0.trans o9
  refine KL.op (R.move rfl rfl) rfl rfl rfl (KL.op (R.extract rfl rfl rfl) rfl rfl rfl (KL.op (R.extract rfl rfl rfl) rfl rfl rfl (KL.op (R.assign rfl rfl) rfl rfl rfl (KL.op (R.assign rfl rfl) rfl rfl rfl (KL.nil (KQ.seq (KC.seq (KC.region (KL.op (R.move rfl rfl) rfl rfl rfl ?_)))))))))
  refine KL.op (R.move rfl rfl) rfl rfl rfl ?_
  refine KL.op ((R.eql rfl rfl rfl).val (congrArg Value.bool (decide_eq_true (by rfl)))) rfl rfl rfl ?_
  refine KL.op (R.move rfl rfl) rfl rfl rfl (KL.op (R.move rfl rfl) rfl rfl rfl (KL.op (R.move rfl rfl) rfl rfl rfl ?_))
  refine KL.op ((R.eql rfl rfl rfl).val (congrArg Value.bool (decide_eq_true (by rfl)))) rfl rfl rfl ?_
  refine KL.op (R.pick rfl rfl rfl) rfl rfl rfl ?_
  refine KL.op (R.move rfl rfl) rfl rfl rfl (KL.op (R.move rfl rfl) rfl rfl rfl ?_)
  refine KL.call rfl rfl rfl rfl Tryd.call11 rfl rfl rfl (Arity_any op ro) ?_
  rintro _ _ ⟨rfl, rfl⟩
  refine KL.op (R.move rfl rfl) rfl rfl rfl ?_
  refine KL.call rfl rfl rfl rfl Tryd.call13 rfl rfl rfl (rArity_any op ro) ?_
  rintro _ _ ⟨rfl, rfl⟩
  refine KL.op ((R.eql rfl rfl rfl).val (congrArg Value.bool (decide_eq_true (by rfl)))) rfl rfl rfl ?_
  refine KL.op (R.pick rfl rfl rfl) rfl rfl rfl ?_
  refine KL.op (R.move rfl rfl) rfl rfl rfl ?_
  refine KL.call rfl rfl rfl rfl Tryd.call9 rfl rfl rfl (works_any) ?_
  rintro _ _ ⟨rfl, rfl⟩
  refine KL.op (R.pick rfl rfl rfl) rfl rfl rfl ?_
  refine KL.op (R.assign rfl rfl) rfl rfl rfl (KL.nil (KQ.seq (KC.ret (KQ.ofRet ?_))))
  refine KQ.fin1 Tryd.results4 rfl ?_
  exact ⟨rfl, o0⟩

end Go.Proofs.YtkkhjaiaicmpaaaDoor
