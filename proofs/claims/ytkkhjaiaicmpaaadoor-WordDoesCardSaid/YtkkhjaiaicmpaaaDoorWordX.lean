/- The document's number. No condition. -/
import Derived.Test.YtkkhjaiaicmpaaaDoorWordV
namespace Go.Proofs.YtkkhjaiaicmpaaaDoor
open Go Go.RowKit
set_option linter.unusedVariables false
set_option linter.unusedSimpArgs false
set_option linter.unnecessarySimpa false

namespace Wr
def num (op : Int) : Int × Int × Int :=
  if 70 ≤ op ∧ op ≤ 79 then (0, op - 70, 32) else if 81 ≤ op ∧ op ≤ 90 then (0, op - 81, 64) else if 103 ≤ op ∧ op ≤ 105 then (1, op - 103, 32) else if 121 ≤ op ∧ op ≤ 123 then (1, op - 121, 64)
  else if 106 ≤ op ∧ op ≤ 120 then (2, op - 106, 32) else if 124 ≤ op ∧ op ≤ 138 then (2, op - 124, 64) else (-1, 0, 0)
end Wr

set_option maxRecDepth 100000 in
set_option maxHeartbeats 4000000 in
theorem number_r0 {H : Heap} (op : Int) (h : 0 ≤ op ∧ op ≤ 69) : Ct Tryd.prog 21 [.int .u8 op] H (fun u H' => u = .tuple #[.int .i64 (Wr.num op).1, .int .i64 (Wr.num op).2.1, .int .i64 (Wr.num op).2.2] ∧ H = H') := by
  refine Ct.mk Tryd.func21 rfl Tryd.ntmps21 rfl ?_
  intro W0 hW0
  have o0 : Old H H := Old.refl H
  refine KC.seq (KC.region (KL.op (R.assign rfl rfl) rfl rfl rfl (KL.op (R.assign rfl rfl) rfl rfl rfl (KL.op (R.assign rfl rfl) rfl rfl rfl (KL.nil (KQ.seq (KC.seq (KC.block (KC.seq ?_)))))))))
  refine KC.region (KL.op (R.move rfl rfl) rfl rfl rfl ?_)
  refine KL.op ((R.geq rfl rfl rfl).val (congrArg Value.bool (decide_eq_false (by omega)))) rfl rfl rfl ?_
  refine KL.op (R.move rfl rfl) rfl rfl rfl ?_
  refine KL.skip rfl rfl rfl ?_
  refine KL.skip rfl rfl rfl ?_
  refine KL.op (R.pick rfl rfl rfl) rfl rfl rfl ?_
  refine KL.op (R.assign rfl rfl) rfl rfl rfl (KL.nil (KQ.seq (KC.condF rfl (KC.seq (KC.region (KL.op (R.move rfl rfl) rfl rfl rfl ?_))))))
  refine KL.op ((R.geq rfl rfl rfl).val (congrArg Value.bool (decide_eq_false (by omega)))) rfl rfl rfl ?_
  refine KL.op (R.move rfl rfl) rfl rfl rfl ?_
  refine KL.skip rfl rfl rfl ?_
  refine KL.skip rfl rfl rfl ?_
  refine KL.op (R.pick rfl rfl rfl) rfl rfl rfl ?_
  refine KL.op (R.assign rfl rfl) rfl rfl rfl (KL.nil (KQ.seq (KC.condF rfl (KC.seq (KC.region (KL.op (R.move rfl rfl) rfl rfl rfl ?_))))))
  refine KL.op ((R.geq rfl rfl rfl).val (congrArg Value.bool (decide_eq_false (by omega)))) rfl rfl rfl ?_
  refine KL.op (R.move rfl rfl) rfl rfl rfl ?_
  refine KL.skip rfl rfl rfl ?_
  refine KL.skip rfl rfl rfl ?_
  refine KL.op (R.pick rfl rfl rfl) rfl rfl rfl ?_
  refine KL.op (R.assign rfl rfl) rfl rfl rfl (KL.nil (KQ.seq (KC.condF rfl (KC.seq (KC.region (KL.op (R.move rfl rfl) rfl rfl rfl ?_))))))
  refine KL.op ((R.geq rfl rfl rfl).val (congrArg Value.bool (decide_eq_false (by omega)))) rfl rfl rfl ?_
  refine KL.op (R.move rfl rfl) rfl rfl rfl ?_
  refine KL.skip rfl rfl rfl ?_
  refine KL.skip rfl rfl rfl ?_
  refine KL.op (R.pick rfl rfl rfl) rfl rfl rfl ?_
  refine KL.op (R.assign rfl rfl) rfl rfl rfl (KL.nil (KQ.seq (KC.condF rfl (KC.seq (KC.region (KL.op (R.move rfl rfl) rfl rfl rfl ?_))))))
  refine KL.op ((R.geq rfl rfl rfl).val (congrArg Value.bool (decide_eq_false (by omega)))) rfl rfl rfl ?_
  refine KL.op (R.move rfl rfl) rfl rfl rfl ?_
  refine KL.skip rfl rfl rfl ?_
  refine KL.skip rfl rfl rfl ?_
  refine KL.op (R.pick rfl rfl rfl) rfl rfl rfl ?_
  refine KL.op (R.assign rfl rfl) rfl rfl rfl (KL.nil (KQ.seq (KC.condF rfl (KC.seq (KC.region (KL.op (R.move rfl rfl) rfl rfl rfl ?_))))))
  refine KL.op ((R.geq rfl rfl rfl).val (congrArg Value.bool (decide_eq_false (by omega)))) rfl rfl rfl ?_
  refine KL.op (R.move rfl rfl) rfl rfl rfl ?_
  refine KL.skip rfl rfl rfl ?_
  refine KL.skip rfl rfl rfl ?_
  refine KL.op (R.pick rfl rfl rfl) rfl rfl rfl ?_
  refine KL.op (R.assign rfl rfl) rfl rfl rfl (KL.nil (KQ.seq (KC.condF rfl ?_)))
  refine KC.skip ?_
  refine KQ.normBlock (KQ.seq (KC.seq (KC.region (KL.op (R.assign rfl rfl) rfl rfl rfl (KL.op (R.assign rfl rfl) rfl rfl rfl (KL.op (R.assign rfl rfl) rfl rfl rfl (KL.nil (KQ.seq (KC.ret ?_)))))))))
  refine KQ.ofRet ?_
  refine KQ.fin3 Tryd.results21 rfl rfl rfl ?_
  refine ⟨?_, rfl⟩
  unfold Wr.num
  repeat' split
  all_goals first | rfl | (exfalso; omega)

set_option maxRecDepth 100000 in
set_option maxHeartbeats 4000000 in
theorem number_r70 {H : Heap} (op : Int) (h : 70 ≤ op ∧ op ≤ 79) : Ct Tryd.prog 21 [.int .u8 op] H (fun u H' => u = .tuple #[.int .i64 (Wr.num op).1, .int .i64 (Wr.num op).2.1, .int .i64 (Wr.num op).2.2] ∧ H = H') := by
  refine Ct.mk Tryd.func21 rfl Tryd.ntmps21 rfl ?_
  intro W0 hW0
  have o0 : Old H H := Old.refl H
  refine KC.seq (KC.region (KL.op (R.assign rfl rfl) rfl rfl rfl (KL.op (R.assign rfl rfl) rfl rfl rfl (KL.op (R.assign rfl rfl) rfl rfl rfl (KL.nil (KQ.seq (KC.seq (KC.block (KC.seq ?_)))))))))
  refine KC.region (KL.op (R.move rfl rfl) rfl rfl rfl ?_)
  refine KL.op ((R.geq rfl rfl rfl).val (congrArg Value.bool (decide_eq_true (by omega)))) rfl rfl rfl ?_
  refine KL.op (R.move rfl rfl) rfl rfl rfl (KL.op (R.move rfl rfl) rfl rfl rfl ?_)
  refine KL.op ((R.leq rfl rfl rfl).val (congrArg Value.bool (decide_eq_true (by omega)))) rfl rfl rfl ?_
  refine KL.op (R.pick rfl rfl rfl) rfl rfl rfl ?_
  refine KL.op (R.assign rfl rfl) rfl rfl rfl (KL.nil (KQ.seq (KC.condT rfl (KC.seq (KC.region (KL.op (R.move rfl rfl) rfl rfl rfl ?_))))))
  refine KL.op (R.convI rfl Tryd.underlying5 Tryd.underlying3 rfl (by dsimp only [InR]; omega)) rfl rfl rfl ?_
  refine KL.op (R.sub rfl rfl rfl (by dsimp only [InR]; omega)) rfl rfl rfl ?_
  refine KL.op (R.assign rfl rfl) rfl rfl rfl (KL.op (R.assign rfl rfl) rfl rfl rfl (KL.op (R.assign rfl rfl) rfl rfl rfl (KL.nil (KQ.seq (KC.ret (KQ.retBlock (KQ.retThen (KQ.ofRet ?_))))))))
  refine KQ.fin3 Tryd.results21 rfl rfl rfl ?_
  refine ⟨?_, rfl⟩
  unfold Wr.num
  repeat' split
  all_goals first | rfl | (exfalso; omega)

set_option maxRecDepth 100000 in
set_option maxHeartbeats 4000000 in
theorem number_r80 {H : Heap} (op : Int) (h : 80 ≤ op ∧ op ≤ 80) : Ct Tryd.prog 21 [.int .u8 op] H (fun u H' => u = .tuple #[.int .i64 (Wr.num op).1, .int .i64 (Wr.num op).2.1, .int .i64 (Wr.num op).2.2] ∧ H = H') := by
  refine Ct.mk Tryd.func21 rfl Tryd.ntmps21 rfl ?_
  intro W0 hW0
  have o0 : Old H H := Old.refl H
  refine KC.seq (KC.region (KL.op (R.assign rfl rfl) rfl rfl rfl (KL.op (R.assign rfl rfl) rfl rfl rfl (KL.op (R.assign rfl rfl) rfl rfl rfl (KL.nil (KQ.seq (KC.seq (KC.block (KC.seq ?_)))))))))
  refine KC.region (KL.op (R.move rfl rfl) rfl rfl rfl ?_)
  refine KL.op ((R.geq rfl rfl rfl).val (congrArg Value.bool (decide_eq_true (by omega)))) rfl rfl rfl ?_
  refine KL.op (R.move rfl rfl) rfl rfl rfl (KL.op (R.move rfl rfl) rfl rfl rfl ?_)
  refine KL.op ((R.leq rfl rfl rfl).val (congrArg Value.bool (decide_eq_false (by omega)))) rfl rfl rfl ?_
  refine KL.op (R.pick rfl rfl rfl) rfl rfl rfl ?_
  refine KL.op (R.assign rfl rfl) rfl rfl rfl (KL.nil (KQ.seq (KC.condF rfl (KC.seq (KC.region (KL.op (R.move rfl rfl) rfl rfl rfl ?_))))))
  refine KL.op ((R.geq rfl rfl rfl).val (congrArg Value.bool (decide_eq_false (by omega)))) rfl rfl rfl ?_
  refine KL.op (R.move rfl rfl) rfl rfl rfl ?_
  refine KL.skip rfl rfl rfl ?_
  refine KL.skip rfl rfl rfl ?_
  refine KL.op (R.pick rfl rfl rfl) rfl rfl rfl ?_
  refine KL.op (R.assign rfl rfl) rfl rfl rfl (KL.nil (KQ.seq (KC.condF rfl (KC.seq (KC.region (KL.op (R.move rfl rfl) rfl rfl rfl ?_))))))
  refine KL.op ((R.geq rfl rfl rfl).val (congrArg Value.bool (decide_eq_false (by omega)))) rfl rfl rfl ?_
  refine KL.op (R.move rfl rfl) rfl rfl rfl ?_
  refine KL.skip rfl rfl rfl ?_
  refine KL.skip rfl rfl rfl ?_
  refine KL.op (R.pick rfl rfl rfl) rfl rfl rfl ?_
  refine KL.op (R.assign rfl rfl) rfl rfl rfl (KL.nil (KQ.seq (KC.condF rfl (KC.seq (KC.region (KL.op (R.move rfl rfl) rfl rfl rfl ?_))))))
  refine KL.op ((R.geq rfl rfl rfl).val (congrArg Value.bool (decide_eq_false (by omega)))) rfl rfl rfl ?_
  refine KL.op (R.move rfl rfl) rfl rfl rfl ?_
  refine KL.skip rfl rfl rfl ?_
  refine KL.skip rfl rfl rfl ?_
  refine KL.op (R.pick rfl rfl rfl) rfl rfl rfl ?_
  refine KL.op (R.assign rfl rfl) rfl rfl rfl (KL.nil (KQ.seq (KC.condF rfl (KC.seq (KC.region (KL.op (R.move rfl rfl) rfl rfl rfl ?_))))))
  refine KL.op ((R.geq rfl rfl rfl).val (congrArg Value.bool (decide_eq_false (by omega)))) rfl rfl rfl ?_
  refine KL.op (R.move rfl rfl) rfl rfl rfl ?_
  refine KL.skip rfl rfl rfl ?_
  refine KL.skip rfl rfl rfl ?_
  refine KL.op (R.pick rfl rfl rfl) rfl rfl rfl ?_
  refine KL.op (R.assign rfl rfl) rfl rfl rfl (KL.nil (KQ.seq (KC.condF rfl (KC.seq (KC.region (KL.op (R.move rfl rfl) rfl rfl rfl ?_))))))
  refine KL.op ((R.geq rfl rfl rfl).val (congrArg Value.bool (decide_eq_false (by omega)))) rfl rfl rfl ?_
  refine KL.op (R.move rfl rfl) rfl rfl rfl ?_
  refine KL.skip rfl rfl rfl ?_
  refine KL.skip rfl rfl rfl ?_
  refine KL.op (R.pick rfl rfl rfl) rfl rfl rfl ?_
  refine KL.op (R.assign rfl rfl) rfl rfl rfl (KL.nil (KQ.seq (KC.condF rfl ?_)))
  refine KC.skip ?_
  refine KQ.normBlock (KQ.seq (KC.seq (KC.region (KL.op (R.assign rfl rfl) rfl rfl rfl (KL.op (R.assign rfl rfl) rfl rfl rfl (KL.op (R.assign rfl rfl) rfl rfl rfl (KL.nil (KQ.seq (KC.ret ?_)))))))))
  refine KQ.ofRet ?_
  refine KQ.fin3 Tryd.results21 rfl rfl rfl ?_
  refine ⟨?_, rfl⟩
  unfold Wr.num
  repeat' split
  all_goals first | rfl | (exfalso; omega)

set_option maxRecDepth 100000 in
set_option maxHeartbeats 4000000 in
theorem number_r81 {H : Heap} (op : Int) (h : 81 ≤ op ∧ op ≤ 90) : Ct Tryd.prog 21 [.int .u8 op] H (fun u H' => u = .tuple #[.int .i64 (Wr.num op).1, .int .i64 (Wr.num op).2.1, .int .i64 (Wr.num op).2.2] ∧ H = H') := by
  refine Ct.mk Tryd.func21 rfl Tryd.ntmps21 rfl ?_
  intro W0 hW0
  have o0 : Old H H := Old.refl H
  refine KC.seq (KC.region (KL.op (R.assign rfl rfl) rfl rfl rfl (KL.op (R.assign rfl rfl) rfl rfl rfl (KL.op (R.assign rfl rfl) rfl rfl rfl (KL.nil (KQ.seq (KC.seq (KC.block (KC.seq ?_)))))))))
  refine KC.region (KL.op (R.move rfl rfl) rfl rfl rfl ?_)
  refine KL.op ((R.geq rfl rfl rfl).val (congrArg Value.bool (decide_eq_true (by omega)))) rfl rfl rfl ?_
  refine KL.op (R.move rfl rfl) rfl rfl rfl (KL.op (R.move rfl rfl) rfl rfl rfl ?_)
  refine KL.op ((R.leq rfl rfl rfl).val (congrArg Value.bool (decide_eq_false (by omega)))) rfl rfl rfl ?_
  refine KL.op (R.pick rfl rfl rfl) rfl rfl rfl ?_
  refine KL.op (R.assign rfl rfl) rfl rfl rfl (KL.nil (KQ.seq (KC.condF rfl (KC.seq (KC.region (KL.op (R.move rfl rfl) rfl rfl rfl ?_))))))
  refine KL.op ((R.geq rfl rfl rfl).val (congrArg Value.bool (decide_eq_true (by omega)))) rfl rfl rfl ?_
  refine KL.op (R.move rfl rfl) rfl rfl rfl (KL.op (R.move rfl rfl) rfl rfl rfl ?_)
  refine KL.op ((R.leq rfl rfl rfl).val (congrArg Value.bool (decide_eq_true (by omega)))) rfl rfl rfl ?_
  refine KL.op (R.pick rfl rfl rfl) rfl rfl rfl ?_
  refine KL.op (R.assign rfl rfl) rfl rfl rfl (KL.nil (KQ.seq (KC.condT rfl (KC.seq (KC.region (KL.op (R.move rfl rfl) rfl rfl rfl ?_))))))
  refine KL.op (R.convI rfl Tryd.underlying5 Tryd.underlying3 rfl (by dsimp only [InR]; omega)) rfl rfl rfl ?_
  refine KL.op (R.sub rfl rfl rfl (by dsimp only [InR]; omega)) rfl rfl rfl ?_
  refine KL.op (R.assign rfl rfl) rfl rfl rfl (KL.op (R.assign rfl rfl) rfl rfl rfl (KL.op (R.assign rfl rfl) rfl rfl rfl (KL.nil (KQ.seq (KC.ret (KQ.retBlock (KQ.retThen (KQ.ofRet ?_))))))))
  refine KQ.fin3 Tryd.results21 rfl rfl rfl ?_
  refine ⟨?_, rfl⟩
  unfold Wr.num
  repeat' split
  all_goals first | rfl | (exfalso; omega)

set_option maxRecDepth 100000 in
set_option maxHeartbeats 4000000 in
theorem number_r91 {H : Heap} (op : Int) (h : 91 ≤ op ∧ op ≤ 102) : Ct Tryd.prog 21 [.int .u8 op] H (fun u H' => u = .tuple #[.int .i64 (Wr.num op).1, .int .i64 (Wr.num op).2.1, .int .i64 (Wr.num op).2.2] ∧ H = H') := by
  refine Ct.mk Tryd.func21 rfl Tryd.ntmps21 rfl ?_
  intro W0 hW0
  have o0 : Old H H := Old.refl H
  refine KC.seq (KC.region (KL.op (R.assign rfl rfl) rfl rfl rfl (KL.op (R.assign rfl rfl) rfl rfl rfl (KL.op (R.assign rfl rfl) rfl rfl rfl (KL.nil (KQ.seq (KC.seq (KC.block (KC.seq ?_)))))))))
  refine KC.region (KL.op (R.move rfl rfl) rfl rfl rfl ?_)
  refine KL.op ((R.geq rfl rfl rfl).val (congrArg Value.bool (decide_eq_true (by omega)))) rfl rfl rfl ?_
  refine KL.op (R.move rfl rfl) rfl rfl rfl (KL.op (R.move rfl rfl) rfl rfl rfl ?_)
  refine KL.op ((R.leq rfl rfl rfl).val (congrArg Value.bool (decide_eq_false (by omega)))) rfl rfl rfl ?_
  refine KL.op (R.pick rfl rfl rfl) rfl rfl rfl ?_
  refine KL.op (R.assign rfl rfl) rfl rfl rfl (KL.nil (KQ.seq (KC.condF rfl (KC.seq (KC.region (KL.op (R.move rfl rfl) rfl rfl rfl ?_))))))
  refine KL.op ((R.geq rfl rfl rfl).val (congrArg Value.bool (decide_eq_true (by omega)))) rfl rfl rfl ?_
  refine KL.op (R.move rfl rfl) rfl rfl rfl (KL.op (R.move rfl rfl) rfl rfl rfl ?_)
  refine KL.op ((R.leq rfl rfl rfl).val (congrArg Value.bool (decide_eq_false (by omega)))) rfl rfl rfl ?_
  refine KL.op (R.pick rfl rfl rfl) rfl rfl rfl ?_
  refine KL.op (R.assign rfl rfl) rfl rfl rfl (KL.nil (KQ.seq (KC.condF rfl (KC.seq (KC.region (KL.op (R.move rfl rfl) rfl rfl rfl ?_))))))
  refine KL.op ((R.geq rfl rfl rfl).val (congrArg Value.bool (decide_eq_false (by omega)))) rfl rfl rfl ?_
  refine KL.op (R.move rfl rfl) rfl rfl rfl ?_
  refine KL.skip rfl rfl rfl ?_
  refine KL.skip rfl rfl rfl ?_
  refine KL.op (R.pick rfl rfl rfl) rfl rfl rfl ?_
  refine KL.op (R.assign rfl rfl) rfl rfl rfl (KL.nil (KQ.seq (KC.condF rfl (KC.seq (KC.region (KL.op (R.move rfl rfl) rfl rfl rfl ?_))))))
  refine KL.op ((R.geq rfl rfl rfl).val (congrArg Value.bool (decide_eq_false (by omega)))) rfl rfl rfl ?_
  refine KL.op (R.move rfl rfl) rfl rfl rfl ?_
  refine KL.skip rfl rfl rfl ?_
  refine KL.skip rfl rfl rfl ?_
  refine KL.op (R.pick rfl rfl rfl) rfl rfl rfl ?_
  refine KL.op (R.assign rfl rfl) rfl rfl rfl (KL.nil (KQ.seq (KC.condF rfl (KC.seq (KC.region (KL.op (R.move rfl rfl) rfl rfl rfl ?_))))))
  refine KL.op ((R.geq rfl rfl rfl).val (congrArg Value.bool (decide_eq_false (by omega)))) rfl rfl rfl ?_
  refine KL.op (R.move rfl rfl) rfl rfl rfl ?_
  refine KL.skip rfl rfl rfl ?_
  refine KL.skip rfl rfl rfl ?_
  refine KL.op (R.pick rfl rfl rfl) rfl rfl rfl ?_
  refine KL.op (R.assign rfl rfl) rfl rfl rfl (KL.nil (KQ.seq (KC.condF rfl (KC.seq (KC.region (KL.op (R.move rfl rfl) rfl rfl rfl ?_))))))
  refine KL.op ((R.geq rfl rfl rfl).val (congrArg Value.bool (decide_eq_false (by omega)))) rfl rfl rfl ?_
  refine KL.op (R.move rfl rfl) rfl rfl rfl ?_
  refine KL.skip rfl rfl rfl ?_
  refine KL.skip rfl rfl rfl ?_
  refine KL.op (R.pick rfl rfl rfl) rfl rfl rfl ?_
  refine KL.op (R.assign rfl rfl) rfl rfl rfl (KL.nil (KQ.seq (KC.condF rfl ?_)))
  refine KC.skip ?_
  refine KQ.normBlock (KQ.seq (KC.seq (KC.region (KL.op (R.assign rfl rfl) rfl rfl rfl (KL.op (R.assign rfl rfl) rfl rfl rfl (KL.op (R.assign rfl rfl) rfl rfl rfl (KL.nil (KQ.seq (KC.ret ?_)))))))))
  refine KQ.ofRet ?_
  refine KQ.fin3 Tryd.results21 rfl rfl rfl ?_
  refine ⟨?_, rfl⟩
  unfold Wr.num
  repeat' split
  all_goals first | rfl | (exfalso; omega)

set_option maxRecDepth 100000 in
set_option maxHeartbeats 4000000 in
theorem number_r103 {H : Heap} (op : Int) (h : 103 ≤ op ∧ op ≤ 105) : Ct Tryd.prog 21 [.int .u8 op] H (fun u H' => u = .tuple #[.int .i64 (Wr.num op).1, .int .i64 (Wr.num op).2.1, .int .i64 (Wr.num op).2.2] ∧ H = H') := by
  refine Ct.mk Tryd.func21 rfl Tryd.ntmps21 rfl ?_
  intro W0 hW0
  have o0 : Old H H := Old.refl H
  refine KC.seq (KC.region (KL.op (R.assign rfl rfl) rfl rfl rfl (KL.op (R.assign rfl rfl) rfl rfl rfl (KL.op (R.assign rfl rfl) rfl rfl rfl (KL.nil (KQ.seq (KC.seq (KC.block (KC.seq ?_)))))))))
  refine KC.region (KL.op (R.move rfl rfl) rfl rfl rfl ?_)
  refine KL.op ((R.geq rfl rfl rfl).val (congrArg Value.bool (decide_eq_true (by omega)))) rfl rfl rfl ?_
  refine KL.op (R.move rfl rfl) rfl rfl rfl (KL.op (R.move rfl rfl) rfl rfl rfl ?_)
  refine KL.op ((R.leq rfl rfl rfl).val (congrArg Value.bool (decide_eq_false (by omega)))) rfl rfl rfl ?_
  refine KL.op (R.pick rfl rfl rfl) rfl rfl rfl ?_
  refine KL.op (R.assign rfl rfl) rfl rfl rfl (KL.nil (KQ.seq (KC.condF rfl (KC.seq (KC.region (KL.op (R.move rfl rfl) rfl rfl rfl ?_))))))
  refine KL.op ((R.geq rfl rfl rfl).val (congrArg Value.bool (decide_eq_true (by omega)))) rfl rfl rfl ?_
  refine KL.op (R.move rfl rfl) rfl rfl rfl (KL.op (R.move rfl rfl) rfl rfl rfl ?_)
  refine KL.op ((R.leq rfl rfl rfl).val (congrArg Value.bool (decide_eq_false (by omega)))) rfl rfl rfl ?_
  refine KL.op (R.pick rfl rfl rfl) rfl rfl rfl ?_
  refine KL.op (R.assign rfl rfl) rfl rfl rfl (KL.nil (KQ.seq (KC.condF rfl (KC.seq (KC.region (KL.op (R.move rfl rfl) rfl rfl rfl ?_))))))
  refine KL.op ((R.geq rfl rfl rfl).val (congrArg Value.bool (decide_eq_true (by omega)))) rfl rfl rfl ?_
  refine KL.op (R.move rfl rfl) rfl rfl rfl (KL.op (R.move rfl rfl) rfl rfl rfl ?_)
  refine KL.op ((R.leq rfl rfl rfl).val (congrArg Value.bool (decide_eq_true (by omega)))) rfl rfl rfl ?_
  refine KL.op (R.pick rfl rfl rfl) rfl rfl rfl ?_
  refine KL.op (R.assign rfl rfl) rfl rfl rfl (KL.nil (KQ.seq (KC.condT rfl (KC.seq (KC.region (KL.op (R.move rfl rfl) rfl rfl rfl ?_))))))
  refine KL.op (R.convI rfl Tryd.underlying5 Tryd.underlying3 rfl (by dsimp only [InR]; omega)) rfl rfl rfl ?_
  refine KL.op (R.sub rfl rfl rfl (by dsimp only [InR]; omega)) rfl rfl rfl ?_
  refine KL.op (R.assign rfl rfl) rfl rfl rfl (KL.op (R.assign rfl rfl) rfl rfl rfl (KL.op (R.assign rfl rfl) rfl rfl rfl (KL.nil (KQ.seq (KC.ret (KQ.retBlock (KQ.retThen (KQ.ofRet ?_))))))))
  refine KQ.fin3 Tryd.results21 rfl rfl rfl ?_
  refine ⟨?_, rfl⟩
  unfold Wr.num
  repeat' split
  all_goals first | rfl | (exfalso; omega)

set_option maxRecDepth 100000 in
set_option maxHeartbeats 4000000 in
theorem number_r106 {H : Heap} (op : Int) (h : 106 ≤ op ∧ op ≤ 120) : Ct Tryd.prog 21 [.int .u8 op] H (fun u H' => u = .tuple #[.int .i64 (Wr.num op).1, .int .i64 (Wr.num op).2.1, .int .i64 (Wr.num op).2.2] ∧ H = H') := by
  refine Ct.mk Tryd.func21 rfl Tryd.ntmps21 rfl ?_
  intro W0 hW0
  have o0 : Old H H := Old.refl H
  refine KC.seq (KC.region (KL.op (R.assign rfl rfl) rfl rfl rfl (KL.op (R.assign rfl rfl) rfl rfl rfl (KL.op (R.assign rfl rfl) rfl rfl rfl (KL.nil (KQ.seq (KC.seq (KC.block (KC.seq ?_)))))))))
  refine KC.region (KL.op (R.move rfl rfl) rfl rfl rfl ?_)
  refine KL.op ((R.geq rfl rfl rfl).val (congrArg Value.bool (decide_eq_true (by omega)))) rfl rfl rfl ?_
  refine KL.op (R.move rfl rfl) rfl rfl rfl (KL.op (R.move rfl rfl) rfl rfl rfl ?_)
  refine KL.op ((R.leq rfl rfl rfl).val (congrArg Value.bool (decide_eq_false (by omega)))) rfl rfl rfl ?_
  refine KL.op (R.pick rfl rfl rfl) rfl rfl rfl ?_
  refine KL.op (R.assign rfl rfl) rfl rfl rfl (KL.nil (KQ.seq (KC.condF rfl (KC.seq (KC.region (KL.op (R.move rfl rfl) rfl rfl rfl ?_))))))
  refine KL.op ((R.geq rfl rfl rfl).val (congrArg Value.bool (decide_eq_true (by omega)))) rfl rfl rfl ?_
  refine KL.op (R.move rfl rfl) rfl rfl rfl (KL.op (R.move rfl rfl) rfl rfl rfl ?_)
  refine KL.op ((R.leq rfl rfl rfl).val (congrArg Value.bool (decide_eq_false (by omega)))) rfl rfl rfl ?_
  refine KL.op (R.pick rfl rfl rfl) rfl rfl rfl ?_
  refine KL.op (R.assign rfl rfl) rfl rfl rfl (KL.nil (KQ.seq (KC.condF rfl (KC.seq (KC.region (KL.op (R.move rfl rfl) rfl rfl rfl ?_))))))
  refine KL.op ((R.geq rfl rfl rfl).val (congrArg Value.bool (decide_eq_true (by omega)))) rfl rfl rfl ?_
  refine KL.op (R.move rfl rfl) rfl rfl rfl (KL.op (R.move rfl rfl) rfl rfl rfl ?_)
  refine KL.op ((R.leq rfl rfl rfl).val (congrArg Value.bool (decide_eq_false (by omega)))) rfl rfl rfl ?_
  refine KL.op (R.pick rfl rfl rfl) rfl rfl rfl ?_
  refine KL.op (R.assign rfl rfl) rfl rfl rfl (KL.nil (KQ.seq (KC.condF rfl (KC.seq (KC.region (KL.op (R.move rfl rfl) rfl rfl rfl ?_))))))
  refine KL.op ((R.geq rfl rfl rfl).val (congrArg Value.bool (decide_eq_false (by omega)))) rfl rfl rfl ?_
  refine KL.op (R.move rfl rfl) rfl rfl rfl ?_
  refine KL.skip rfl rfl rfl ?_
  refine KL.skip rfl rfl rfl ?_
  refine KL.op (R.pick rfl rfl rfl) rfl rfl rfl ?_
  refine KL.op (R.assign rfl rfl) rfl rfl rfl (KL.nil (KQ.seq (KC.condF rfl (KC.seq (KC.region (KL.op (R.move rfl rfl) rfl rfl rfl ?_))))))
  refine KL.op ((R.geq rfl rfl rfl).val (congrArg Value.bool (decide_eq_true (by omega)))) rfl rfl rfl ?_
  refine KL.op (R.move rfl rfl) rfl rfl rfl (KL.op (R.move rfl rfl) rfl rfl rfl ?_)
  refine KL.op ((R.leq rfl rfl rfl).val (congrArg Value.bool (decide_eq_true (by omega)))) rfl rfl rfl ?_
  refine KL.op (R.pick rfl rfl rfl) rfl rfl rfl ?_
  refine KL.op (R.assign rfl rfl) rfl rfl rfl (KL.nil (KQ.seq (KC.condT rfl (KC.seq (KC.region (KL.op (R.move rfl rfl) rfl rfl rfl ?_))))))
  refine KL.op (R.convI rfl Tryd.underlying5 Tryd.underlying3 rfl (by dsimp only [InR]; omega)) rfl rfl rfl ?_
  refine KL.op (R.sub rfl rfl rfl (by dsimp only [InR]; omega)) rfl rfl rfl ?_
  refine KL.op (R.assign rfl rfl) rfl rfl rfl (KL.op (R.assign rfl rfl) rfl rfl rfl (KL.op (R.assign rfl rfl) rfl rfl rfl (KL.nil (KQ.seq (KC.ret (KQ.retBlock (KQ.retThen (KQ.ofRet ?_))))))))
  refine KQ.fin3 Tryd.results21 rfl rfl rfl ?_
  refine ⟨?_, rfl⟩
  unfold Wr.num
  repeat' split
  all_goals first | rfl | (exfalso; omega)

set_option maxRecDepth 100000 in
set_option maxHeartbeats 4000000 in
theorem number_r121 {H : Heap} (op : Int) (h : 121 ≤ op ∧ op ≤ 123) : Ct Tryd.prog 21 [.int .u8 op] H (fun u H' => u = .tuple #[.int .i64 (Wr.num op).1, .int .i64 (Wr.num op).2.1, .int .i64 (Wr.num op).2.2] ∧ H = H') := by
  refine Ct.mk Tryd.func21 rfl Tryd.ntmps21 rfl ?_
  intro W0 hW0
  have o0 : Old H H := Old.refl H
  refine KC.seq (KC.region (KL.op (R.assign rfl rfl) rfl rfl rfl (KL.op (R.assign rfl rfl) rfl rfl rfl (KL.op (R.assign rfl rfl) rfl rfl rfl (KL.nil (KQ.seq (KC.seq (KC.block (KC.seq ?_)))))))))
  refine KC.region (KL.op (R.move rfl rfl) rfl rfl rfl ?_)
  refine KL.op ((R.geq rfl rfl rfl).val (congrArg Value.bool (decide_eq_true (by omega)))) rfl rfl rfl ?_
  refine KL.op (R.move rfl rfl) rfl rfl rfl (KL.op (R.move rfl rfl) rfl rfl rfl ?_)
  refine KL.op ((R.leq rfl rfl rfl).val (congrArg Value.bool (decide_eq_false (by omega)))) rfl rfl rfl ?_
  refine KL.op (R.pick rfl rfl rfl) rfl rfl rfl ?_
  refine KL.op (R.assign rfl rfl) rfl rfl rfl (KL.nil (KQ.seq (KC.condF rfl (KC.seq (KC.region (KL.op (R.move rfl rfl) rfl rfl rfl ?_))))))
  refine KL.op ((R.geq rfl rfl rfl).val (congrArg Value.bool (decide_eq_true (by omega)))) rfl rfl rfl ?_
  refine KL.op (R.move rfl rfl) rfl rfl rfl (KL.op (R.move rfl rfl) rfl rfl rfl ?_)
  refine KL.op ((R.leq rfl rfl rfl).val (congrArg Value.bool (decide_eq_false (by omega)))) rfl rfl rfl ?_
  refine KL.op (R.pick rfl rfl rfl) rfl rfl rfl ?_
  refine KL.op (R.assign rfl rfl) rfl rfl rfl (KL.nil (KQ.seq (KC.condF rfl (KC.seq (KC.region (KL.op (R.move rfl rfl) rfl rfl rfl ?_))))))
  refine KL.op ((R.geq rfl rfl rfl).val (congrArg Value.bool (decide_eq_true (by omega)))) rfl rfl rfl ?_
  refine KL.op (R.move rfl rfl) rfl rfl rfl (KL.op (R.move rfl rfl) rfl rfl rfl ?_)
  refine KL.op ((R.leq rfl rfl rfl).val (congrArg Value.bool (decide_eq_false (by omega)))) rfl rfl rfl ?_
  refine KL.op (R.pick rfl rfl rfl) rfl rfl rfl ?_
  refine KL.op (R.assign rfl rfl) rfl rfl rfl (KL.nil (KQ.seq (KC.condF rfl (KC.seq (KC.region (KL.op (R.move rfl rfl) rfl rfl rfl ?_))))))
  refine KL.op ((R.geq rfl rfl rfl).val (congrArg Value.bool (decide_eq_true (by omega)))) rfl rfl rfl ?_
  refine KL.op (R.move rfl rfl) rfl rfl rfl (KL.op (R.move rfl rfl) rfl rfl rfl ?_)
  refine KL.op ((R.leq rfl rfl rfl).val (congrArg Value.bool (decide_eq_true (by omega)))) rfl rfl rfl ?_
  refine KL.op (R.pick rfl rfl rfl) rfl rfl rfl ?_
  refine KL.op (R.assign rfl rfl) rfl rfl rfl (KL.nil (KQ.seq (KC.condT rfl (KC.seq (KC.region (KL.op (R.move rfl rfl) rfl rfl rfl ?_))))))
  refine KL.op (R.convI rfl Tryd.underlying5 Tryd.underlying3 rfl (by dsimp only [InR]; omega)) rfl rfl rfl ?_
  refine KL.op (R.sub rfl rfl rfl (by dsimp only [InR]; omega)) rfl rfl rfl ?_
  refine KL.op (R.assign rfl rfl) rfl rfl rfl (KL.op (R.assign rfl rfl) rfl rfl rfl (KL.op (R.assign rfl rfl) rfl rfl rfl (KL.nil (KQ.seq (KC.ret (KQ.retBlock (KQ.retThen (KQ.ofRet ?_))))))))
  refine KQ.fin3 Tryd.results21 rfl rfl rfl ?_
  refine ⟨?_, rfl⟩
  unfold Wr.num
  repeat' split
  all_goals first | rfl | (exfalso; omega)

set_option maxRecDepth 100000 in
set_option maxHeartbeats 4000000 in
theorem number_r124 {H : Heap} (op : Int) (h : 124 ≤ op ∧ op ≤ 138) : Ct Tryd.prog 21 [.int .u8 op] H (fun u H' => u = .tuple #[.int .i64 (Wr.num op).1, .int .i64 (Wr.num op).2.1, .int .i64 (Wr.num op).2.2] ∧ H = H') := by
  refine Ct.mk Tryd.func21 rfl Tryd.ntmps21 rfl ?_
  intro W0 hW0
  have o0 : Old H H := Old.refl H
  refine KC.seq (KC.region (KL.op (R.assign rfl rfl) rfl rfl rfl (KL.op (R.assign rfl rfl) rfl rfl rfl (KL.op (R.assign rfl rfl) rfl rfl rfl (KL.nil (KQ.seq (KC.seq (KC.block (KC.seq ?_)))))))))
  refine KC.region (KL.op (R.move rfl rfl) rfl rfl rfl ?_)
  refine KL.op ((R.geq rfl rfl rfl).val (congrArg Value.bool (decide_eq_true (by omega)))) rfl rfl rfl ?_
  refine KL.op (R.move rfl rfl) rfl rfl rfl (KL.op (R.move rfl rfl) rfl rfl rfl ?_)
  refine KL.op ((R.leq rfl rfl rfl).val (congrArg Value.bool (decide_eq_false (by omega)))) rfl rfl rfl ?_
  refine KL.op (R.pick rfl rfl rfl) rfl rfl rfl ?_
  refine KL.op (R.assign rfl rfl) rfl rfl rfl (KL.nil (KQ.seq (KC.condF rfl (KC.seq (KC.region (KL.op (R.move rfl rfl) rfl rfl rfl ?_))))))
  refine KL.op ((R.geq rfl rfl rfl).val (congrArg Value.bool (decide_eq_true (by omega)))) rfl rfl rfl ?_
  refine KL.op (R.move rfl rfl) rfl rfl rfl (KL.op (R.move rfl rfl) rfl rfl rfl ?_)
  refine KL.op ((R.leq rfl rfl rfl).val (congrArg Value.bool (decide_eq_false (by omega)))) rfl rfl rfl ?_
  refine KL.op (R.pick rfl rfl rfl) rfl rfl rfl ?_
  refine KL.op (R.assign rfl rfl) rfl rfl rfl (KL.nil (KQ.seq (KC.condF rfl (KC.seq (KC.region (KL.op (R.move rfl rfl) rfl rfl rfl ?_))))))
  refine KL.op ((R.geq rfl rfl rfl).val (congrArg Value.bool (decide_eq_true (by omega)))) rfl rfl rfl ?_
  refine KL.op (R.move rfl rfl) rfl rfl rfl (KL.op (R.move rfl rfl) rfl rfl rfl ?_)
  refine KL.op ((R.leq rfl rfl rfl).val (congrArg Value.bool (decide_eq_false (by omega)))) rfl rfl rfl ?_
  refine KL.op (R.pick rfl rfl rfl) rfl rfl rfl ?_
  refine KL.op (R.assign rfl rfl) rfl rfl rfl (KL.nil (KQ.seq (KC.condF rfl (KC.seq (KC.region (KL.op (R.move rfl rfl) rfl rfl rfl ?_))))))
  refine KL.op ((R.geq rfl rfl rfl).val (congrArg Value.bool (decide_eq_true (by omega)))) rfl rfl rfl ?_
  refine KL.op (R.move rfl rfl) rfl rfl rfl (KL.op (R.move rfl rfl) rfl rfl rfl ?_)
  refine KL.op ((R.leq rfl rfl rfl).val (congrArg Value.bool (decide_eq_false (by omega)))) rfl rfl rfl ?_
  refine KL.op (R.pick rfl rfl rfl) rfl rfl rfl ?_
  refine KL.op (R.assign rfl rfl) rfl rfl rfl (KL.nil (KQ.seq (KC.condF rfl (KC.seq (KC.region (KL.op (R.move rfl rfl) rfl rfl rfl ?_))))))
  refine KL.op ((R.geq rfl rfl rfl).val (congrArg Value.bool (decide_eq_true (by omega)))) rfl rfl rfl ?_
  refine KL.op (R.move rfl rfl) rfl rfl rfl (KL.op (R.move rfl rfl) rfl rfl rfl ?_)
  refine KL.op ((R.leq rfl rfl rfl).val (congrArg Value.bool (decide_eq_false (by omega)))) rfl rfl rfl ?_
  refine KL.op (R.pick rfl rfl rfl) rfl rfl rfl ?_
  refine KL.op (R.assign rfl rfl) rfl rfl rfl (KL.nil (KQ.seq (KC.condF rfl (KC.seq (KC.region (KL.op (R.move rfl rfl) rfl rfl rfl ?_))))))
  refine KL.op ((R.geq rfl rfl rfl).val (congrArg Value.bool (decide_eq_true (by omega)))) rfl rfl rfl ?_
  refine KL.op (R.move rfl rfl) rfl rfl rfl (KL.op (R.move rfl rfl) rfl rfl rfl ?_)
  refine KL.op ((R.leq rfl rfl rfl).val (congrArg Value.bool (decide_eq_true (by omega)))) rfl rfl rfl ?_
  refine KL.op (R.pick rfl rfl rfl) rfl rfl rfl ?_
  refine KL.op (R.assign rfl rfl) rfl rfl rfl (KL.nil (KQ.seq (KC.condT rfl (KC.seq (KC.region (KL.op (R.move rfl rfl) rfl rfl rfl ?_))))))
  refine KL.op (R.convI rfl Tryd.underlying5 Tryd.underlying3 rfl (by dsimp only [InR]; omega)) rfl rfl rfl ?_
  refine KL.op (R.sub rfl rfl rfl (by dsimp only [InR]; omega)) rfl rfl rfl ?_
  refine KL.op (R.assign rfl rfl) rfl rfl rfl (KL.op (R.assign rfl rfl) rfl rfl rfl (KL.op (R.assign rfl rfl) rfl rfl rfl (KL.nil (KQ.seq (KC.ret (KQ.retBlock (KQ.retThen (KQ.ofRet ?_))))))))
  refine KQ.fin3 Tryd.results21 rfl rfl rfl ?_
  refine ⟨?_, rfl⟩
  unfold Wr.num
  repeat' split
  all_goals first | rfl | (exfalso; omega)

set_option maxRecDepth 100000 in
set_option maxHeartbeats 4000000 in
theorem number_r139 {H : Heap} (op : Int) (h : 139 ≤ op ∧ op ≤ 255) : Ct Tryd.prog 21 [.int .u8 op] H (fun u H' => u = .tuple #[.int .i64 (Wr.num op).1, .int .i64 (Wr.num op).2.1, .int .i64 (Wr.num op).2.2] ∧ H = H') := by
  refine Ct.mk Tryd.func21 rfl Tryd.ntmps21 rfl ?_
  intro W0 hW0
  have o0 : Old H H := Old.refl H
  refine KC.seq (KC.region (KL.op (R.assign rfl rfl) rfl rfl rfl (KL.op (R.assign rfl rfl) rfl rfl rfl (KL.op (R.assign rfl rfl) rfl rfl rfl (KL.nil (KQ.seq (KC.seq (KC.block (KC.seq ?_)))))))))
  refine KC.region (KL.op (R.move rfl rfl) rfl rfl rfl ?_)
  refine KL.op ((R.geq rfl rfl rfl).val (congrArg Value.bool (decide_eq_true (by omega)))) rfl rfl rfl ?_
  refine KL.op (R.move rfl rfl) rfl rfl rfl (KL.op (R.move rfl rfl) rfl rfl rfl ?_)
  refine KL.op ((R.leq rfl rfl rfl).val (congrArg Value.bool (decide_eq_false (by omega)))) rfl rfl rfl ?_
  refine KL.op (R.pick rfl rfl rfl) rfl rfl rfl ?_
  refine KL.op (R.assign rfl rfl) rfl rfl rfl (KL.nil (KQ.seq (KC.condF rfl (KC.seq (KC.region (KL.op (R.move rfl rfl) rfl rfl rfl ?_))))))
  refine KL.op ((R.geq rfl rfl rfl).val (congrArg Value.bool (decide_eq_true (by omega)))) rfl rfl rfl ?_
  refine KL.op (R.move rfl rfl) rfl rfl rfl (KL.op (R.move rfl rfl) rfl rfl rfl ?_)
  refine KL.op ((R.leq rfl rfl rfl).val (congrArg Value.bool (decide_eq_false (by omega)))) rfl rfl rfl ?_
  refine KL.op (R.pick rfl rfl rfl) rfl rfl rfl ?_
  refine KL.op (R.assign rfl rfl) rfl rfl rfl (KL.nil (KQ.seq (KC.condF rfl (KC.seq (KC.region (KL.op (R.move rfl rfl) rfl rfl rfl ?_))))))
  refine KL.op ((R.geq rfl rfl rfl).val (congrArg Value.bool (decide_eq_true (by omega)))) rfl rfl rfl ?_
  refine KL.op (R.move rfl rfl) rfl rfl rfl (KL.op (R.move rfl rfl) rfl rfl rfl ?_)
  refine KL.op ((R.leq rfl rfl rfl).val (congrArg Value.bool (decide_eq_false (by omega)))) rfl rfl rfl ?_
  refine KL.op (R.pick rfl rfl rfl) rfl rfl rfl ?_
  refine KL.op (R.assign rfl rfl) rfl rfl rfl (KL.nil (KQ.seq (KC.condF rfl (KC.seq (KC.region (KL.op (R.move rfl rfl) rfl rfl rfl ?_))))))
  refine KL.op ((R.geq rfl rfl rfl).val (congrArg Value.bool (decide_eq_true (by omega)))) rfl rfl rfl ?_
  refine KL.op (R.move rfl rfl) rfl rfl rfl (KL.op (R.move rfl rfl) rfl rfl rfl ?_)
  refine KL.op ((R.leq rfl rfl rfl).val (congrArg Value.bool (decide_eq_false (by omega)))) rfl rfl rfl ?_
  refine KL.op (R.pick rfl rfl rfl) rfl rfl rfl ?_
  refine KL.op (R.assign rfl rfl) rfl rfl rfl (KL.nil (KQ.seq (KC.condF rfl (KC.seq (KC.region (KL.op (R.move rfl rfl) rfl rfl rfl ?_))))))
  refine KL.op ((R.geq rfl rfl rfl).val (congrArg Value.bool (decide_eq_true (by omega)))) rfl rfl rfl ?_
  refine KL.op (R.move rfl rfl) rfl rfl rfl (KL.op (R.move rfl rfl) rfl rfl rfl ?_)
  refine KL.op ((R.leq rfl rfl rfl).val (congrArg Value.bool (decide_eq_false (by omega)))) rfl rfl rfl ?_
  refine KL.op (R.pick rfl rfl rfl) rfl rfl rfl ?_
  refine KL.op (R.assign rfl rfl) rfl rfl rfl (KL.nil (KQ.seq (KC.condF rfl (KC.seq (KC.region (KL.op (R.move rfl rfl) rfl rfl rfl ?_))))))
  refine KL.op ((R.geq rfl rfl rfl).val (congrArg Value.bool (decide_eq_true (by omega)))) rfl rfl rfl ?_
  refine KL.op (R.move rfl rfl) rfl rfl rfl (KL.op (R.move rfl rfl) rfl rfl rfl ?_)
  refine KL.op ((R.leq rfl rfl rfl).val (congrArg Value.bool (decide_eq_false (by omega)))) rfl rfl rfl ?_
  refine KL.op (R.pick rfl rfl rfl) rfl rfl rfl ?_
  refine KL.op (R.assign rfl rfl) rfl rfl rfl (KL.nil (KQ.seq (KC.condF rfl ?_)))
  refine KC.skip ?_
  refine KQ.normBlock (KQ.seq (KC.seq (KC.region (KL.op (R.assign rfl rfl) rfl rfl rfl (KL.op (R.assign rfl rfl) rfl rfl rfl (KL.op (R.assign rfl rfl) rfl rfl rfl (KL.nil (KQ.seq (KC.ret ?_)))))))))
  refine KQ.ofRet ?_
  refine KQ.fin3 Tryd.results21 rfl rfl rfl ?_
  refine ⟨?_, rfl⟩
  unfold Wr.num
  repeat' split
  all_goals first | rfl | (exfalso; omega)

theorem number_k {H : Heap} (op : Int) (ro : InR .u8 op) : Ct Tryd.prog 21 [.int .u8 op] H (fun u H' => u = .tuple #[.int .i64 (Wr.num op).1, .int .i64 (Wr.num op).2.1, .int .i64 (Wr.num op).2.2] ∧ H = H') := by
  dsimp only [InR] at ro
  rcases (by omega : (0 ≤ op ∧ op ≤ 69) ∨ (70 ≤ op ∧ op ≤ 79) ∨ (80 ≤ op ∧ op ≤ 80) ∨ (81 ≤ op ∧ op ≤ 90) ∨ (91 ≤ op ∧ op ≤ 102) ∨ (103 ≤ op ∧ op ≤ 105) ∨ (106 ≤ op ∧ op ≤ 120) ∨ (121 ≤ op ∧ op ≤ 123) ∨ (124 ≤ op ∧ op ≤ 138) ∨ (139 ≤ op ∧ op ≤ 255)) with h | h | h | h | h | h | h | h | h | h
  · exact number_r0 op h
  · exact number_r70 op h
  · exact number_r80 op h
  · exact number_r81 op h
  · exact number_r91 op h
  · exact number_r103 op h
  · exact number_r106 op h
  · exact number_r121 op h
  · exact number_r124 op h
  · exact number_r139 op h
end Go.Proofs.YtkkhjaiaicmpaaaDoor
