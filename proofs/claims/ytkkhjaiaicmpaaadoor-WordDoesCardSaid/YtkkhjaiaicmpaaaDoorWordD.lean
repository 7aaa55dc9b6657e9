/- word.Do for the opcodes of the plain operations; the small examples. No condition. -/
import Derived.Test.YtkkhjaiaicmpaaaDoorWordC
namespace Go.Proofs.YtkkhjaiaicmpaaaDoor
open Go Go.RowKit
set_option linter.unusedVariables false
set_option linter.unusedSimpArgs false
set_option linter.unnecessarySimpa false

namespace Wd
/-- the opcodes of the plain operations, the quotients and rests, and two more -/
def Sup (op : Int) : Prop := op = 0 ∨ (106 ≤ op ∧ op ≤ 120) ∨ (124 ≤ op ∧ op ≤ 138) ∨ op = 172
/-- what such an opcode comes to, and its trap -/
def D (op a b : Int) : Int × Int :=
  if op = 0 then (0, 1) else if op = 172 then (u64 (IntKind.i64.wrap (IntKind.i32.wrap a)), 0)
  else if 109 ≤ op ∧ op ≤ 112 then (u64 (u32 (d32 (op - 109) a b).1), (d32 (op - 109) a b).2)
  else if op ≤ 120 then (p32 (op - 106) a b, 0)
  else if 127 ≤ op ∧ op ≤ 130 then ((d64 (op - 127) a b).1, (d64 (op - 127) a b).2) else (p64 (op - 124) a b, 0)
theorem bitsU (o : BinOp) (a b : Int) : InR .u64 (bits o .u64 a b) := by
  unfold bits; exact r64 _
theorem pl64R (i : Int) {a b : Int} (ra : InR .u64 a) : InR .u64 (pl .u64 .i64 64 i a b) := by
  unfold pl rot
  repeat' (first | exact r64 _ | exact bitsU _ _ _ | split)
  all_goals
    (dsimp only [InR] at ra ⊢
     exact ⟨Int.ediv_nonneg ra.1 (Int.le_of_lt (Int.pow_pos (by omega))), Int.le_trans (Int.ediv_le_self _ ra.1) ra.2⟩)
end Wd

set_option maxRecDepth 100000 in
set_option maxHeartbeats 4000000 in
theorem Do_any {H : Heap} (op a b : Int) (s : Wd.Sup op) (ra : InR .u64 a) (rb : InR .u64 b) : Ct Tryd.prog 8 [.int .u8 op, .int .u64 a, .int .u64 b] H (fun u H' => u = .tuple #[.int .u64 (Wd.D op a b).1, .int .u8 (Wd.D op a b).2] ∧ H = H') := by
  have h : op = 0 ∨ op = 106 ∨ op = 107 ∨ op = 108 ∨ op = 109 ∨ op = 110 ∨ op = 111 ∨ op = 112 ∨ op = 113 ∨ op = 114 ∨ op = 115 ∨ op = 116 ∨ op = 117 ∨ op = 118 ∨ op = 119 ∨ op = 120 ∨ op = 124 ∨ op = 125 ∨ op = 126 ∨ op = 127 ∨ op = 128 ∨ op = 129 ∨ op = 130 ∨ op = 131 ∨ op = 132 ∨ op = 133 ∨ op = 134 ∨ op = 135 ∨ op = 136 ∨ op = 137 ∨ op = 138 ∨ op = 172 := by unfold Wd.Sup at s; omega
  rcases h with rfl | rfl | rfl | rfl | rfl | rfl | rfl | rfl | rfl | rfl | rfl | rfl | rfl | rfl | rfl | rfl | rfl | rfl | rfl | rfl | rfl | rfl | rfl | rfl | rfl | rfl | rfl | rfl | rfl | rfl | rfl | rfl
  · exact Do_0 a b ra rb
  · exact Do_106 a b ra rb
  · exact Do_107 a b ra rb
  · exact Do_108 a b ra rb
  · exact Do_109 a b ra rb
  · exact Do_110 a b ra rb
  · exact Do_111 a b ra rb
  · exact Do_112 a b ra rb
  · exact Do_113 a b ra rb
  · exact Do_114 a b ra rb
  · exact Do_115 a b ra rb
  · exact Do_116 a b ra rb
  · exact Do_117 a b ra rb
  · exact Do_118 a b ra rb
  · exact Do_119 a b ra rb
  · exact Do_120 a b ra rb
  · exact Do_124 a b ra rb
  · exact Do_125 a b ra rb
  · exact Do_126 a b ra rb
  · exact Do_127 a b ra rb
  · exact Do_128 a b ra rb
  · exact Do_129 a b ra rb
  · exact Do_130 a b ra rb
  · exact Do_131 a b ra rb
  · exact Do_132 a b ra rb
  · exact Do_133 a b ra rb
  · exact Do_134 a b ra rb
  · exact Do_135 a b ra rb
  · exact Do_136 a b ra rb
  · exact Do_137 a b ra rb
  · exact Do_138 a b ra rb
  · exact Do_172 a b ra rb
set_option maxRecDepth 100000 in
set_option maxHeartbeats 4000000 in
theorem do_any {H : Heap} (op a b : Int) (s : Wd.Sup op) (ra : InR .u64 a) (rb : InR .u64 b) : Ct Tryd.prog 14 [.int .u8 op, .int .u64 a, .int .u64 b] H (fun u H' => u = .int .u64 (Wd.D op a b).1 ∧ H = H') := by
  refine Ct.mk Tryd.func14 rfl Tryd.ntmps14 rfl ?_
  intro W0 hW0
  have o0 : Old H H := Old.refl H
  refine KC.seq ?_
  refine KC.region ?_
  refine KL.op (R.assign rfl rfl) rfl rfl rfl ?_
  refine KL.nil ?_
  refine KQ.seq ?_
  refine KC.seq ?_
  refine KC.region ?_
  refine KL.op (R.move rfl rfl) rfl rfl rfl ?_
  refine KL.op (R.move rfl rfl) rfl rfl rfl ?_
  refine KL.op (R.move rfl rfl) rfl rfl rfl ?_
  refine KL.call rfl rfl rfl rfl Tryd.call8 rfl rfl rfl (Do_any _ _ _ s ra rb) ?_
  rintro _ _ ⟨rfl, rfl⟩
  refine KL.op (R.move rfl rfl) rfl rfl rfl ?_
  refine KL.op (R.extract rfl rfl rfl) rfl rfl rfl ?_
  refine KL.op (R.extract rfl rfl rfl) rfl rfl rfl ?_
  refine KL.op (R.assign rfl rfl) rfl rfl rfl ?_
  refine KL.op (R.assign rfl rfl) rfl rfl rfl ?_
  refine KL.nil ?_
  refine KQ.seq ?_
  refine KC.seq ?_
  refine KC.region ?_
  refine KL.op (R.move rfl rfl) rfl rfl rfl ?_
  refine KL.op (R.assign rfl rfl) rfl rfl rfl ?_
  refine KL.nil ?_
  refine KQ.seq ?_
  refine KC.ret ?_
  refine KQ.ofRet ?_
  refine KQ.fin1 Tryd.results14 rfl ?_
  exact ⟨rfl, rfl⟩

set_option maxRecDepth 100000 in
set_option maxHeartbeats 4000000 in
theorem is_true {H : Heap} (op a b c : Int) (s : Wd.Sup op) (ra : InR .u64 a) (rb : InR .u64 b) (h1 : (Wd.D op a b).1 = c) (h2 : (Wd.D op a b).2 = 0) : Ct Tryd.prog 10 [.int .u8 op, .int .u64 a, .int .u64 b, .int .u64 c] H (fun u H' => u = .bool true ∧ H = H') := by
  refine Ct.mk Tryd.func10 rfl Tryd.ntmps10 rfl ?_
  intro W0 hW0
  have o0 : Old H H := Old.refl H
  refine KC.seq ?_
  refine KC.region ?_
  refine KL.op (R.assign rfl rfl) rfl rfl rfl ?_
  refine KL.nil ?_
  refine KQ.seq ?_
  refine KC.seq ?_
  refine KC.region ?_
  refine KL.op (R.move rfl rfl) rfl rfl rfl ?_
  refine KL.op (R.move rfl rfl) rfl rfl rfl ?_
  refine KL.op (R.move rfl rfl) rfl rfl rfl ?_
  refine KL.call rfl rfl rfl rfl Tryd.call8 rfl rfl rfl (Do_any _ _ _ s ra rb) ?_
  rintro _ _ ⟨rfl, rfl⟩
  refine KL.op (R.move rfl rfl) rfl rfl rfl ?_
  refine KL.op (R.extract rfl rfl rfl) rfl rfl rfl ?_
  refine KL.op (R.extract rfl rfl rfl) rfl rfl rfl ?_
  refine KL.op (R.assign rfl rfl) rfl rfl rfl ?_
  refine KL.op (R.assign rfl rfl) rfl rfl rfl ?_
  refine KL.nil ?_
  refine KQ.seq ?_
  refine KC.seq ?_
  refine KC.region ?_
  refine KL.op (R.move rfl rfl) rfl rfl rfl ?_
  refine KL.op (R.move rfl rfl) rfl rfl rfl ?_
  refine KL.op ((R.eql rfl rfl rfl).val (congrArg Value.bool (decide_eq_true (by exact h1)))) rfl rfl rfl ?_
  refine KL.op (R.move rfl rfl) rfl rfl rfl ?_
  refine KL.op (R.move rfl rfl) rfl rfl rfl ?_
  refine KL.op ((R.eql rfl rfl rfl).val (congrArg Value.bool (decide_eq_true (by exact h2)))) rfl rfl rfl ?_
  refine KL.op (R.pick rfl rfl rfl) rfl rfl rfl ?_
  refine KL.op (R.assign rfl rfl) rfl rfl rfl ?_
  refine KL.nil ?_
  refine KQ.seq ?_
  refine KC.ret ?_
  refine KQ.ofRet ?_
  refine KQ.fin1 Tryd.results10 rfl ?_
  exact ⟨rfl, rfl⟩

set_option maxRecDepth 100000 in
set_option maxHeartbeats 4000000 in
theorem works_any {H : Heap} : Ct Tryd.prog 9 [] H (fun u H' => u = .bool true ∧ H = H') := by
  refine Ct.mk Tryd.func9 rfl Tryd.ntmps9 rfl ?_
  intro W0 hW0
  have o0 : Old H H := Old.refl H
  refine KC.seq ?_
  refine KC.region ?_
  refine KL.op (R.assign rfl rfl) rfl rfl rfl ?_
  refine KL.nil ?_
  refine KQ.seq ?_
  refine KC.seq ?_
  refine KC.region ?_
  refine KL.call rfl rfl rfl rfl Tryd.call8 rfl rfl rfl (Do_any 109 2147483648 4294967295 (by unfold Wd.Sup; omega) (by dsimp only [InR]; omega) (by dsimp only [InR]; omega)) ?_
  rintro _ _ ⟨rfl, rfl⟩
  refine KL.op (R.move rfl rfl) rfl rfl rfl ?_
  refine KL.op (R.extract rfl rfl rfl) rfl rfl rfl ?_
  refine KL.op (R.extract rfl rfl rfl) rfl rfl rfl ?_
  refine KL.op (R.assign rfl rfl) rfl rfl rfl ?_
  refine KL.op (R.assign rfl rfl) rfl rfl rfl ?_
  refine KL.nil ?_
  refine KQ.seq ?_
  refine KC.seq ?_
  refine KC.region ?_
  refine KL.call rfl rfl rfl rfl Tryd.call8 rfl rfl rfl (Do_any 128 5 0 (by unfold Wd.Sup; omega) (by dsimp only [InR]; omega) (by dsimp only [InR]; omega)) ?_
  rintro _ _ ⟨rfl, rfl⟩
  refine KL.op (R.move rfl rfl) rfl rfl rfl ?_
  refine KL.op (R.extract rfl rfl rfl) rfl rfl rfl ?_
  refine KL.op (R.extract rfl rfl rfl) rfl rfl rfl ?_
  refine KL.op (R.assign rfl rfl) rfl rfl rfl ?_
  refine KL.op (R.assign rfl rfl) rfl rfl rfl ?_
  refine KL.nil ?_
  refine KQ.seq ?_
  refine KC.seq ?_
  refine KC.region ?_
  refine KL.call rfl rfl rfl rfl Tryd.call10 rfl rfl rfl (is_true 106 4294967295 2 1 (by unfold Wd.Sup; omega) (by dsimp only [InR]; omega) (by dsimp only [InR]; omega) (by decide +kernel) (by decide +kernel)) ?_
  rintro _ _ ⟨rfl, rfl⟩
  refine KL.op (R.move rfl rfl) rfl rfl rfl ?_
  refine KL.call rfl rfl rfl rfl Tryd.call10 rfl rfl rfl (is_true 109 4294967289 2 4294967293 (by unfold Wd.Sup; omega) (by dsimp only [InR]; omega) (by dsimp only [InR]; omega) (by decide +kernel) (by decide +kernel)) ?_
  rintro _ _ ⟨rfl, rfl⟩
  refine KL.op (R.pick rfl rfl rfl) rfl rfl rfl ?_
  refine KL.op (R.move rfl rfl) rfl rfl rfl ?_
  refine KL.op (R.move rfl rfl) rfl rfl rfl ?_
  refine KL.op ((R.eql rfl rfl rfl).val (congrArg Value.bool (decide_eq_true (by decide +kernel)))) rfl rfl rfl ?_
  refine KL.op (R.pick rfl rfl rfl) rfl rfl rfl ?_
  refine KL.op (R.move rfl rfl) rfl rfl rfl ?_
  refine KL.op (R.move rfl rfl) rfl rfl rfl ?_
  refine KL.op ((R.eql rfl rfl rfl).val (congrArg Value.bool (decide_eq_true (by decide +kernel)))) rfl rfl rfl ?_
  refine KL.op (R.pick rfl rfl rfl) rfl rfl rfl ?_
  refine KL.op (R.move rfl rfl) rfl rfl rfl ?_
  refine KL.call rfl rfl rfl rfl Tryd.call10 rfl rfl rfl (is_true 124 9223372036854775808 9223372036854775808 0 (by unfold Wd.Sup; omega) (by dsimp only [InR]; omega) (by dsimp only [InR]; omega) (by decide +kernel) (by decide +kernel)) ?_
  rintro _ _ ⟨rfl, rfl⟩
  refine KL.op (R.pick rfl rfl rfl) rfl rfl rfl ?_
  refine KL.op (R.assign rfl rfl) rfl rfl rfl ?_
  refine KL.nil ?_
  refine KQ.seq ?_
  refine KC.ret ?_
  refine KQ.ofRet ?_
  refine KQ.fin1 Tryd.results9 rfl ?_
  exact ⟨rfl, rfl⟩

set_option maxRecDepth 100000 in
set_option maxHeartbeats 4000000 in
theorem WordKnown_any {H : Heap} : Ct Tryd.prog 3 [] H (fun u H' => u = .bool true ∧ Old H H') := by
  refine Ct.mk Tryd.func3 rfl Tryd.ntmps3 rfl ?_
  intro W0 hW0
  have o0 : Old H H := Old.refl H
  refine KC.seq ?_
  refine KC.region ?_
  refine KL.op (R.assign rfl rfl) rfl rfl rfl ?_
  refine KL.nil ?_
  refine KQ.seq ?_
  refine KC.seq ?_
  refine KC.region ?_
  refine KL.call rfl rfl rfl rfl Tryd.call8 rfl rfl rfl (Do_any 0 1 2 (by unfold Wd.Sup; omega) (by dsimp only [InR]; omega) (by dsimp only [InR]; omega)) ?_
  rintro _ _ ⟨rfl, rfl⟩
  refine KL.op (R.move rfl rfl) rfl rfl rfl ?_
  refine KL.op (R.extract rfl rfl rfl) rfl rfl rfl ?_
  refine KL.op (R.extract rfl rfl rfl) rfl rfl rfl ?_
  refine KL.op (R.assign rfl rfl) rfl rfl rfl ?_
  refine KL.op (R.assign rfl rfl) rfl rfl rfl ?_
  refine KL.nil ?_
  refine KQ.seq ?_
  refine KC.seq ?_
  refine KC.region ?_
  refine KL.call rfl rfl rfl rfl Tryd.call9 rfl rfl rfl (works_any) ?_
  rintro _ _ ⟨rfl, rfl⟩
  refine KL.op (R.move rfl rfl) rfl rfl rfl ?_
  refine KL.call rfl rfl rfl rfl Tryd.call10 rfl rfl rfl (is_true 111 4294967289 2 4294967295 (by unfold Wd.Sup; omega) (by dsimp only [InR]; omega) (by dsimp only [InR]; omega) (by decide +kernel) (by decide +kernel)) ?_
  rintro _ _ ⟨rfl, rfl⟩
  refine KL.op (R.pick rfl rfl rfl) rfl rfl rfl ?_
  refine KL.op (R.move rfl rfl) rfl rfl rfl ?_
  refine KL.call rfl rfl rfl rfl Tryd.call10 rfl rfl rfl (is_true 111 2147483648 4294967295 0 (by unfold Wd.Sup; omega) (by dsimp only [InR]; omega) (by dsimp only [InR]; omega) (by decide +kernel) (by decide +kernel)) ?_
  rintro _ _ ⟨rfl, rfl⟩
  refine KL.op (R.pick rfl rfl rfl) rfl rfl rfl ?_
  refine KL.op (R.move rfl rfl) rfl rfl rfl ?_
  refine KL.call rfl rfl rfl rfl Tryd.call10 rfl rfl rfl (is_true 172 4294967295 0 18446744073709551615 (by unfold Wd.Sup; omega) (by dsimp only [InR]; omega) (by dsimp only [InR]; omega) (by decide +kernel) (by decide +kernel)) ?_
  rintro _ _ ⟨rfl, rfl⟩
  refine KL.op (R.pick rfl rfl rfl) rfl rfl rfl ?_
  refine KL.op (R.move rfl rfl) rfl rfl rfl ?_
  refine KL.call rfl rfl rfl rfl Tryd.call10 rfl rfl rfl (is_true 136 8 65 4 (by unfold Wd.Sup; omega) (by dsimp only [InR]; omega) (by dsimp only [InR]; omega) (by decide +kernel) (by decide +kernel)) ?_
  rintro _ _ ⟨rfl, rfl⟩
  refine KL.op (R.pick rfl rfl rfl) rfl rfl rfl ?_
  refine KL.op (R.move rfl rfl) rfl rfl rfl ?_
  refine KL.op (R.move rfl rfl) rfl rfl rfl ?_
  refine KL.op ((R.eql rfl rfl rfl).val (congrArg Value.bool (decide_eq_true (by decide +kernel)))) rfl rfl rfl ?_
  refine KL.op (R.pick rfl rfl rfl) rfl rfl rfl ?_
  refine KL.op (R.move rfl rfl) rfl rfl rfl ?_
  refine KL.op (R.move rfl rfl) rfl rfl rfl ?_
  refine KL.op ((R.eql rfl rfl rfl).val (congrArg Value.bool (decide_eq_true (by decide +kernel)))) rfl rfl rfl ?_
  refine KL.op (R.pick rfl rfl rfl) rfl rfl rfl ?_
  refine KL.op (R.move rfl rfl) rfl rfl rfl ?_
  refine KL.call rfl rfl rfl rfl Tryd.call11 rfl rfl rfl (Arity_0) ?_
  rintro _ _ ⟨rfl, rfl⟩
  refine KL.op ((R.eql rfl rfl rfl).val (congrArg Value.bool (decide_eq_true (by decide)))) rfl rfl rfl ?_
  refine KL.op (R.pick rfl rfl rfl) rfl rfl rfl ?_
  refine KL.op (R.move rfl rfl) rfl rfl rfl ?_
  refine KL.call rfl rfl rfl rfl Tryd.call11 rfl rfl rfl (Arity_69) ?_
  rintro _ _ ⟨rfl, rfl⟩
  refine KL.op ((R.eql rfl rfl rfl).val (congrArg Value.bool (decide_eq_true (by decide)))) rfl rfl rfl ?_
  refine KL.op (R.pick rfl rfl rfl) rfl rfl rfl ?_
  refine KL.op (R.move rfl rfl) rfl rfl rfl ?_
  refine KL.call rfl rfl rfl rfl Tryd.call11 rfl rfl rfl (Arity_138) ?_
  rintro _ _ ⟨rfl, rfl⟩
  refine KL.op ((R.eql rfl rfl rfl).val (congrArg Value.bool (decide_eq_true (by decide)))) rfl rfl rfl ?_
  refine KL.op (R.pick rfl rfl rfl) rfl rfl rfl ?_
  refine KL.op (R.assign rfl rfl) rfl rfl rfl ?_
  refine KL.nil ?_
  refine KQ.seq ?_
  refine KC.ret ?_
  refine KQ.ofRet ?_
  refine KQ.fin1 Tryd.results3 rfl ?_
  exact ⟨rfl, o0⟩

end Go.Proofs.YtkkhjaiaicmpaaaDoor
