/- What is asked of an instance. No condition but those that each states. -/
import Derived.Test.YticnkojpfmkjeaaIstG
namespace Go.Proofs.Yticnkojpfmkjeaa
open Go Go.RowKit
set_option linter.unusedVariables false
set_option linter.unusedSimpArgs false
set_option linter.unnecessarySimpa false

/-- what is told of an element -/
def elV (T : List Int) (i : Nat) : Value := if i < T.length then (if T.getD i default = -1 then .tuple #[.int .u32 0, .bool true, .bool false] else .tuple #[.int .u32 (IntKind.u32.wrap (T.getD i default)), .bool true, .bool true]) else .tuple #[.int .u32 0, .bool false, .bool false]
def glV (T : List Int) (i : Nat) : Value := if i < T.length then .tuple #[.int .u64 (T.getD i default), .bool true] else .tuple #[.int .u64 0, .bool false]

set_option maxRecDepth 100000 in
set_option maxHeartbeats 4000000 in
theorem Elem_any {H : Heap} {g : Nat} {mp tv gv : Value} {m : Md} {bs tl gl : List Int} (is : IS H g mp tv gv m bs tl gl) (i : Nat) (hi : i ≤ 4294967295) (hn : tl.length ≤ 1048576) : Ct Try.prog 9 [.pointer (some ⟨g, 0, none⟩), .int .u32 (i : Nat)] H (fun u H' => u = elV tl i ∧ H = H') := by
  refine Ct.mk Try.func9 rfl Try.ntmps9 rfl ?_
  intro W0 hW0
  have o0 : Old H H := Old.refl H
  have bi := is.b
  have hst := is.t.sl (emptyOld _) (by decide)
  have hsg := is.gl.sl (emptyOld _) (by decide)
  have htl := hst.len
  have hgl := hsg.len
  refine KC.seq ?_
  refine KC.region ?_
  refine KL.op (R.assign rfl rfl) rfl rfl rfl ?_
  refine KL.op (R.assign rfl rfl) rfl rfl rfl ?_
  refine KL.op (R.assign rfl rfl) rfl rfl rfl ?_
  refine KL.nil ?_
  refine KQ.seq ?_
  refine KC.seq ?_
  refine KC.seq ?_
  refine KC.region ?_
  refine KL.op (R.move rfl rfl) rfl rfl rfl ?_
  refine KL.op (R.eqlP rfl Try.underlying36 rfl rfl) rfl rfl rfl ?_
  refine KL.op (R.move rfl rfl) rfl rfl rfl ?_
  refine KL.op (R.move rfl rfl) rfl rfl rfl ?_
  refine KL.op (R.convI rfl Try.underlying28 Try.underlying39 rfl (by dsimp only [InR]; omega)) rfl rfl rfl ?_
  refine KL.op (R.move rfl rfl) rfl rfl rfl ?_
  refine KL.op (R.nilCheck rfl rfl) rfl rfl rfl ?_
  refine KL.op ((by first | exact R.fieldAddr rfl Try.underlying73 rfl rfl sz42 rfl | exact R.fieldAddrP rfl Try.underlying73 rfl rfl sz42 rfl)) rfl rfl rfl ?_
  refine KL.op (R.load rfl Try.underlying42 rfl rfl (by first | exact cell_of bi rfl | assumption)) rfl rfl rfl ?_
  refine KL.op (R.lenO rfl Try.underlying42 rfl is.t) rfl rfl rfl ?_
  refine KL.op (R.convI rfl Try.underlying3 Try.underlying39 rfl (by dsimp only [InR]; omega)) rfl rfl rfl ?_
  refine KL.op (R.geq rfl rfl rfl) rfl rfl rfl ?_
  refine KL.op (R.pick rfl rfl rfl) rfl rfl rfl ?_
  refine KL.nil ?_
  refine KQ.seq ?_
  refine KC.iteL rfl ?_ ?_
  · intro hc19
    try simp only [decide_eq_true_eq, decide_eq_false_iff_not, Bool.not_eq_true', Bool.not_eq_false', Bool.and_eq_true, Bool.or_eq_false_iff] at hc19
    refine KC.seq ?_
    refine KC.region ?_
    refine KL.op (R.assign rfl rfl) rfl rfl rfl ?_
    refine KL.op (R.assign rfl rfl) rfl rfl rfl ?_
    refine KL.op (R.assign rfl rfl) rfl rfl rfl ?_
    refine KL.nil ?_
    refine KQ.seq ?_
    refine KC.ret ?_
    refine KQ.retThen ?_
    refine KQ.ofRet ?_
    refine KQ.fin3 Try.results9 rfl rfl rfl ?_
    refine ⟨?_, rfl⟩
    unfold elV
    first
      | rw [if_neg (by omega)]
      | rw [if_pos (by omega), if_pos (by assumption)]
      | rw [if_pos (by omega), if_neg (by assumption)]
  · intro hc19
    try simp only [decide_eq_true_eq, decide_eq_false_iff_not, Bool.not_eq_true', Bool.not_eq_false', Bool.and_eq_true, Bool.or_eq_false_iff] at hc19
    refine KC.skip ?_
    refine KQ.seq ?_
    refine KC.seq ?_
    refine KC.seq ?_
    refine KC.region ?_
    refine KL.op (R.move rfl rfl) rfl rfl rfl ?_
    refine KL.op (R.nilCheck rfl rfl) rfl rfl rfl ?_
    refine KL.op ((by first | exact R.fieldAddr rfl Try.underlying73 rfl rfl sz42 rfl | exact R.fieldAddrP rfl Try.underlying73 rfl rfl sz42 rfl)) rfl rfl rfl ?_
    refine KL.op (R.load rfl Try.underlying42 rfl rfl (by first | exact cell_of bi rfl | assumption)) rfl rfl rfl ?_
    refine KL.op (R.move rfl rfl) rfl rfl rfl ?_
    refine KL.op (R.index1 (j := i) rfl Try.underlying42 sz2 rfl rfl hst rfl (by omega)) rfl rfl rfl ?_
    refine KL.op (R.load rfl Try.underlying2 rfl rfl (hst.int i (by omega)).1) rfl rfl rfl ?_
    refine KL.op (R.eql rfl rfl rfl) rfl rfl rfl ?_
    refine KL.nil ?_
    refine KQ.seq ?_
    refine KC.iteL rfl ?_ ?_
    · intro hc27
      try simp only [decide_eq_true_eq, decide_eq_false_iff_not, Bool.not_eq_true', Bool.not_eq_false', Bool.and_eq_true, Bool.or_eq_false_iff] at hc27
      refine KC.seq ?_
      refine KC.region ?_
      refine KL.op (R.assign rfl rfl) rfl rfl rfl ?_
      refine KL.op (R.assign rfl rfl) rfl rfl rfl ?_
      refine KL.op (R.assign rfl rfl) rfl rfl rfl ?_
      refine KL.nil ?_
      refine KQ.seq ?_
      refine KC.ret ?_
      refine KQ.retThen ?_
      refine KQ.ofRet ?_
      refine KQ.fin3 Try.results9 rfl rfl rfl ?_
      refine ⟨?_, rfl⟩
      unfold elV
      first
        | rw [if_neg (by omega)]
        | rw [if_pos (by omega), if_pos (by assumption)]
        | rw [if_pos (by omega), if_neg (by assumption)]
    · intro hc27
      try simp only [decide_eq_true_eq, decide_eq_false_iff_not, Bool.not_eq_true', Bool.not_eq_false', Bool.and_eq_true, Bool.or_eq_false_iff] at hc27
      refine KC.skip ?_
      refine KQ.seq ?_
      refine KC.seq ?_
      refine KC.region ?_
      refine KL.op (R.move rfl rfl) rfl rfl rfl ?_
      refine KL.op (R.nilCheck rfl rfl) rfl rfl rfl ?_
      refine KL.op ((by first | exact R.fieldAddr rfl Try.underlying73 rfl rfl sz42 rfl | exact R.fieldAddrP rfl Try.underlying73 rfl rfl sz42 rfl)) rfl rfl rfl ?_
      refine KL.op (R.load rfl Try.underlying42 rfl rfl (by first | exact cell_of bi rfl | assumption)) rfl rfl rfl ?_
      refine KL.op (R.move rfl rfl) rfl rfl rfl ?_
      refine KL.op (R.index1 (j := i) rfl Try.underlying42 sz2 rfl rfl hst rfl (by omega)) rfl rfl rfl ?_
      refine KL.op (R.load rfl Try.underlying2 rfl rfl (hst.int i (by omega)).1) rfl rfl rfl ?_
      refine KL.op (R.convW rfl Try.underlying2 Try.underlying28 rfl) rfl rfl rfl ?_
      refine KL.op (R.assign rfl rfl) rfl rfl rfl ?_
      refine KL.op (R.assign rfl rfl) rfl rfl rfl ?_
      refine KL.op (R.assign rfl rfl) rfl rfl rfl ?_
      refine KL.nil ?_
      refine KQ.seq ?_
      refine KC.ret ?_
      refine KQ.ofRet ?_
      refine KQ.fin3 Try.results9 rfl rfl rfl ?_
      refine ⟨?_, rfl⟩
      unfold elV
      first
        | rw [if_neg (by omega)]
        | rw [if_pos (by omega), if_pos (by assumption)]
        | rw [if_pos (by omega), if_neg (by assumption)]

set_option maxRecDepth 100000 in
set_option maxHeartbeats 4000000 in
theorem Elem_nil {H : Heap} (i : Nat) : Ct Try.prog 9 [.pointer none, .int .u32 (i : Nat)] H (fun u H' => u = .tuple #[.int .u32 0, .bool false, .bool false] ∧ H = H') := by
  refine Ct.mk Try.func9 rfl Try.ntmps9 rfl ?_
  intro W0 hW0
  have o0 : Old H H := Old.refl H
  refine KC.seq ?_
  refine KC.region ?_
  refine KL.op (R.assign rfl rfl) rfl rfl rfl ?_
  refine KL.op (R.assign rfl rfl) rfl rfl rfl ?_
  refine KL.op (R.assign rfl rfl) rfl rfl rfl ?_
  refine KL.nil ?_
  refine KQ.seq ?_
  refine KC.seq ?_
  refine KC.seq ?_
  refine KC.region ?_
  refine KL.op (R.move rfl rfl) rfl rfl rfl ?_
  refine KL.op (R.eqlP rfl Try.underlying36 rfl rfl) rfl rfl rfl ?_
  refine KL.op (R.move rfl rfl) rfl rfl rfl ?_
  refine KL.skip rfl rfl rfl ?_
  refine KL.skip rfl rfl rfl ?_
  refine KL.skip rfl rfl rfl ?_
  refine KL.skip rfl rfl rfl ?_
  refine KL.skip rfl rfl rfl ?_
  refine KL.skip rfl rfl rfl ?_
  refine KL.skip rfl rfl rfl ?_
  refine KL.skip rfl rfl rfl ?_
  refine KL.skip rfl rfl rfl ?_
  refine KL.op (R.pick rfl rfl rfl) rfl rfl rfl ?_
  refine KL.nil ?_
  refine KQ.seq ?_
  refine KC.condT rfl ?_
  refine KC.seq ?_
  refine KC.region ?_
  refine KL.op (R.assign rfl rfl) rfl rfl rfl ?_
  refine KL.op (R.assign rfl rfl) rfl rfl rfl ?_
  refine KL.op (R.assign rfl rfl) rfl rfl rfl ?_
  refine KL.nil ?_
  refine KQ.seq ?_
  refine KC.ret ?_
  refine KQ.retThen ?_
  refine KQ.ofRet ?_
  refine KQ.fin3 Try.results9 rfl rfl rfl ?_
  exact ⟨rfl, rfl⟩

set_option maxRecDepth 100000 in
set_option maxHeartbeats 4000000 in
theorem Mem_any {H : Heap} {g : Nat} {mp tv gv : Value} {m : Md} {bs tl gl : List Int} (is : IS H g mp tv gv m bs tl gl) : Ct Try.prog 10 [.pointer (some ⟨g, 0, none⟩)] H (fun u H' => u = mp ∧ H = H') := by
  refine Ct.mk Try.func10 rfl Try.ntmps10 rfl ?_
  intro W0 hW0
  have o0 : Old H H := Old.refl H
  have bi := is.b
  have hst := is.t.sl (emptyOld _) (by decide)
  have hsg := is.gl.sl (emptyOld _) (by decide)
  have htl := hst.len
  have hgl := hsg.len
  refine KC.seq ?_
  refine KC.region ?_
  refine KL.op (R.assign rfl rfl) rfl rfl rfl ?_
  refine KL.nil ?_
  refine KQ.seq ?_
  refine KC.seq ?_
  refine KC.seq ?_
  refine KC.region ?_
  refine KL.op (R.move rfl rfl) rfl rfl rfl ?_
  refine KL.op (R.eqlP rfl Try.underlying36 rfl rfl) rfl rfl rfl ?_
  refine KL.nil ?_
  refine KQ.seq ?_
  refine KC.condF rfl ?_
  refine KC.skip ?_
  refine KQ.seq ?_
  refine KC.seq ?_
  refine KC.region ?_
  refine KL.op (R.move rfl rfl) rfl rfl rfl ?_
  refine KL.op (R.nilCheck rfl rfl) rfl rfl rfl ?_
  refine KL.op ((by first | exact R.fieldAddr rfl Try.underlying73 rfl rfl sz51 rfl | exact R.fieldAddrP rfl Try.underlying73 rfl rfl sz51 rfl)) rfl rfl rfl ?_
  refine KL.op (R.load rfl Try.underlying51 rfl rfl (by first | exact cell_of bi rfl | assumption)) rfl rfl rfl ?_
  refine KL.op (R.assign rfl rfl) rfl rfl rfl ?_
  refine KL.nil ?_
  refine KQ.seq ?_
  refine KC.ret ?_
  refine KQ.ofRet ?_
  refine KQ.fin1 Try.results10 rfl ?_
  exact ⟨rfl, rfl⟩

set_option maxRecDepth 100000 in
set_option maxHeartbeats 4000000 in
theorem Mem_nil {H : Heap} : Ct Try.prog 10 [.pointer none] H (fun u H' => u = .pointer none ∧ H = H') := by
  refine Ct.mk Try.func10 rfl Try.ntmps10 rfl ?_
  intro W0 hW0
  have o0 : Old H H := Old.refl H
  refine KC.seq ?_
  refine KC.region ?_
  refine KL.op (R.assign rfl rfl) rfl rfl rfl ?_
  refine KL.nil ?_
  refine KQ.seq ?_
  refine KC.seq ?_
  refine KC.seq ?_
  refine KC.region ?_
  refine KL.op (R.move rfl rfl) rfl rfl rfl ?_
  refine KL.op (R.eqlP rfl Try.underlying36 rfl rfl) rfl rfl rfl ?_
  refine KL.nil ?_
  refine KQ.seq ?_
  refine KC.condT rfl ?_
  refine KC.seq ?_
  refine KC.region ?_
  refine KL.op (R.assign rfl rfl) rfl rfl rfl ?_
  refine KL.nil ?_
  refine KQ.seq ?_
  refine KC.ret ?_
  refine KQ.retThen ?_
  refine KQ.ofRet ?_
  refine KQ.fin1 Try.results10 rfl ?_
  exact ⟨rfl, rfl⟩

set_option maxRecDepth 100000 in
set_option maxHeartbeats 4000000 in
theorem Global_any {H : Heap} {g : Nat} {mp tv gv : Value} {m : Md} {bs tl gl : List Int} (is : IS H g mp tv gv m bs tl gl) (i : Nat) (hi : i ≤ 4294967295) (hn : gl.length ≤ 1048576) : Ct Try.prog 14 [.pointer (some ⟨g, 0, none⟩), .int .u32 (i : Nat)] H (fun u H' => u = glV gl i ∧ H = H') := by
  refine Ct.mk Try.func14 rfl Try.ntmps14 rfl ?_
  intro W0 hW0
  have o0 : Old H H := Old.refl H
  have bi := is.b
  have hst := is.t.sl (emptyOld _) (by decide)
  have hsg := is.gl.sl (emptyOld _) (by decide)
  have htl := hst.len
  have hgl := hsg.len
  refine KC.seq ?_
  refine KC.region ?_
  refine KL.op (R.assign rfl rfl) rfl rfl rfl ?_
  refine KL.op (R.assign rfl rfl) rfl rfl rfl ?_
  refine KL.nil ?_
  refine KQ.seq ?_
  refine KC.seq ?_
  refine KC.seq ?_
  refine KC.region ?_
  refine KL.op (R.move rfl rfl) rfl rfl rfl ?_
  refine KL.op (R.eqlP rfl Try.underlying36 rfl rfl) rfl rfl rfl ?_
  refine KL.op (R.move rfl rfl) rfl rfl rfl ?_
  refine KL.op (R.move rfl rfl) rfl rfl rfl ?_
  refine KL.op (R.convI rfl Try.underlying28 Try.underlying39 rfl (by dsimp only [InR]; omega)) rfl rfl rfl ?_
  refine KL.op (R.move rfl rfl) rfl rfl rfl ?_
  refine KL.op (R.nilCheck rfl rfl) rfl rfl rfl ?_
  refine KL.op ((by first | exact R.fieldAddr rfl Try.underlying73 rfl rfl sz71 rfl | exact R.fieldAddrP rfl Try.underlying73 rfl rfl sz71 rfl)) rfl rfl rfl ?_
  refine KL.op (R.load rfl Try.underlying71 rfl rfl (by first | exact cell_of bi rfl | assumption)) rfl rfl rfl ?_
  refine KL.op (R.lenO rfl Try.underlying71 rfl is.gl) rfl rfl rfl ?_
  refine KL.op (R.convI rfl Try.underlying3 Try.underlying39 rfl (by dsimp only [InR]; omega)) rfl rfl rfl ?_
  refine KL.op (R.geq rfl rfl rfl) rfl rfl rfl ?_
  refine KL.op (R.pick rfl rfl rfl) rfl rfl rfl ?_
  refine KL.nil ?_
  refine KQ.seq ?_
  refine KC.iteL rfl ?_ ?_
  · intro hc18
    try simp only [decide_eq_true_eq, decide_eq_false_iff_not, Bool.not_eq_true', Bool.not_eq_false', Bool.and_eq_true, Bool.or_eq_false_iff] at hc18
    refine KC.seq ?_
    refine KC.region ?_
    refine KL.op (R.assign rfl rfl) rfl rfl rfl ?_
    refine KL.op (R.assign rfl rfl) rfl rfl rfl ?_
    refine KL.nil ?_
    refine KQ.seq ?_
    refine KC.ret ?_
    refine KQ.retThen ?_
    refine KQ.ofRet ?_
    refine KQ.fin2 Try.results14 rfl rfl ?_
    refine ⟨?_, rfl⟩
    unfold glV
    first
      | rw [if_neg (by omega)]
      | rw [if_pos (by omega)]
  · intro hc18
    try simp only [decide_eq_true_eq, decide_eq_false_iff_not, Bool.not_eq_true', Bool.not_eq_false', Bool.and_eq_true, Bool.or_eq_false_iff] at hc18
    refine KC.skip ?_
    refine KQ.seq ?_
    refine KC.seq ?_
    refine KC.region ?_
    refine KL.op (R.move rfl rfl) rfl rfl rfl ?_
    refine KL.op (R.nilCheck rfl rfl) rfl rfl rfl ?_
    refine KL.op ((by first | exact R.fieldAddr rfl Try.underlying73 rfl rfl sz71 rfl | exact R.fieldAddrP rfl Try.underlying73 rfl rfl sz71 rfl)) rfl rfl rfl ?_
    refine KL.op (R.load rfl Try.underlying71 rfl rfl (by first | exact cell_of bi rfl | assumption)) rfl rfl rfl ?_
    refine KL.op (R.move rfl rfl) rfl rfl rfl ?_
    refine KL.op (R.index1 (j := i) rfl Try.underlying71 sz39 rfl rfl hsg rfl (by omega)) rfl rfl rfl ?_
    refine KL.op (R.load rfl Try.underlying39 rfl rfl (hsg.int i (by omega)).1) rfl rfl rfl ?_
    refine KL.op (R.assign rfl rfl) rfl rfl rfl ?_
    refine KL.op (R.assign rfl rfl) rfl rfl rfl ?_
    refine KL.nil ?_
    refine KQ.seq ?_
    refine KC.ret ?_
    refine KQ.ofRet ?_
    refine KQ.fin2 Try.results14 rfl rfl ?_
    refine ⟨?_, rfl⟩
    unfold glV
    first
      | rw [if_neg (by omega)]
      | rw [if_pos (by omega)]

set_option maxRecDepth 100000 in
set_option maxHeartbeats 4000000 in
theorem Global_nil {H : Heap} (i : Int) : Ct Try.prog 14 [.pointer none, .int .u32 i] H (fun u H' => u = .tuple #[.int .u64 0, .bool false] ∧ H = H') := by
  refine Ct.mk Try.func14 rfl Try.ntmps14 rfl ?_
  intro W0 hW0
  have o0 : Old H H := Old.refl H
  refine KC.seq ?_
  refine KC.region ?_
  refine KL.op (R.assign rfl rfl) rfl rfl rfl ?_
  refine KL.op (R.assign rfl rfl) rfl rfl rfl ?_
  refine KL.nil ?_
  refine KQ.seq ?_
  refine KC.seq ?_
  refine KC.seq ?_
  refine KC.region ?_
  refine KL.op (R.move rfl rfl) rfl rfl rfl ?_
  refine KL.op (R.eqlP rfl Try.underlying36 rfl rfl) rfl rfl rfl ?_
  refine KL.op (R.move rfl rfl) rfl rfl rfl ?_
  refine KL.skip rfl rfl rfl ?_
  refine KL.skip rfl rfl rfl ?_
  refine KL.skip rfl rfl rfl ?_
  refine KL.skip rfl rfl rfl ?_
  refine KL.skip rfl rfl rfl ?_
  refine KL.skip rfl rfl rfl ?_
  refine KL.skip rfl rfl rfl ?_
  refine KL.skip rfl rfl rfl ?_
  refine KL.skip rfl rfl rfl ?_
  refine KL.op (R.pick rfl rfl rfl) rfl rfl rfl ?_
  refine KL.nil ?_
  refine KQ.seq ?_
  refine KC.condT rfl ?_
  refine KC.seq ?_
  refine KC.region ?_
  refine KL.op (R.assign rfl rfl) rfl rfl rfl ?_
  refine KL.op (R.assign rfl rfl) rfl rfl rfl ?_
  refine KL.nil ?_
  refine KQ.seq ?_
  refine KC.ret ?_
  refine KQ.retThen ?_
  refine KQ.ofRet ?_
  refine KQ.fin2 Try.results14 rfl rfl ?_
  exact ⟨rfl, rfl⟩

set_option maxRecDepth 100000 in
set_option maxHeartbeats 4000000 in
theorem Set_nil {H : Heap} (i x : Int) : Ct Try.prog 15 [.pointer none, .int .u32 i, .int .u64 x] H (fun u H' => u = .bool false ∧ H = H') := by
  refine Ct.mk Try.func15 rfl Try.ntmps15 rfl ?_
  intro W0 hW0
  have o0 : Old H H := Old.refl H
  refine KC.seq ?_
  refine KC.region ?_
  refine KL.op (R.assign rfl rfl) rfl rfl rfl ?_
  refine KL.nil ?_
  refine KQ.seq ?_
  refine KC.seq ?_
  refine KC.seq ?_
  refine KC.region ?_
  refine KL.op (R.move rfl rfl) rfl rfl rfl ?_
  refine KL.op (R.move rfl rfl) rfl rfl rfl ?_
  refine KL.call rfl rfl rfl rfl Try.call14 rfl rfl rfl (Global_nil i) ?_
  rintro _ _ ⟨rfl, rfl⟩
  refine KL.op (R.move rfl rfl) rfl rfl rfl ?_
  refine KL.op (R.extract rfl rfl rfl) rfl rfl rfl ?_
  refine KL.op (R.extract rfl rfl rfl) rfl rfl rfl ?_
  refine KL.op (R.assign rfl rfl) rfl rfl rfl ?_
  refine KL.op (R.assign rfl rfl) rfl rfl rfl ?_
  refine KL.nil ?_
  refine KQ.seq ?_
  refine KC.seq ?_
  refine KC.region ?_
  refine KL.op (R.move rfl rfl) rfl rfl rfl ?_
  refine KL.op ((R.not rfl rfl).val (show _ = Value.bool true from rfl)) rfl rfl rfl ?_
  refine KL.nil ?_
  refine KQ.seq ?_
  refine KC.condT rfl ?_
  refine KC.seq ?_
  refine KC.region ?_
  refine KL.op (R.assign rfl rfl) rfl rfl rfl ?_
  refine KL.nil ?_
  refine KQ.seq ?_
  refine KC.ret ?_
  refine KQ.retThen ?_
  refine KQ.ofRet ?_
  refine KQ.fin1 Try.results15 rfl ?_
  exact ⟨rfl, rfl⟩

set_option maxRecDepth 100000 in
set_option maxHeartbeats 4000000 in
theorem CopyI_nil {H : Heap} : Ct Try.prog 16 [.pointer none] H (fun u H' => u = .pointer none ∧ H = H') := by
  refine Ct.mk Try.func16 rfl Try.ntmps16 rfl ?_
  intro W0 hW0
  have o0 : Old H H := Old.refl H
  refine KC.seq ?_
  refine KC.region ?_
  refine KL.op (R.assign rfl rfl) rfl rfl rfl ?_
  refine KL.nil ?_
  refine KQ.seq ?_
  refine KC.seq ?_
  refine KC.seq ?_
  refine KC.region ?_
  refine KL.op (R.move rfl rfl) rfl rfl rfl ?_
  refine KL.op (R.eqlP rfl Try.underlying36 rfl rfl) rfl rfl rfl ?_
  refine KL.nil ?_
  refine KQ.seq ?_
  refine KC.condT rfl ?_
  refine KC.seq ?_
  refine KC.region ?_
  refine KL.op (R.assign rfl rfl) rfl rfl rfl ?_
  refine KL.nil ?_
  refine KQ.seq ?_
  refine KC.ret ?_
  refine KQ.retThen ?_
  refine KQ.ofRet ?_
  refine KQ.fin1 Try.results16 rfl ?_
  exact ⟨rfl, rfl⟩

set_option maxRecDepth 100000 in
set_option maxHeartbeats 4000000 in
theorem Get_nilO {H : Heap} (at_ n : Int) (r2 : InR .u32 at_) (r3 : InR .u32 n) : Ct Try.prog 11 [.pointer none, .int .u32 at_, .int .u32 n] H (fun r H' => ∃ x, r = .tuple #[x, .bool false] ∧ Own 1 (EInt .u8) 5 #[] H.size H' x [] ∧ Old H H') := by
  refine Ct.mk Try.func11 rfl Try.ntmps11 rfl ?_
  intro W0 hW0
  have o0 : Old H H := Old.refl H
  dsimp only [InR] at r2 r3
  refine KC.seq ?_
  refine KC.region ?_
  refine KL.op (R.assign rfl rfl) rfl rfl rfl ?_
  refine KL.op (R.assign rfl rfl) rfl rfl rfl ?_
  refine KL.nil ?_
  refine KQ.seq ?_
  refine KC.seq ?_
  refine KC.region ?_
  refine KL.op (R.move rfl rfl) rfl rfl rfl ?_
  refine KL.op (R.move rfl rfl) rfl rfl rfl ?_
  refine KL.op (R.convI rfl Try.underlying28 Try.underlying39 rfl (by dsimp only [InR]; omega)) rfl rfl rfl ?_
  refine KL.op (R.move rfl rfl) rfl rfl rfl ?_
  refine KL.op (R.convI rfl Try.underlying28 Try.underlying39 rfl (by dsimp only [InR]; omega)) rfl rfl rfl ?_
  refine KL.call rfl rfl rfl rfl Try.call19 rfl rfl rfl (part_nil _ _) ?_
  rintro _ _ ⟨rfl, rfl⟩
  refine KL.op (R.move rfl rfl) rfl rfl rfl ?_
  refine KL.op (R.extract rfl rfl rfl) rfl rfl rfl ?_
  refine KL.op (R.extract rfl rfl rfl) rfl rfl rfl ?_
  refine KL.op (R.assign rfl rfl) rfl rfl rfl ?_
  refine KL.op (R.assign rfl rfl) rfl rfl rfl ?_
  refine KL.nil ?_
  refine KQ.seq ?_
  refine KC.seq ?_
  refine KC.region ?_
  refine KL.op (R.move rfl rfl) rfl rfl rfl ?_
  refine KL.call rfl rfl rfl rfl Try.call20 rfl rfl rfl (Clone_any _ _ (Sl.nil _ _ _) (by simp)) ?_
  rintro x H1 ⟨wx, ox⟩
  have zc_H1 := (ox).1
  have o0 := o0.trans ox
  refine KL.op (R.move rfl rfl) rfl rfl rfl ?_
  refine KL.op (R.assign rfl rfl) rfl rfl rfl ?_
  refine KL.op (R.assign rfl rfl) rfl rfl rfl ?_
  refine KL.nil ?_
  refine KQ.seq ?_
  refine KC.ret ?_
  refine KQ.ofRet ?_
  refine KQ.fin2 Try.results11 rfl rfl ?_
  exact ⟨_, rfl, wx, o0⟩


theorem get_is {H : Heap} {g : Nat} {mp tv gv : Value} {m : Md} {bs tl gl : List Int} (is : IS H g mp tv gv m bs tl gl) (hl : (bs.length : Int) = pages m * 65536) (a n : Int) (r2 : InR .u32 a) (r3 : InR .u32 n) : Ct Try.prog 11 [mp, .int .u32 a, .int .u32 n] H (fun r H' => ∃ x b, r = .tuple #[x, .bool b] ∧ Own 1 (EInt .u8) 5 #[] H.size H' x (prtP bs a n) ∧ (m.mems ≠ [] → b = decide (a + n ≤ bs.length)) ∧ Old H H') := by
  rcases is.mm with ⟨h1, rfl⟩ | ⟨_, gm, vm, mo, rfl, q, _⟩
  · refine (Get_nilO a n r2 r3).mono ?_
    rintro _ H' ⟨x, rfl, w, o⟩
    rw [pages_nil h1] at hl
    have : bs = [] := List.eq_nil_of_length_eq_zero (by omega)
    subst this
    have e : prtP [] a n = [] := by unfold prtP prt; simp
    rw [e]
    exact ⟨x, false, rfl, w, fun h => absurd h1 h, o⟩
  · refine (Get_any gm vm bs mo q a n r2 r3).mono ?_
    rintro _ H' ⟨x, rfl, w, o⟩
    exact ⟨x, _, rfl, w, fun _ => rfl, o⟩

end Go.Proofs.Yticnkojpfmkjeaa
