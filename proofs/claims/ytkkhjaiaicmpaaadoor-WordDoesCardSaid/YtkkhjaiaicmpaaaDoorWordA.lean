/- Functions of packages math/bits and word: turned words, the plain operations. No condition. -/
import Derived.Test.YtkkhjaiaicmpaaaDoorWordP
namespace Go.Proofs.YtkkhjaiaicmpaaaDoor
open Go Go.RowKit
set_option linter.unusedVariables false
set_option linter.unusedSimpArgs false
set_option linter.unnecessarySimpa false
set_option maxRecDepth 100000 in
set_option maxHeartbeats 4000000 in
theorem rot32_l {H : Heap} (x r : Int) (hr : 0 ≤ r ∧ r < 32) : Ct Tryd.prog 58 [.int .u32 x, .int .i64 (r)] H (fun u H' => u = .int .u32 (Wd.rot .u32 32 x (r)) ∧ H = H') := by
  refine Ct.mk Tryd.func58 rfl Tryd.ntmps58 rfl ?_
  intro W0 hW0
  have o0 : Old H H := Old.refl H
  have ha : bits .and .u64 (IntKind.u64.wrap (r)) 31 = r := by
    have := Wd.rot_and32 ⟨r.toNat, by omega⟩
    simp only [Int.toNat_of_nonneg hr.1] at this
    rw [Wd.u64nn ⟨by omega, by omega⟩]; exact this.1
  refine KC.seq ?_
  refine KC.region ?_
  refine KL.op (R.assign rfl rfl) rfl rfl rfl ?_
  refine KL.nil ?_
  refine KQ.seq ?_
  refine KC.seq ?_
  refine KC.region ?_
  refine KL.op (R.move rfl rfl) rfl rfl rfl ?_
  refine KL.op (R.convW rfl Tryd.underlying3 Tryd.underlying33 rfl) rfl rfl rfl ?_
  refine KL.op ((R.bits rfl rfl rfl rfl).val (congrArg (Value.int .u64) ha)) rfl rfl rfl ?_
  refine KL.op (R.assign rfl rfl) rfl rfl rfl ?_
  refine KL.nil ?_
  refine KQ.seq ?_
  refine KC.seq ?_
  refine KC.region ?_
  refine KL.op (R.move rfl rfl) rfl rfl rfl ?_
  refine KL.op (R.move rfl rfl) rfl rfl rfl ?_
  refine KL.op (R.shl rfl rfl rfl (by omega)) rfl rfl rfl ?_
  refine KL.op (R.move rfl rfl) rfl rfl rfl ?_
  refine KL.op (R.move rfl rfl) rfl rfl rfl ?_
  refine KL.op (R.sub rfl rfl rfl (by dsimp only [InR]; omega)) rfl rfl rfl ?_
  refine KL.op (R.shr rfl rfl rfl (by omega)) rfl rfl rfl ?_
  refine KL.op (R.bits rfl rfl rfl rfl) rfl rfl rfl ?_
  refine KL.op (R.assign rfl rfl) rfl rfl rfl ?_
  refine KL.nil ?_
  refine KQ.seq ?_
  refine KC.ret ?_
  refine KQ.ofRet ?_
  refine KQ.fin1 Tryd.results58 rfl ?_
  exact ⟨rfl, rfl⟩

set_option maxRecDepth 100000 in
set_option maxHeartbeats 4000000 in
theorem rot32_r {H : Heap} (x r : Int) (hr : 0 ≤ r ∧ r < 32) : Ct Tryd.prog 58 [.int .u32 x, .int .i64 (-r)] H (fun u H' => u = .int .u32 (Wd.rot .u32 32 x ((32 - r) % 32)) ∧ H = H') := by
  refine Ct.mk Tryd.func58 rfl Tryd.ntmps58 rfl ?_
  intro W0 hW0
  have o0 : Old H H := Old.refl H
  have ha : bits .and .u64 (IntKind.u64.wrap (-r)) 31 = (32 - r) % 32 := by
    have := Wd.rot_and32 ⟨r.toNat, by omega⟩
    simp only [Int.toNat_of_nonneg hr.1] at this
    exact this.2
  refine KC.seq ?_
  refine KC.region ?_
  refine KL.op (R.assign rfl rfl) rfl rfl rfl ?_
  refine KL.nil ?_
  refine KQ.seq ?_
  refine KC.seq ?_
  refine KC.region ?_
  refine KL.op (R.move rfl rfl) rfl rfl rfl ?_
  refine KL.op (R.convW rfl Tryd.underlying3 Tryd.underlying33 rfl) rfl rfl rfl ?_
  refine KL.op ((R.bits rfl rfl rfl rfl).val (congrArg (Value.int .u64) ha)) rfl rfl rfl ?_
  refine KL.op (R.assign rfl rfl) rfl rfl rfl ?_
  refine KL.nil ?_
  refine KQ.seq ?_
  refine KC.seq ?_
  refine KC.region ?_
  refine KL.op (R.move rfl rfl) rfl rfl rfl ?_
  refine KL.op (R.move rfl rfl) rfl rfl rfl ?_
  refine KL.op (R.shl rfl rfl rfl (by omega)) rfl rfl rfl ?_
  refine KL.op (R.move rfl rfl) rfl rfl rfl ?_
  refine KL.op (R.move rfl rfl) rfl rfl rfl ?_
  refine KL.op (R.sub rfl rfl rfl (by dsimp only [InR]; omega)) rfl rfl rfl ?_
  refine KL.op (R.shr rfl rfl rfl (by omega)) rfl rfl rfl ?_
  refine KL.op (R.bits rfl rfl rfl rfl) rfl rfl rfl ?_
  refine KL.op (R.assign rfl rfl) rfl rfl rfl ?_
  refine KL.nil ?_
  refine KQ.seq ?_
  refine KC.ret ?_
  refine KQ.ofRet ?_
  refine KQ.fin1 Tryd.results58 rfl ?_
  exact ⟨rfl, rfl⟩

set_option maxRecDepth 100000 in
set_option maxHeartbeats 4000000 in
theorem rot64_l {H : Heap} (x r : Int) (hr : 0 ≤ r ∧ r < 64) : Ct Tryd.prog 59 [.int .u64 x, .int .i64 (r)] H (fun u H' => u = .int .u64 (Wd.rot .u64 64 x (r)) ∧ H = H') := by
  refine Ct.mk Tryd.func59 rfl Tryd.ntmps59 rfl ?_
  intro W0 hW0
  have o0 : Old H H := Old.refl H
  have ha : bits .and .u64 (IntKind.u64.wrap (r)) 63 = r := by
    have := Wd.rot_and64 ⟨r.toNat, by omega⟩
    simp only [Int.toNat_of_nonneg hr.1] at this
    rw [Wd.u64nn ⟨by omega, by omega⟩]; exact this.1
  refine KC.seq ?_
  refine KC.region ?_
  refine KL.op (R.assign rfl rfl) rfl rfl rfl ?_
  refine KL.nil ?_
  refine KQ.seq ?_
  refine KC.seq ?_
  refine KC.region ?_
  refine KL.op (R.move rfl rfl) rfl rfl rfl ?_
  refine KL.op (R.convW rfl Tryd.underlying3 Tryd.underlying33 rfl) rfl rfl rfl ?_
  refine KL.op ((R.bits rfl rfl rfl rfl).val (congrArg (Value.int .u64) ha)) rfl rfl rfl ?_
  refine KL.op (R.assign rfl rfl) rfl rfl rfl ?_
  refine KL.nil ?_
  refine KQ.seq ?_
  refine KC.seq ?_
  refine KC.region ?_
  refine KL.op (R.move rfl rfl) rfl rfl rfl ?_
  refine KL.op (R.move rfl rfl) rfl rfl rfl ?_
  refine KL.op (R.shl rfl rfl rfl (by omega)) rfl rfl rfl ?_
  refine KL.op (R.move rfl rfl) rfl rfl rfl ?_
  refine KL.op (R.move rfl rfl) rfl rfl rfl ?_
  refine KL.op (R.sub rfl rfl rfl (by dsimp only [InR]; omega)) rfl rfl rfl ?_
  refine KL.op (R.shr rfl rfl rfl (by omega)) rfl rfl rfl ?_
  refine KL.op (R.bits rfl rfl rfl rfl) rfl rfl rfl ?_
  refine KL.op (R.assign rfl rfl) rfl rfl rfl ?_
  refine KL.nil ?_
  refine KQ.seq ?_
  refine KC.ret ?_
  refine KQ.ofRet ?_
  refine KQ.fin1 Tryd.results59 rfl ?_
  exact ⟨rfl, rfl⟩

set_option maxRecDepth 100000 in
set_option maxHeartbeats 4000000 in
theorem rot64_r {H : Heap} (x r : Int) (hr : 0 ≤ r ∧ r < 64) : Ct Tryd.prog 59 [.int .u64 x, .int .i64 (-r)] H (fun u H' => u = .int .u64 (Wd.rot .u64 64 x ((64 - r) % 64)) ∧ H = H') := by
  refine Ct.mk Tryd.func59 rfl Tryd.ntmps59 rfl ?_
  intro W0 hW0
  have o0 : Old H H := Old.refl H
  have ha : bits .and .u64 (IntKind.u64.wrap (-r)) 63 = (64 - r) % 64 := by
    have := Wd.rot_and64 ⟨r.toNat, by omega⟩
    simp only [Int.toNat_of_nonneg hr.1] at this
    exact this.2
  refine KC.seq ?_
  refine KC.region ?_
  refine KL.op (R.assign rfl rfl) rfl rfl rfl ?_
  refine KL.nil ?_
  refine KQ.seq ?_
  refine KC.seq ?_
  refine KC.region ?_
  refine KL.op (R.move rfl rfl) rfl rfl rfl ?_
  refine KL.op (R.convW rfl Tryd.underlying3 Tryd.underlying33 rfl) rfl rfl rfl ?_
  refine KL.op ((R.bits rfl rfl rfl rfl).val (congrArg (Value.int .u64) ha)) rfl rfl rfl ?_
  refine KL.op (R.assign rfl rfl) rfl rfl rfl ?_
  refine KL.nil ?_
  refine KQ.seq ?_
  refine KC.seq ?_
  refine KC.region ?_
  refine KL.op (R.move rfl rfl) rfl rfl rfl ?_
  refine KL.op (R.move rfl rfl) rfl rfl rfl ?_
  refine KL.op (R.shl rfl rfl rfl (by omega)) rfl rfl rfl ?_
  refine KL.op (R.move rfl rfl) rfl rfl rfl ?_
  refine KL.op (R.move rfl rfl) rfl rfl rfl ?_
  refine KL.op (R.sub rfl rfl rfl (by dsimp only [InR]; omega)) rfl rfl rfl ?_
  refine KL.op (R.shr rfl rfl rfl (by omega)) rfl rfl rfl ?_
  refine KL.op (R.bits rfl rfl rfl rfl) rfl rfl rfl ?_
  refine KL.op (R.assign rfl rfl) rfl rfl rfl ?_
  refine KL.nil ?_
  refine KQ.seq ?_
  refine KC.ret ?_
  refine KQ.ofRet ?_
  refine KQ.fin1 Tryd.results59 rfl ?_
  exact ⟨rfl, rfl⟩

set_option maxRecDepth 100000 in
set_option maxHeartbeats 4000000 in
theorem w32_add {H : Heap} (a b : Int) (ra : InR .u32 a) (rb : InR .u32 b) : Ct Tryd.prog 31 [.int .u32 a, .int .u32 b] H (fun u H' => u = .int .u32 (Wd.pl .u32 .i32 32 0 a b) ∧ H = H') := by
  refine Ct.mk Tryd.func31 rfl Tryd.ntmps31 rfl ?_
  intro W0 hW0
  have o0 : Old H H := Old.refl H
  dsimp only [InR] at ra rb
  refine KC.seq ?_
  refine KC.region ?_
  refine KL.op (R.assign rfl rfl) rfl rfl rfl ?_
  refine KL.nil ?_
  refine KQ.seq ?_
  refine KC.seq ?_
  refine KC.region ?_
  refine KL.op (R.move rfl rfl) rfl rfl rfl ?_
  refine KL.op (R.move rfl rfl) rfl rfl rfl ?_
  refine KL.op (R.addW rfl rfl rfl) rfl rfl rfl ?_
  refine KL.op (R.assign rfl rfl) rfl rfl rfl ?_
  refine KL.nil ?_
  refine KQ.seq ?_
  refine KC.ret ?_
  refine KQ.ofRet ?_
  refine KQ.fin1 Tryd.results31 rfl ?_
  exact ⟨rfl, rfl⟩

set_option maxRecDepth 100000 in
set_option maxHeartbeats 4000000 in
theorem w32_sub {H : Heap} (a b : Int) (ra : InR .u32 a) (rb : InR .u32 b) : Ct Tryd.prog 32 [.int .u32 a, .int .u32 b] H (fun u H' => u = .int .u32 (Wd.pl .u32 .i32 32 1 a b) ∧ H = H') := by
  refine Ct.mk Tryd.func32 rfl Tryd.ntmps32 rfl ?_
  intro W0 hW0
  have o0 : Old H H := Old.refl H
  dsimp only [InR] at ra rb
  refine KC.seq ?_
  refine KC.region ?_
  refine KL.op (R.assign rfl rfl) rfl rfl rfl ?_
  refine KL.nil ?_
  refine KQ.seq ?_
  refine KC.seq ?_
  refine KC.region ?_
  refine KL.op (R.move rfl rfl) rfl rfl rfl ?_
  refine KL.op (R.move rfl rfl) rfl rfl rfl ?_
  refine KL.op (R.subW rfl rfl rfl) rfl rfl rfl ?_
  refine KL.op (R.assign rfl rfl) rfl rfl rfl ?_
  refine KL.nil ?_
  refine KQ.seq ?_
  refine KC.ret ?_
  refine KQ.ofRet ?_
  refine KQ.fin1 Tryd.results32 rfl ?_
  exact ⟨rfl, rfl⟩

set_option maxRecDepth 100000 in
set_option maxHeartbeats 4000000 in
theorem w32_mul {H : Heap} (a b : Int) (ra : InR .u32 a) (rb : InR .u32 b) : Ct Tryd.prog 33 [.int .u32 a, .int .u32 b] H (fun u H' => u = .int .u32 (Wd.pl .u32 .i32 32 2 a b) ∧ H = H') := by
  refine Ct.mk Tryd.func33 rfl Tryd.ntmps33 rfl ?_
  intro W0 hW0
  have o0 : Old H H := Old.refl H
  dsimp only [InR] at ra rb
  refine KC.seq ?_
  refine KC.region ?_
  refine KL.op (R.assign rfl rfl) rfl rfl rfl ?_
  refine KL.nil ?_
  refine KQ.seq ?_
  refine KC.seq ?_
  refine KC.region ?_
  refine KL.op (R.move rfl rfl) rfl rfl rfl ?_
  refine KL.op (R.move rfl rfl) rfl rfl rfl ?_
  refine KL.op (R.mulW rfl rfl rfl) rfl rfl rfl ?_
  refine KL.op (R.assign rfl rfl) rfl rfl rfl ?_
  refine KL.nil ?_
  refine KQ.seq ?_
  refine KC.ret ?_
  refine KQ.ofRet ?_
  refine KQ.fin1 Tryd.results33 rfl ?_
  exact ⟨rfl, rfl⟩

set_option maxRecDepth 100000 in
set_option maxHeartbeats 4000000 in
theorem w32_and {H : Heap} (a b : Int) (ra : InR .u32 a) (rb : InR .u32 b) : Ct Tryd.prog 34 [.int .u32 a, .int .u32 b] H (fun u H' => u = .int .u32 (Wd.pl .u32 .i32 32 7 a b) ∧ H = H') := by
  refine Ct.mk Tryd.func34 rfl Tryd.ntmps34 rfl ?_
  intro W0 hW0
  have o0 : Old H H := Old.refl H
  dsimp only [InR] at ra rb
  refine KC.seq ?_
  refine KC.region ?_
  refine KL.op (R.assign rfl rfl) rfl rfl rfl ?_
  refine KL.nil ?_
  refine KQ.seq ?_
  refine KC.seq ?_
  refine KC.region ?_
  refine KL.op (R.move rfl rfl) rfl rfl rfl ?_
  refine KL.op (R.move rfl rfl) rfl rfl rfl ?_
  refine KL.op (R.bits rfl rfl rfl rfl) rfl rfl rfl ?_
  refine KL.op (R.assign rfl rfl) rfl rfl rfl ?_
  refine KL.nil ?_
  refine KQ.seq ?_
  refine KC.ret ?_
  refine KQ.ofRet ?_
  refine KQ.fin1 Tryd.results34 rfl ?_
  exact ⟨rfl, rfl⟩

set_option maxRecDepth 100000 in
set_option maxHeartbeats 4000000 in
theorem w32_or {H : Heap} (a b : Int) (ra : InR .u32 a) (rb : InR .u32 b) : Ct Tryd.prog 35 [.int .u32 a, .int .u32 b] H (fun u H' => u = .int .u32 (Wd.pl .u32 .i32 32 8 a b) ∧ H = H') := by
  refine Ct.mk Tryd.func35 rfl Tryd.ntmps35 rfl ?_
  intro W0 hW0
  have o0 : Old H H := Old.refl H
  dsimp only [InR] at ra rb
  refine KC.seq ?_
  refine KC.region ?_
  refine KL.op (R.assign rfl rfl) rfl rfl rfl ?_
  refine KL.nil ?_
  refine KQ.seq ?_
  refine KC.seq ?_
  refine KC.region ?_
  refine KL.op (R.move rfl rfl) rfl rfl rfl ?_
  refine KL.op (R.move rfl rfl) rfl rfl rfl ?_
  refine KL.op (R.bits rfl rfl rfl rfl) rfl rfl rfl ?_
  refine KL.op (R.assign rfl rfl) rfl rfl rfl ?_
  refine KL.nil ?_
  refine KQ.seq ?_
  refine KC.ret ?_
  refine KQ.ofRet ?_
  refine KQ.fin1 Tryd.results35 rfl ?_
  exact ⟨rfl, rfl⟩

set_option maxRecDepth 100000 in
set_option maxHeartbeats 4000000 in
theorem w32_xor {H : Heap} (a b : Int) (ra : InR .u32 a) (rb : InR .u32 b) : Ct Tryd.prog 36 [.int .u32 a, .int .u32 b] H (fun u H' => u = .int .u32 (Wd.pl .u32 .i32 32 9 a b) ∧ H = H') := by
  refine Ct.mk Tryd.func36 rfl Tryd.ntmps36 rfl ?_
  intro W0 hW0
  have o0 : Old H H := Old.refl H
  dsimp only [InR] at ra rb
  refine KC.seq ?_
  refine KC.region ?_
  refine KL.op (R.assign rfl rfl) rfl rfl rfl ?_
  refine KL.nil ?_
  refine KQ.seq ?_
  refine KC.seq ?_
  refine KC.region ?_
  refine KL.op (R.move rfl rfl) rfl rfl rfl ?_
  refine KL.op (R.move rfl rfl) rfl rfl rfl ?_
  refine KL.op (R.bits rfl rfl rfl rfl) rfl rfl rfl ?_
  refine KL.op (R.assign rfl rfl) rfl rfl rfl ?_
  refine KL.nil ?_
  refine KQ.seq ?_
  refine KC.ret ?_
  refine KQ.ofRet ?_
  refine KQ.fin1 Tryd.results36 rfl ?_
  exact ⟨rfl, rfl⟩

set_option maxRecDepth 100000 in
set_option maxHeartbeats 4000000 in
theorem w32_shl {H : Heap} (a b : Int) (ra : InR .u32 a) (rb : InR .u32 b) : Ct Tryd.prog 37 [.int .u32 a, .int .u32 b] H (fun u H' => u = .int .u32 (Wd.pl .u32 .i32 32 10 a b) ∧ H = H') := by
  refine Ct.mk Tryd.func37 rfl Tryd.ntmps37 rfl ?_
  intro W0 hW0
  have o0 : Old H H := Old.refl H
  dsimp only [InR] at ra rb
  refine KC.seq ?_
  refine KC.region ?_
  refine KL.op (R.assign rfl rfl) rfl rfl rfl ?_
  refine KL.nil ?_
  refine KQ.seq ?_
  refine KC.seq ?_
  refine KC.region ?_
  refine KL.op (R.move rfl rfl) rfl rfl rfl ?_
  refine KL.op (R.move rfl rfl) rfl rfl rfl ?_
  refine KL.op (R.rem rfl rfl rfl (by omega) (by omega)) rfl rfl rfl ?_
  refine KL.op (R.shl rfl rfl rfl (by omega)) rfl rfl rfl ?_
  refine KL.op (R.assign rfl rfl) rfl rfl rfl ?_
  refine KL.nil ?_
  refine KQ.seq ?_
  refine KC.ret ?_
  refine KQ.ofRet ?_
  refine KQ.fin1 Tryd.results37 rfl ?_
  exact ⟨rfl, rfl⟩

set_option maxRecDepth 100000 in
set_option maxHeartbeats 4000000 in
theorem w32_shrS {H : Heap} (a b : Int) (ra : InR .u32 a) (rb : InR .u32 b) : Ct Tryd.prog 38 [.int .u32 a, .int .u32 b] H (fun u H' => u = .int .u32 (Wd.pl .u32 .i32 32 11 a b) ∧ H = H') := by
  refine Ct.mk Tryd.func38 rfl Tryd.ntmps38 rfl ?_
  intro W0 hW0
  have o0 : Old H H := Old.refl H
  dsimp only [InR] at ra rb
  refine KC.seq ?_
  refine KC.region ?_
  refine KL.op (R.assign rfl rfl) rfl rfl rfl ?_
  refine KL.nil ?_
  refine KQ.seq ?_
  refine KC.seq ?_
  refine KC.region ?_
  refine KL.op (R.move rfl rfl) rfl rfl rfl ?_
  refine KL.op (R.convW rfl Tryd.underlying39 Tryd.underlying21 rfl) rfl rfl rfl ?_
  refine KL.op (R.move rfl rfl) rfl rfl rfl ?_
  refine KL.op (R.rem rfl rfl rfl (by omega) (by omega)) rfl rfl rfl ?_
  refine KL.op (R.shr rfl rfl rfl (by omega)) rfl rfl rfl ?_
  refine KL.op (R.convW rfl Tryd.underlying21 Tryd.underlying39 rfl) rfl rfl rfl ?_
  refine KL.op (R.assign rfl rfl) rfl rfl rfl ?_
  refine KL.nil ?_
  refine KQ.seq ?_
  refine KC.ret ?_
  refine KQ.ofRet ?_
  refine KQ.fin1 Tryd.results38 rfl ?_
  exact ⟨rfl, rfl⟩

set_option maxRecDepth 100000 in
set_option maxHeartbeats 4000000 in
theorem w32_shrU {H : Heap} (a b : Int) (ra : InR .u32 a) (rb : InR .u32 b) : Ct Tryd.prog 39 [.int .u32 a, .int .u32 b] H (fun u H' => u = .int .u32 (Wd.pl .u32 .i32 32 12 a b) ∧ H = H') := by
  refine Ct.mk Tryd.func39 rfl Tryd.ntmps39 rfl ?_
  intro W0 hW0
  have o0 : Old H H := Old.refl H
  dsimp only [InR] at ra rb
  refine KC.seq ?_
  refine KC.region ?_
  refine KL.op (R.assign rfl rfl) rfl rfl rfl ?_
  refine KL.nil ?_
  refine KQ.seq ?_
  refine KC.seq ?_
  refine KC.region ?_
  refine KL.op (R.move rfl rfl) rfl rfl rfl ?_
  refine KL.op (R.move rfl rfl) rfl rfl rfl ?_
  refine KL.op (R.rem rfl rfl rfl (by omega) (by omega)) rfl rfl rfl ?_
  refine KL.op (R.shr rfl rfl rfl (by omega)) rfl rfl rfl ?_
  refine KL.op (R.assign rfl rfl) rfl rfl rfl ?_
  refine KL.nil ?_
  refine KQ.seq ?_
  refine KC.ret ?_
  refine KQ.ofRet ?_
  refine KQ.fin1 Tryd.results39 rfl ?_
  exact ⟨rfl, rfl⟩

set_option maxRecDepth 100000 in
set_option maxHeartbeats 4000000 in
theorem w32_rotl {H : Heap} (a b : Int) (ra : InR .u32 a) (rb : InR .u32 b) : Ct Tryd.prog 40 [.int .u32 a, .int .u32 b] H (fun u H' => u = .int .u32 (Wd.pl .u32 .i32 32 13 a b) ∧ H = H') := by
  refine Ct.mk Tryd.func40 rfl Tryd.ntmps40 rfl ?_
  intro W0 hW0
  have o0 : Old H H := Old.refl H
  dsimp only [InR] at ra rb
  refine KC.seq ?_
  refine KC.region ?_
  refine KL.op (R.assign rfl rfl) rfl rfl rfl ?_
  refine KL.nil ?_
  refine KQ.seq ?_
  refine KC.seq ?_
  refine KC.region ?_
  refine KL.op (R.move rfl rfl) rfl rfl rfl ?_
  refine KL.op (R.move rfl rfl) rfl rfl rfl ?_
  refine KL.op (R.rem rfl rfl rfl (by omega) (by omega)) rfl rfl rfl ?_
  refine KL.op (R.convI rfl Tryd.underlying39 Tryd.underlying3 rfl (by dsimp only [InR]; omega)) rfl rfl rfl ?_
  refine KL.call rfl rfl rfl rfl Tryd.call58 rfl rfl rfl (rot32_l _ _ (by omega)) ?_
  rintro _ _ ⟨rfl, rfl⟩
  refine KL.op (R.assign rfl rfl) rfl rfl rfl ?_
  refine KL.nil ?_
  refine KQ.seq ?_
  refine KC.ret ?_
  refine KQ.ofRet ?_
  refine KQ.fin1 Tryd.results40 rfl ?_
  exact ⟨rfl, rfl⟩

set_option maxRecDepth 100000 in
set_option maxHeartbeats 4000000 in
theorem w32_rotr {H : Heap} (a b : Int) (ra : InR .u32 a) (rb : InR .u32 b) : Ct Tryd.prog 41 [.int .u32 a, .int .u32 b] H (fun u H' => u = .int .u32 (Wd.pl .u32 .i32 32 14 a b) ∧ H = H') := by
  refine Ct.mk Tryd.func41 rfl Tryd.ntmps41 rfl ?_
  intro W0 hW0
  have o0 : Old H H := Old.refl H
  dsimp only [InR] at ra rb
  refine KC.seq ?_
  refine KC.region ?_
  refine KL.op (R.assign rfl rfl) rfl rfl rfl ?_
  refine KL.nil ?_
  refine KQ.seq ?_
  refine KC.seq ?_
  refine KC.region ?_
  refine KL.op (R.move rfl rfl) rfl rfl rfl ?_
  refine KL.op (R.move rfl rfl) rfl rfl rfl ?_
  refine KL.op (R.rem rfl rfl rfl (by omega) (by omega)) rfl rfl rfl ?_
  refine KL.op (R.convI rfl Tryd.underlying39 Tryd.underlying3 rfl (by dsimp only [InR]; omega)) rfl rfl rfl ?_
  refine KL.op ((R.neg rfl rfl).val (congrArg (Value.int .i64) (Wd.neg64 (by omega)))) rfl rfl rfl ?_
  refine KL.call rfl rfl rfl rfl Tryd.call58 rfl rfl rfl (rot32_r _ _ (by omega)) ?_
  rintro _ _ ⟨rfl, rfl⟩
  refine KL.op (R.assign rfl rfl) rfl rfl rfl ?_
  refine KL.nil ?_
  refine KQ.seq ?_
  refine KC.ret ?_
  refine KQ.ofRet ?_
  refine KQ.fin1 Tryd.results41 rfl ?_
  exact ⟨rfl, rfl⟩

set_option maxRecDepth 100000 in
set_option maxHeartbeats 4000000 in
theorem w64_add {H : Heap} (a b : Int) (ra : InR .u64 a) (rb : InR .u64 b) : Ct Tryd.prog 42 [.int .u64 a, .int .u64 b] H (fun u H' => u = .int .u64 (Wd.pl .u64 .i64 64 0 a b) ∧ H = H') := by
  refine Ct.mk Tryd.func42 rfl Tryd.ntmps42 rfl ?_
  intro W0 hW0
  have o0 : Old H H := Old.refl H
  dsimp only [InR] at ra rb
  refine KC.seq ?_
  refine KC.region ?_
  refine KL.op (R.assign rfl rfl) rfl rfl rfl ?_
  refine KL.nil ?_
  refine KQ.seq ?_
  refine KC.seq ?_
  refine KC.region ?_
  refine KL.op (R.move rfl rfl) rfl rfl rfl ?_
  refine KL.op (R.move rfl rfl) rfl rfl rfl ?_
  refine KL.op (R.addW rfl rfl rfl) rfl rfl rfl ?_
  refine KL.op (R.assign rfl rfl) rfl rfl rfl ?_
  refine KL.nil ?_
  refine KQ.seq ?_
  refine KC.ret ?_
  refine KQ.ofRet ?_
  refine KQ.fin1 Tryd.results42 rfl ?_
  exact ⟨rfl, rfl⟩

set_option maxRecDepth 100000 in
set_option maxHeartbeats 4000000 in
theorem w64_sub {H : Heap} (a b : Int) (ra : InR .u64 a) (rb : InR .u64 b) : Ct Tryd.prog 43 [.int .u64 a, .int .u64 b] H (fun u H' => u = .int .u64 (Wd.pl .u64 .i64 64 1 a b) ∧ H = H') := by
  refine Ct.mk Tryd.func43 rfl Tryd.ntmps43 rfl ?_
  intro W0 hW0
  have o0 : Old H H := Old.refl H
  dsimp only [InR] at ra rb
  refine KC.seq ?_
  refine KC.region ?_
  refine KL.op (R.assign rfl rfl) rfl rfl rfl ?_
  refine KL.nil ?_
  refine KQ.seq ?_
  refine KC.seq ?_
  refine KC.region ?_
  refine KL.op (R.move rfl rfl) rfl rfl rfl ?_
  refine KL.op (R.move rfl rfl) rfl rfl rfl ?_
  refine KL.op (R.subW rfl rfl rfl) rfl rfl rfl ?_
  refine KL.op (R.assign rfl rfl) rfl rfl rfl ?_
  refine KL.nil ?_
  refine KQ.seq ?_
  refine KC.ret ?_
  refine KQ.ofRet ?_
  refine KQ.fin1 Tryd.results43 rfl ?_
  exact ⟨rfl, rfl⟩

set_option maxRecDepth 100000 in
set_option maxHeartbeats 4000000 in
theorem w64_mul {H : Heap} (a b : Int) (ra : InR .u64 a) (rb : InR .u64 b) : Ct Tryd.prog 44 [.int .u64 a, .int .u64 b] H (fun u H' => u = .int .u64 (Wd.pl .u64 .i64 64 2 a b) ∧ H = H') := by
  refine Ct.mk Tryd.func44 rfl Tryd.ntmps44 rfl ?_
  intro W0 hW0
  have o0 : Old H H := Old.refl H
  dsimp only [InR] at ra rb
  refine KC.seq ?_
  refine KC.region ?_
  refine KL.op (R.assign rfl rfl) rfl rfl rfl ?_
  refine KL.nil ?_
  refine KQ.seq ?_
  refine KC.seq ?_
  refine KC.region ?_
  refine KL.op (R.move rfl rfl) rfl rfl rfl ?_
  refine KL.op (R.move rfl rfl) rfl rfl rfl ?_
  refine KL.op (R.mulW rfl rfl rfl) rfl rfl rfl ?_
  refine KL.op (R.assign rfl rfl) rfl rfl rfl ?_
  refine KL.nil ?_
  refine KQ.seq ?_
  refine KC.ret ?_
  refine KQ.ofRet ?_
  refine KQ.fin1 Tryd.results44 rfl ?_
  exact ⟨rfl, rfl⟩

set_option maxRecDepth 100000 in
set_option maxHeartbeats 4000000 in
theorem w64_and {H : Heap} (a b : Int) (ra : InR .u64 a) (rb : InR .u64 b) : Ct Tryd.prog 45 [.int .u64 a, .int .u64 b] H (fun u H' => u = .int .u64 (Wd.pl .u64 .i64 64 7 a b) ∧ H = H') := by
  refine Ct.mk Tryd.func45 rfl Tryd.ntmps45 rfl ?_
  intro W0 hW0
  have o0 : Old H H := Old.refl H
  dsimp only [InR] at ra rb
  refine KC.seq ?_
  refine KC.region ?_
  refine KL.op (R.assign rfl rfl) rfl rfl rfl ?_
  refine KL.nil ?_
  refine KQ.seq ?_
  refine KC.seq ?_
  refine KC.region ?_
  refine KL.op (R.move rfl rfl) rfl rfl rfl ?_
  refine KL.op (R.move rfl rfl) rfl rfl rfl ?_
  refine KL.op (R.bits rfl rfl rfl rfl) rfl rfl rfl ?_
  refine KL.op (R.assign rfl rfl) rfl rfl rfl ?_
  refine KL.nil ?_
  refine KQ.seq ?_
  refine KC.ret ?_
  refine KQ.ofRet ?_
  refine KQ.fin1 Tryd.results45 rfl ?_
  exact ⟨rfl, rfl⟩

set_option maxRecDepth 100000 in
set_option maxHeartbeats 4000000 in
theorem w64_or {H : Heap} (a b : Int) (ra : InR .u64 a) (rb : InR .u64 b) : Ct Tryd.prog 46 [.int .u64 a, .int .u64 b] H (fun u H' => u = .int .u64 (Wd.pl .u64 .i64 64 8 a b) ∧ H = H') := by
  refine Ct.mk Tryd.func46 rfl Tryd.ntmps46 rfl ?_
  intro W0 hW0
  have o0 : Old H H := Old.refl H
  dsimp only [InR] at ra rb
  refine KC.seq ?_
  refine KC.region ?_
  refine KL.op (R.assign rfl rfl) rfl rfl rfl ?_
  refine KL.nil ?_
  refine KQ.seq ?_
  refine KC.seq ?_
  refine KC.region ?_
  refine KL.op (R.move rfl rfl) rfl rfl rfl ?_
  refine KL.op (R.move rfl rfl) rfl rfl rfl ?_
  refine KL.op (R.bits rfl rfl rfl rfl) rfl rfl rfl ?_
  refine KL.op (R.assign rfl rfl) rfl rfl rfl ?_
  refine KL.nil ?_
  refine KQ.seq ?_
  refine KC.ret ?_
  refine KQ.ofRet ?_
  refine KQ.fin1 Tryd.results46 rfl ?_
  exact ⟨rfl, rfl⟩

set_option maxRecDepth 100000 in
set_option maxHeartbeats 4000000 in
theorem w64_xor {H : Heap} (a b : Int) (ra : InR .u64 a) (rb : InR .u64 b) : Ct Tryd.prog 47 [.int .u64 a, .int .u64 b] H (fun u H' => u = .int .u64 (Wd.pl .u64 .i64 64 9 a b) ∧ H = H') := by
  refine Ct.mk Tryd.func47 rfl Tryd.ntmps47 rfl ?_
  intro W0 hW0
  have o0 : Old H H := Old.refl H
  dsimp only [InR] at ra rb
  refine KC.seq ?_
  refine KC.region ?_
  refine KL.op (R.assign rfl rfl) rfl rfl rfl ?_
  refine KL.nil ?_
  refine KQ.seq ?_
  refine KC.seq ?_
  refine KC.region ?_
  refine KL.op (R.move rfl rfl) rfl rfl rfl ?_
  refine KL.op (R.move rfl rfl) rfl rfl rfl ?_
  refine KL.op (R.bits rfl rfl rfl rfl) rfl rfl rfl ?_
  refine KL.op (R.assign rfl rfl) rfl rfl rfl ?_
  refine KL.nil ?_
  refine KQ.seq ?_
  refine KC.ret ?_
  refine KQ.ofRet ?_
  refine KQ.fin1 Tryd.results47 rfl ?_
  exact ⟨rfl, rfl⟩

set_option maxRecDepth 100000 in
set_option maxHeartbeats 4000000 in
theorem w64_shl {H : Heap} (a b : Int) (ra : InR .u64 a) (rb : InR .u64 b) : Ct Tryd.prog 48 [.int .u64 a, .int .u64 b] H (fun u H' => u = .int .u64 (Wd.pl .u64 .i64 64 10 a b) ∧ H = H') := by
  refine Ct.mk Tryd.func48 rfl Tryd.ntmps48 rfl ?_
  intro W0 hW0
  have o0 : Old H H := Old.refl H
  dsimp only [InR] at ra rb
  refine KC.seq ?_
  refine KC.region ?_
  refine KL.op (R.assign rfl rfl) rfl rfl rfl ?_
  refine KL.nil ?_
  refine KQ.seq ?_
  refine KC.seq ?_
  refine KC.region ?_
  refine KL.op (R.move rfl rfl) rfl rfl rfl ?_
  refine KL.op (R.move rfl rfl) rfl rfl rfl ?_
  refine KL.op (R.rem rfl rfl rfl (by omega) (by omega)) rfl rfl rfl ?_
  refine KL.op (R.shl rfl rfl rfl (by omega)) rfl rfl rfl ?_
  refine KL.op (R.assign rfl rfl) rfl rfl rfl ?_
  refine KL.nil ?_
  refine KQ.seq ?_
  refine KC.ret ?_
  refine KQ.ofRet ?_
  refine KQ.fin1 Tryd.results48 rfl ?_
  exact ⟨rfl, rfl⟩

set_option maxRecDepth 100000 in
set_option maxHeartbeats 4000000 in
theorem w64_shrS {H : Heap} (a b : Int) (ra : InR .u64 a) (rb : InR .u64 b) : Ct Tryd.prog 49 [.int .u64 a, .int .u64 b] H (fun u H' => u = .int .u64 (Wd.pl .u64 .i64 64 11 a b) ∧ H = H') := by
  refine Ct.mk Tryd.func49 rfl Tryd.ntmps49 rfl ?_
  intro W0 hW0
  have o0 : Old H H := Old.refl H
  dsimp only [InR] at ra rb
  refine KC.seq ?_
  refine KC.region ?_
  refine KL.op (R.assign rfl rfl) rfl rfl rfl ?_
  refine KL.nil ?_
  refine KQ.seq ?_
  refine KC.seq ?_
  refine KC.region ?_
  refine KL.op (R.move rfl rfl) rfl rfl rfl ?_
  refine KL.op (R.convW rfl Tryd.underlying42 Tryd.underlying2 rfl) rfl rfl rfl ?_
  refine KL.op (R.move rfl rfl) rfl rfl rfl ?_
  refine KL.op (R.rem rfl rfl rfl (by omega) (by omega)) rfl rfl rfl ?_
  refine KL.op (R.shr rfl rfl rfl (by omega)) rfl rfl rfl ?_
  refine KL.op (R.convW rfl Tryd.underlying2 Tryd.underlying42 rfl) rfl rfl rfl ?_
  refine KL.op (R.assign rfl rfl) rfl rfl rfl ?_
  refine KL.nil ?_
  refine KQ.seq ?_
  refine KC.ret ?_
  refine KQ.ofRet ?_
  refine KQ.fin1 Tryd.results49 rfl ?_
  exact ⟨rfl, rfl⟩

set_option maxRecDepth 100000 in
set_option maxHeartbeats 4000000 in
theorem w64_shrU {H : Heap} (a b : Int) (ra : InR .u64 a) (rb : InR .u64 b) : Ct Tryd.prog 50 [.int .u64 a, .int .u64 b] H (fun u H' => u = .int .u64 (Wd.pl .u64 .i64 64 12 a b) ∧ H = H') := by
  refine Ct.mk Tryd.func50 rfl Tryd.ntmps50 rfl ?_
  intro W0 hW0
  have o0 : Old H H := Old.refl H
  dsimp only [InR] at ra rb
  refine KC.seq ?_
  refine KC.region ?_
  refine KL.op (R.assign rfl rfl) rfl rfl rfl ?_
  refine KL.nil ?_
  refine KQ.seq ?_
  refine KC.seq ?_
  refine KC.region ?_
  refine KL.op (R.move rfl rfl) rfl rfl rfl ?_
  refine KL.op (R.move rfl rfl) rfl rfl rfl ?_
  refine KL.op (R.rem rfl rfl rfl (by omega) (by omega)) rfl rfl rfl ?_
  refine KL.op (R.shr rfl rfl rfl (by omega)) rfl rfl rfl ?_
  refine KL.op (R.assign rfl rfl) rfl rfl rfl ?_
  refine KL.nil ?_
  refine KQ.seq ?_
  refine KC.ret ?_
  refine KQ.ofRet ?_
  refine KQ.fin1 Tryd.results50 rfl ?_
  exact ⟨rfl, rfl⟩

set_option maxRecDepth 100000 in
set_option maxHeartbeats 4000000 in
theorem w64_rotl {H : Heap} (a b : Int) (ra : InR .u64 a) (rb : InR .u64 b) : Ct Tryd.prog 51 [.int .u64 a, .int .u64 b] H (fun u H' => u = .int .u64 (Wd.pl .u64 .i64 64 13 a b) ∧ H = H') := by
  refine Ct.mk Tryd.func51 rfl Tryd.ntmps51 rfl ?_
  intro W0 hW0
  have o0 : Old H H := Old.refl H
  dsimp only [InR] at ra rb
  refine KC.seq ?_
  refine KC.region ?_
  refine KL.op (R.assign rfl rfl) rfl rfl rfl ?_
  refine KL.nil ?_
  refine KQ.seq ?_
  refine KC.seq ?_
  refine KC.region ?_
  refine KL.op (R.move rfl rfl) rfl rfl rfl ?_
  refine KL.op (R.move rfl rfl) rfl rfl rfl ?_
  refine KL.op (R.rem rfl rfl rfl (by omega) (by omega)) rfl rfl rfl ?_
  refine KL.op (R.convI rfl Tryd.underlying42 Tryd.underlying3 rfl (by dsimp only [InR]; omega)) rfl rfl rfl ?_
  refine KL.call rfl rfl rfl rfl Tryd.call59 rfl rfl rfl (rot64_l _ _ (by omega)) ?_
  rintro _ _ ⟨rfl, rfl⟩
  refine KL.op (R.assign rfl rfl) rfl rfl rfl ?_
  refine KL.nil ?_
  refine KQ.seq ?_
  refine KC.ret ?_
  refine KQ.ofRet ?_
  refine KQ.fin1 Tryd.results51 rfl ?_
  exact ⟨rfl, rfl⟩

set_option maxRecDepth 100000 in
set_option maxHeartbeats 4000000 in
theorem w64_rotr {H : Heap} (a b : Int) (ra : InR .u64 a) (rb : InR .u64 b) : Ct Tryd.prog 52 [.int .u64 a, .int .u64 b] H (fun u H' => u = .int .u64 (Wd.pl .u64 .i64 64 14 a b) ∧ H = H') := by
  refine Ct.mk Tryd.func52 rfl Tryd.ntmps52 rfl ?_
  intro W0 hW0
  have o0 : Old H H := Old.refl H
  dsimp only [InR] at ra rb
  refine KC.seq ?_
  refine KC.region ?_
  refine KL.op (R.assign rfl rfl) rfl rfl rfl ?_
  refine KL.nil ?_
  refine KQ.seq ?_
  refine KC.seq ?_
  refine KC.region ?_
  refine KL.op (R.move rfl rfl) rfl rfl rfl ?_
  refine KL.op (R.move rfl rfl) rfl rfl rfl ?_
  refine KL.op (R.rem rfl rfl rfl (by omega) (by omega)) rfl rfl rfl ?_
  refine KL.op (R.convI rfl Tryd.underlying42 Tryd.underlying3 rfl (by dsimp only [InR]; omega)) rfl rfl rfl ?_
  refine KL.op ((R.neg rfl rfl).val (congrArg (Value.int .i64) (Wd.neg64 (by omega)))) rfl rfl rfl ?_
  refine KL.call rfl rfl rfl rfl Tryd.call59 rfl rfl rfl (rot64_r _ _ (by omega)) ?_
  rintro _ _ ⟨rfl, rfl⟩
  refine KL.op (R.assign rfl rfl) rfl rfl rfl ?_
  refine KL.nil ?_
  refine KQ.seq ?_
  refine KC.ret ?_
  refine KQ.ofRet ?_
  refine KQ.fin1 Tryd.results52 rfl ?_
  exact ⟨rfl, rfl⟩

end Go.Proofs.YtkkhjaiaicmpaaaDoor
