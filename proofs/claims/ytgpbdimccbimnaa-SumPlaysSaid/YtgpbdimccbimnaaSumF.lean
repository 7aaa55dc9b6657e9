/- Functions of package gabelleref33. No condition. -/
import Derived.Test.YtgpbdimccbimnaaSumE
namespace Go.Proofs.Ytgpbdimccbimnaa
open Go Go.RowKit
set_option linter.unusedVariables false
set_option linter.unusedSimpArgs false
set_option linter.unnecessarySimpa false
set_option maxRecDepth 100000 in
set_option maxHeartbeats 4000000 in
theorem turned_any {H : Heap} (x n : Int) (hn : 0 < n ∧ n < 32) : Ct Try.prog 22 [.int .u32 x, .int .u64 n] H (fun u H' => u = .int .u32 (Sha.td x n) ∧ H = H') := by
  refine Ct.mk Try.func22 rfl Try.ntmps22 rfl ?_
  intro W0 hW0
  have o0 : Old H H := Old.refl H
  refine KC.seq ?_
  refine KC.region ?_
  refine KL.op (R.assign rfl rfl) rfl rfl rfl ?_
  refine KL.nil ?_
  refine KQ.seq ?_
  refine KC.seq ?_
  refine KC.region ?_
  refine KL.op (R.move rfl rfl) rfl rfl rfl ?_
  refine KL.op (R.move rfl rfl) rfl rfl rfl ?_
  refine KL.op (R.shr rfl rfl rfl (by omega)) rfl rfl rfl ?_
  refine KL.op (R.move rfl rfl) rfl rfl rfl ?_
  refine KL.op (R.move rfl rfl) rfl rfl rfl ?_
  refine KL.op (R.sub rfl rfl rfl (by dsimp only [InR]; omega)) rfl rfl rfl ?_
  refine KL.op (R.shl rfl rfl rfl (by omega)) rfl rfl rfl ?_
  refine KL.op (R.bits rfl rfl rfl rfl) rfl rfl rfl ?_
  refine KL.op (R.assign rfl rfl) rfl rfl rfl ?_
  refine KL.nil ?_
  refine KQ.seq ?_
  refine KC.ret ?_
  refine KQ.ofRet ?_
  refine KQ.fin1 Try.results22 rfl ?_
  exact ⟨rfl, rfl⟩

set_option maxRecDepth 100000 in
set_option maxHeartbeats 4000000 in
theorem Consts_any {H : Heap} : Ct Try.prog 21 [] H (fun u H' => u = .tuple #[.slice (some ⟨H.size, 0, none⟩) 8 8, .slice (some ⟨H.size + 1, 0, none⟩) 64 64] ∧ Own 1 (EInt .u32) 46 #[] H.size H' (.slice (some ⟨H.size, 0, none⟩) 8 8) Sha.I0 ∧ Own 1 (EInt .u32) 46 #[] (H.size + 1) H' (.slice (some ⟨H.size + 1, 0, none⟩) 64 64) Sha.K ∧ Old H H' ∧ H'.size = H.size + 2) := by
  refine Ct.mk Try.func21 rfl Try.ntmps21 rfl ?_
  intro W0 hW0
  have o0 : Old H H := Old.refl H
  refine KC.seq ?_
  refine KC.region ?_
  refine KL.op (R.assign rfl rfl) rfl rfl rfl ?_
  refine KL.op (R.assign rfl rfl) rfl rfl rfl ?_
  refine KL.nil ?_
  refine KQ.seq ?_
  refine KC.seq ?_
  refine KC.region ?_
  refine KL.opM (M.lit rfl Try.underlying59 zs46 (by decide) rfl rfl rfl) rfl rfl rfl ?_
  rintro _ H1 ⟨rfl, n1⟩
  have z1 := n1.2.1
  have o0 := o0.trans n1.1
  have b1 := n1.2.2
  have w1 : Own 1 (EInt .u32) 46 #[] H.size H1 (.slice (some ⟨H.size, 0, none⟩) 8 8) Sha.I0 := Own.lits n1 (Nat.le_refl _) rfl (by decide) (by decide)
  refine KL.opM (M.lit rfl Try.underlying59 zs46 (by decide) rfl rfl rfl) rfl rfl rfl ?_
  rintro _ H2 ⟨rfl, n2⟩
  have z2 := n2.2.1
  have o0 := o0.trans n2.1
  have w1 := w1.old n2.1
  have b2 := n2.2.2
  have w2 : Own 1 (EInt .u32) 46 #[] (H.size + 1) H2 (.slice (some ⟨H.size + 1, 0, none⟩) 64 64) Sha.K := by have := Own.lits (l := Sha.K) n2 (Nat.le_refl _) rfl (by decide) (by decide); rwa [z1] at this
  refine KL.op (R.assign rfl rfl) rfl rfl rfl ?_
  refine KL.op (R.assign rfl rfl) rfl rfl rfl ?_
  refine KL.nil ?_
  refine KQ.seq ?_
  refine KC.ret ?_
  refine KQ.ofRet ?_
  refine KQ.fin2 Try.results21 rfl rfl ?_
  exact ⟨by rw [z1], w1, w2, o0, by omega⟩

end Go.Proofs.Ytgpbdimccbimnaa
