/- Numbers are written. No condition but those stated. -/
import Derived.Test.YtnjodpgahbpiaaaInsM
namespace Go.Proofs.Ytnjodpgahbpiaaa
open Go Go.RowKit
set_option linter.unusedVariables false
set_option linter.unusedSimpArgs false
set_option linter.unnecessarySimpa false

theorem AppU_k {H : Heap} (z : Int) (h : InR .u32 z) : Ct Try.prog 31 [.slice none 0 0, .int .u64 z] H (fun u H' => Own 1 (EInt .u8) 5 #[] H.size H' u (Isp.apN false z) ∧ Old H H') :=
  (AppendU_k (.slice none 0 0) [] z (Sl.nil _ _ _) (by simp) (by dsimp only [InR] at h; omega) (by dsimp only [InR] at h; omega)).mono fun v H' h => by rw [List.nil_append] at h; exact h
theorem AppS_k {H : Heap} (z : Int) (h : InR .i64 z) : Ct Try.prog 32 [.slice none 0 0, .int .i64 z] H (fun u H' => Own 1 (EInt .u8) 5 #[] H.size H' u (Isp.apN true z) ∧ Old H H') :=
  Ct.fresh (l := [] ++ Leb.ap true 10 z) rfl fun w hw => AppendS_any (.slice none 0 0) [] z w (isBs (l := []) (Sl.nil _ _ _)) (by simp) (by dsimp only [InR] at h; omega) (by dsimp only [InR] at h; omega)
/-- bytes that are being written: a row of the call's own, in a box -/
structure WR (H : Heap) (g B : Nat) (v : Value) (l : List Int) : Prop where
  b : H[g]? = some (.cells [v].toArray 23 (0, 0))
  w : Own 1 (EInt .u8) 5 #[] B H v l
  lt : g < B ∨ v = .slice none 0 0 ∨ vblock v < g

set_option maxRecDepth 100000 in
set_option maxHeartbeats 4000000 in
theorem put1_any {H : Heap} {g B : Nat} {v : Value} {l : List Int} (bb : H[g]? = some (.cells [v].toArray 23 (0, 0))) (wo : Own 1 (EInt .u8) 5 #[] B H v l) (hne : v = .slice none 0 0 ∨ vblock v ≠ g) (hB : B ≤ H.size) (hll : l.length ≤ 100000000000) (a : Int) (ha : InR .u32 a) : Ct Try.prog 30 [.int .u32 a, .pointer (some ⟨g, 0, none⟩)] H (fun u H' => u = .tuple #[] ∧ ∃ v', H'[g]? = some (.cells [v'].toArray 23 (0, 0)) ∧ Own 1 (EInt .u8) 5 #[] B H' v' (l ++ Isp.apN false a) ∧ (v' = .slice none 0 0 ∨ vblock v' ≠ g) ∧ Fr g v H H' ∧ Nx H v v') := by
  refine Ct.mk Try.func30 rfl Try.ntmps30 rfl ?_
  intro W0 hW0
  have o0 : OldB 0 H H := OldB.refl _ H
  have wo0 := wo
  have hgl := blk_lt bb
  have hlw := wo.lt
  refine KC.order [0, 1, 2, 3, 4, 5] (clOf [(3, 2), (4, 2), (5, 2)]) (fun j Hc => j = 0 → Hc[g]? = some (.cells [v].toArray 23 (0, 0))) (fun _ _ => False) (by kernel_rfl) (by kernel_rfl) (by kernel_rfl) rfl (fun _ _ => bb) (fun _ _ h => h.elim) ?_
  refine KO.op rfl rfl (fun Hg hg => R.load rfl Try.underlying23 rfl rfl (cell_of (hg rfl) rfl)) rfl rfl rfl ?_
  refine KO.op rfl rfl (fun Hg hg => R.move rfl rfl) rfl rfl rfl ?_
  refine KO.op rfl rfl (fun Hg hg => R.convI rfl Try.underlying33 Try.underlying62 rfl (by dsimp only [InR] at ha ⊢; omega)) rfl rfl rfl ?_
  refine KO.call rfl rfl rfl rfl rfl rfl Try.call31 rfl rfl rfl (AppU_k a ha) (fun _ _ hR j _ _ _ => hR.2.blk bb) ?_
  rintro va H1 ⟨wa, ox⟩
  have zc_H1 := (ox).1
  have o0 := o0.trans ((ox).b (by omega))
  have bb := (ox).blk bb
  have wo := wo.old ox
  have hap := wa.sl (emptyOld _) (by omega)
  have hal := apL ha
  have oH : Old H H1 := ox
  have lt2 := wo.lt
  refine KO.opM rfl rfl (M.appendN rfl Try.underlying23 inf5 rfl (by decide) rfl rfl wo (by exact hap) (fun _ _ h _ => h) (by omega) (by omega) (by unfold maxLen; omega)) rfl rfl rfl (fun _ _ hR j _ hj2 hj => by subst hj; exact absurd (by decide +kernel) hj2) ?_
  rintro vn H2 ⟨w2, g2, nx2⟩
  try dsimp only at g2 nx2
  have ob2 := g2.oldB wo (by omega)
  have o0 := o0.trans (ob2.mono (by omega))
  have z2 := ob2.1
  have bb := (g2.2 _ (blk_lt bb) (by first | exact .inr (by omega) | exact .inl rfl | exact hne2 | exact hne.imp id (fun h e => h e.symm) | exact lt2.imp id (fun h => by omega))).trans bb
  have wo := w2
  have nxA : Nx H v vn := nx_old oH wo0 nx2
  have hne2 : vn = .slice none 0 0 ∨ vblock vn ≠ g := by
    rcases nxA with e | ⟨e1, e2⟩ | e
    · exact .inl e
    · rw [e2]; exact .inr (hne.resolve_left e1)
    · exact .inr (by omega)
  have frA : Fr g v H H2 := ((Fr.ofOld oH).trans (Nx.refl _ _) ((Fr.refl g v _).grown (Nx.refl _ _) g2))
  refine KO.opS rfl rfl (S.store rfl sz23 rfl rfl wo.cells1 wo.one bb (by simp)) rfl rfl (fun _ h j hj1 hj2 hj => by subst hj; exact absurd (by decide +kernel) hj2) ?_
  rintro H3 ⟨u3, b3⟩
  have o0 := o0.trans (OldB.upd u3 (by omega))
  have zu3 := u3.1
  have wo := wo.upd u3 (by first | exact .inl rfl | exact .inr (by omega) | exact hne2 | exact hne.imp id (fun h e => h e.symm) | exact wo.lt.imp id (fun h => by omega))
  have bb := b3
  have fr := frA.upd u3
  refine KO.nil ?_
  refine KQ.fin0 Try.results30 ?_
  exact ⟨rfl, vn, bb, wo, hne2, fr, nxA⟩

end Go.Proofs.Ytnjodpgahbpiaaa
