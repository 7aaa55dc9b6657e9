/- New of an instance: what is thrown is caught. No condition but those that each states. -/
import Derived.Test.YticnkojpfmkjeaaIstF
import Derived.Test.YticnkojpfmkjeaaKDefB
namespace Go.Proofs.Yticnkojpfmkjeaa
open Go Go.RowKit
set_option linter.unusedVariables false
set_option linter.unusedSimpArgs false
set_option linter.unnecessarySimpa false
set_option maxRecDepth 100000 in
set_option maxHeartbeats 4000000 in
theorem clo_ret {H : Heap} {g1 g2 : Nat} : CtDef Try.prog 17 [.pointer (some ⟨g1, 0, none⟩), .pointer (some ⟨g2, 0, none⟩)] H (.returning) (fun u' H' => settle u' = .returning ∧ H' = H) := by
  refine CtDef.mk1 (u' := .returning) (r := .nilIface) Try.func17 rfl Try.ntmps17 rfl rfl rfl rfl rfl (⟨rfl, rfl⟩) ?_
  intro W0 hW0
  have o0 : Old H H := Old.refl H
  refine KC.block ?_
  refine KC.seq ?_
  refine KC.region ?_
  refine KL.op ((R.eqlNilI rfl Try.underlying20 rfl rfl (.inl rfl)).val (rfl)) rfl rfl rfl ?_
  refine KL.nil ?_
  refine KQ.seq ?_
  refine KC.condT rfl ?_
  refine KC.region ?_
  refine KL.op (R.assign rfl rfl) rfl rfl rfl ?_
  refine KL.nil ?_
  refine KQ.normBlock ?_
  refine KQ.fin0 Try.results17 ?_
  exact ⟨rfl, rfl⟩

set_option maxRecDepth 100000 in
set_option maxHeartbeats 4000000 in
theorem clo_pan {H : Heap} {g1 g2 : Nat} {c1 c2 : Value} (ba : H[g1]? = some (.cells [c1].toArray 36 (0, 0))) (bb : H[g2]? = some (.cells [c2].toArray 5 (0, 0))) (h12 : g1 < g2) : CtDef Try.prog 17 [.pointer (some ⟨g1, 0, none⟩), .pointer (some ⟨g2, 0, none⟩)] H (.panicking (Pan amissV)) (fun u' H' => settle u' = .returning ∧ OldB g1 H H' ∧ H'[g1]? = some (.cells [.pointer none].toArray 36 (0, 0)) ∧ H'[g2]? = some (.cells [.int .u8 10].toArray 5 (0, 0))) := by
  refine CtDef.mk1 (u' := .panicking [{ v := amissV, recovered := true }]) (r := amissV) Try.func17 rfl Try.ntmps17 rfl rfl rfl rfl rfl (⟨rfl, rfl⟩) ?_
  intro W0 hW0
  have o0 : OldB g1 H H := OldB.refl _ H
  have hlt1 := blk_lt ba
  have hlt2 := blk_lt bb
  unfold amissV
  refine KC.block ?_
  refine KC.seq ?_
  refine KC.region ?_
  refine KL.op ((R.eqlNilI rfl Try.underlying20 rfl rfl (.inr ⟨_, _, rfl⟩)).val (rfl)) rfl rfl rfl ?_
  refine KL.nil ?_
  refine KQ.seq ?_
  refine KC.condF rfl ?_
  refine KC.seq ?_
  refine KC.region ?_
  refine KL.op (R.assertIs rfl Try.underlying67 rfl rfl) rfl rfl rfl ?_
  refine KL.op (R.extract rfl rfl rfl) rfl rfl rfl ?_
  refine KL.op (R.extract rfl rfl rfl) rfl rfl rfl ?_
  refine KL.nil ?_
  refine KQ.seq ?_
  refine KC.condT rfl ?_
  refine KC.seq ?_
  refine KC.region ?_
  refine KL.opM (M.alloc rfl zr67 rfl) rfl rfl rfl ?_
  rintro _ H1 ⟨rfl, n1⟩
  have z1 := n1.2.1
  have o0 := o0.trans ((n1.1).b (by omega))
  have ba := (n1.1).blk ba
  have bb := (n1.1).blk bb
  have b1 := n1.2.2
  have bf := b1
  refine KL.opS (S.storeAgg (us := []) rfl sz67 rfl rfl (rfl) (by intro z hz; exact absurd hz (by simp)) bf (by simp)) rfl rfl ?_
  rintro H2 ⟨u2, b2⟩
  have o0 := o0.trans (OldB.upd u2 (by omega))
  have zu2 := u2.1
  have ba := ((u2).2 _ (by omega)).trans ba
  have bb := ((u2).2 _ (by omega)).trans bb
  have bf := b2
  refine KL.nil ?_
  refine KQ.seq ?_
  refine KC.region ?_
  refine KL.opS (S.store rfl sz36 rfl rfl rfl rfl ba (by simp)) rfl rfl ?_
  rintro H3 ⟨u3, b3⟩
  have o0 := o0.trans (OldB.upd u3 (by omega))
  have zu3 := u3.1
  have bb := ((u3).2 _ (by omega)).trans bb
  have bf := ((u3).2 _ (by omega)).trans bf
  have ba := b3
  refine KL.opS (S.store rfl sz5 rfl rfl rfl rfl bb (by simp)) rfl rfl ?_
  rintro H4 ⟨u4, b4⟩
  have o0 := o0.trans (OldB.upd u4 (by omega))
  have zu4 := u4.1
  have ba := ((u4).2 _ (by omega)).trans ba
  have bf := ((u4).2 _ (by omega)).trans bf
  have bb := b4
  refine KL.nil ?_
  refine KQ.normBlock ?_
  refine KQ.fin0 Try.results17 ?_
  exact ⟨rfl, o0, ba, bb⟩


theorem IS.below {H H' : Heap} {g : Nat} {mp tv gv : Value} {m : Md} {bs tl gl : List Int} (h : IS H g mp tv gv m bs tl gl) {k : Nat} (u : Upd k H H') (hk : k < g) : IS H' g mp tv gv m bs tl gl := by
  refine ⟨(u.2 g (by omega)).trans h.b, ?_, h.t.keepN (h.t.lt.imp id (fun e => u.2 _ (by omega))), h.gl.keepN (h.gl.lt.imp id (fun e => u.2 _ (by omega))), h.tg⟩
  rcases h.mm with h1 | ⟨a, gm, vm, mo, e, q, f, r1, r2⟩
  · exact .inl h1
  · obtain ⟨f1, f2⟩ := id f
    exact .inr ⟨a, gm, vm, mo, e, q.keepB (u.2 gm (by omega)) (f2.imp id (fun e => u.2 _ (by omega))), f, r1, r2⟩

set_option maxRecDepth 100000 in
set_option maxHeartbeats 4000000 in
theorem NewI_any {H : Heap} {v0 v1 v2 v3 v4 v5 v6 v7 v8 v9 va vb : Value} {m : Md} (mv : MI H v0 v1 v2 v3 v4 v5 v6 v7 v8 v9 va vb m) : Ct Try.prog 7 [.agg [v0, v1, v2, v3, v4, v5, v6, v7, v8, v9, va, vb].toArray] H (fun u H' => (Fit m ∧ ∃ g mp tv gv, u = .tuple #[.pointer (some ⟨g, 0, none⟩), .int .u8 0] ∧ IS H' g mp tv gv m (memL m) (tabL m) (m.globs.map iv) ∧ H.size ≤ g ∧ Old H H') ∨ (¬ Fit m ∧ u = .tuple #[.pointer none, .int .u8 10] ∧ Old H H')) := by
  refine Ct.mkD Try.func7 rfl Try.ntmps7 rfl ?_
  intro W0 hW0
  have o0 : Old H H := Old.refl H
  refine KC.seq ?_
  refine KC.region ?_
  refine KL.opM (M.box rfl rfl rfl) rfl rfl rfl ?_
  rintro _ H1 ⟨rfl, n1⟩
  have z1 := n1.2.1
  have o0 := o0.trans n1.1
  have b1 := n1.2.2
  have bm := b1
  refine KL.opM (M.alloc rfl zr36 rfl) rfl rfl rfl ?_
  rintro _ H2 ⟨rfl, n2⟩
  have z2 := n2.2.1
  have o0 := o0.trans n2.1
  have bm := (n2.1).blk bm
  have b2 := n2.2.2
  have ba := b2
  refine KL.opM (M.alloc rfl zr5 rfl) rfl rfl rfl ?_
  rintro _ H3 ⟨rfl, n3⟩
  have z3 := n3.2.1
  have o0 := o0.trans n3.1
  have bm := (n3.1).blk bm
  have ba := (n3.1).blk ba
  have b3 := n3.2.2
  have bb := b3
  refine KL.nil ?_
  refine KQ.seq ?_
  refine KC.seq ?_
  refine KC.region ?_
  refine KL.op (R.makeFunc rfl rfl rfl) rfl rfl rfl ?_
  refine KL.defer rfl rfl rfl rfl ?_
  refine KQD.seq ?_
  refine KCD.seq ?_
  refine KCD.region ?_
  refine KL.op (R.loadAgg rfl Try.underlying33 rfl sz33 rfl (cells_of bm) rfl) rfl rfl rfl ?_
  refine KL.callX rfl rfl rfl rfl Try.call18 rfl rfl rfl (made_any (mv.old o0)) ?_ ?_
  · rintro vx H4 ⟨hx1, hx2, hx3⟩
    have ba := hx3.blk ba
    have bb := hx3.blk bb
    have o0 := o0.trans hx3
    have zx3 := hx3.1
    subst hx1
    refine KQD.panThen ?_
    refine KQD.fin_pan (R1 := fun H' => OldB (Array.size H1) _ H' ∧ _ ∧ _) Try.call17 (clo_pan ba bb (by omega)) ?_
    rintro HR ⟨f0, d4, d5⟩
    exact ⟨_, fun ar wr har hwr => results_cells2 har Try.results7 rfl rfl (loadVar_one Try.underlying36 rfl (by rw [hwr]; exact cell_of d4 rfl)) (loadVar_one Try.underlying5 rfl (by rw [hwr]; exact cell_of d5 rfl)), .inr ⟨hx2, rfl, o0.then f0 (by omega)⟩⟩
  rintro _ H5 ⟨g, mp, tv, gv, rfl, hgs, is, hfit, ox⟩
  have zc_H5 := (ox).1
  have o0 := o0.trans ox
  have bm := (ox).blk bm
  have ba := (ox).blk ba
  have bb := (ox).blk bb
  have zis := is.lt
  have isP := is
  refine KL.opS (S.store rfl sz36 rfl rfl rfl rfl ba (by simp)) rfl rfl ?_
  rintro H6 ⟨u6, b6⟩
  have o0 := o0.upd u6 (by omega)
  have zu6 := u6.1
  have bm := ((u6).2 _ (by omega)).trans bm
  have bb := ((u6).2 _ (by omega)).trans bb
  have ba := b6
  have is := is.below u6 (by omega)
  refine KL.opS (S.store rfl sz5 rfl rfl rfl rfl bb (by simp)) rfl rfl ?_
  rintro H7 ⟨u7, b7⟩
  have o0 := o0.upd u7 (by omega)
  have zu7 := u7.1
  have bm := ((u7).2 _ (by omega)).trans bm
  have ba := ((u7).2 _ (by omega)).trans ba
  have bb := b7
  have is := is.below u7 (by omega)
  refine KL.nil ?_
  refine KQD.seq ?_
  refine KCD.ret ?_
  refine KQD.fin_ret (R1 := fun H' => H' = H7) Try.call17 clo_ret ?_
  rintro HR rfl
  refine ⟨_, fun ar wr har hwr => results_cells2 har Try.results7 rfl rfl (loadVar_one Try.underlying36 rfl (by rw [hwr]; exact cell_of ba rfl)) (loadVar_one Try.underlying5 rfl (by rw [hwr]; exact cell_of bb rfl)), .inl ⟨hfit, _, _, _, _, rfl, is, by omega, o0⟩⟩

end Go.Proofs.Yticnkojpfmkjeaa
