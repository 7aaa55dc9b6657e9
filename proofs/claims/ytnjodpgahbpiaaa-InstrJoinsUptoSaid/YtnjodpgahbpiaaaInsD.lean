/- The reader of an expression. No condition but its length. -/
import Derived.Test.YtnjodpgahbpiaaaInsC
namespace Go.Proofs.Ytnjodpgahbpiaaa
open Go Go.RowKit
set_option linter.unusedVariables false
set_option linter.unusedSimpArgs false
set_option linter.unnecessarySimpa false
set_option maxRecDepth 100000 in
set_option maxHeartbeats 4000000 in
theorem expr_any {H : Heap} {g : Nat} {v : Value} {l : List Int} {i : Nat} (rd : RD H g v l i) (hl : l.length ≤ 1000000) : CtX Try.prog 21 [.pointer (some ⟨g, 0, none⟩)] H (fun u H' => ∃ xs n, Isp.exprP (l.length + 1) [] (l.drop i) = .ok (xs, n) ∧ (∀ H2, KeepX (List.range (g + 1)) H' H2 → Sl 5 EIns H2 u xs) ∧ RD H' g v l (i + n) ∧ Fr g (.slice none 0 0) H H') (fun p H' => ∃ e, Isp.exprP (l.length + 1) [] (l.drop i) = .error e ∧ p = failV e ∧ Fr g (.slice none 0 0) H H') := by
  refine CtX.mk Try.func21 rfl Try.ntmps21 rfl ?_
  intro W0 hW0
  have o0 : OldB 0 H H := OldB.refl _ H
  have hle := rd.le
  have hlt := rd.lt
  have fr : Fr g (.slice none 0 0) H H := Fr.refl _ _ _
  refine KC.seq ?_
  refine KC.region ?_
  refine KL.op (R.assign rfl rfl) rfl rfl rfl ?_
  refine KL.nil ?_
  refine KQ.seq ?_
  refine KC.seq ?_
  refine KC.region ?_
  refine KL.op (R.assign rfl rfl) rfl rfl rfl ?_
  refine KL.nil ?_
  refine KQ.seq ?_
  refine KC.seq ?_
  refine KC.region ?_
  refine KL.opM (M.alloc rfl zr48 rfl) rfl rfl rfl ?_
  rintro _ H1 ⟨rfl, n1⟩
  have z1 := n1.2.1
  have o0 := o0.trans ((n1.1).b (by omega))
  have rd := rd.old n1.1
  have fr := fr.old n1.1
  have b1 := n1.2.2
  have bm := b1
  refine KL.nil ?_
  refine KQ.seq ?_
  refine KC.block ?_
  refine KC.loopD (κ := List Ins × List Int × Nat × Value × Value) [8, 9, 5, 11, 12, 13, 10, 14, 15, 6, 7, 17, 16, 18, 19, 21, 20, 22, 2, 23, 24, 25, 26, 3] (fun k => [(3, k.2.2.2.1)]) (fun k Hl => RD Hl g v l (i + k.2.2.1) ∧ ES Hl g (Array.size H) (Array.size H1) k.2.2.2.2 k.2.1 k.2.2.2.1 k.1 ∧ Isp.EPre (l.length + 1) (l.drop i) (l.length + 1 - k.1.length) k.2.1 k.1 k.2.2.1 ∧ k.1.length ≤ k.2.2.1 ∧ (∀ x ∈ k.2.1, InR .u8 x) ∧ k.2.1.length ≤ k.1.length ∧ Fr g (.slice none 0 0) H Hl ∧ (Array.size H1) ≤ Hl.size) (fun k => l.length - k.2.2.1) ([], [], 0, .slice none 0 0, .slice none 0 0) ?_ ?_ ?_
  · exact (Sub.cons rfl (Ext.sub (Ext.refl _ _)))
  · exact ⟨by simpa using rd, ⟨bm, Own.nil _ _ _ _ _ _, OwnE.nil _ _ _ _ _ _, .inl rfl, by omega, by omega, by omega⟩, Isp.EPre.start _ _, Nat.le_refl _, (by intro x hx; cases hx), Nat.le_refl _, fr, Nat.le_refl _⟩
  · rintro ⟨acc, m, k, vo, vm⟩ H2 ⟨rd, es, hep, hak, hmr, hma, fr, hsz⟩
    dsimp only at rd es hep hak hmr hma
    have zrd := rd.lt
    have hrl := rd.le
    have o0 : OldB 0 H H2 := fr.low (Nat.zero_le _) (Nat.zero_le _)
    have zfr := fr.1
    have hf : l.length + 1 - acc.length = (l.length - acc.length) + 1 := by omega
    rw [hf] at hep
    have es0 := es
    have zes := es.gB
    have zem := es.mB
    refine KC.block ?_
    refine KC.seq ?_
    refine KC.region ?_
    refine KL.op (R.move rfl rfl) rfl rfl rfl ?_
    refine KL.callX rfl rfl rfl rfl Try.call27 rfl rfl rfl (instr_any rd) ?_ ?_
    · rintro vx H3 ⟨ex, hx1, hx2, hx3⟩
      refine KQ.panThen ?_
      refine KQ.panBlock ?_
      refine KQ.panThen ?_
      refine KQ.panBlock ?_
      exact KQ.pan (⟨_, hep.err (by rw [List.drop_drop]; exact hx1), hx2, fr.thenN hx3⟩)
    rintro _ H4 ⟨x, k2, hp, ⟨vl, rfl, wl0⟩, hxr, rd2, f1⟩
    have zf_H4 := f1.1
    have o0 := o0.trans (f1.low (Nat.zero_le _) (Nat.zero_le _))
    have fr := fr.thenN f1
    have rd := rd2
    have zrd := rd.lt
    have es := es.frT f1
    have obm : Old H4 H4 := Old.refl _
    have hvm := es.wm.lt
    have hwl := wl0.lt
    refine KL.opM (M.alloc rfl zr36 rfl) rfl rfl rfl ?_
    rintro _ H5 ⟨rfl, n5⟩
    have z5 := n5.2.1
    have o0 := o0.trans ((n5.1).b (by omega))
    have fr := fr.old n5.1
    have rd := rd.old n5.1
    have obm := obm.trans n5.1
    have b5 := n5.2.2
    have bx := b5
    refine KL.opS (S.storeAgg rfl sz36 rfl rfl (rfl) (by intro u hu; simp only [List.mem_cons, List.not_mem_nil, or_false] at hu; rcases hu with rfl | rfl | rfl | rfl | rfl <;> first | rfl | exact wl0.one) bx (by simp)) rfl rfl ?_
    rintro H6 ⟨u6, b6⟩
    have o0 := o0.trans (OldB.upd u6 (by omega))
    have zu6 := u6.1
    have fr := (by first | exact fr.upd u6 | exact fr.updN u6 (by omega))
    have rd := rd.updT u6 (by omega)
    have obm := obm.upd u6 (by omega)
    have bx := b6
    rw [over_all (by rfl)] at bx
    have es := es.old obm
    have wl := wl0.old obm
    have zb := obm.1
    refine KL.nil ?_
    refine KQ.seq ?_
    refine KC.seq ?_
    refine KC.region ?_
    refine KL.op ((by first | exact R.fieldAddr rfl Try.underlying36 rfl rfl sz5 rfl | exact R.fieldAddrP rfl Try.underlying36 rfl rfl sz5 rfl)) rfl rfl rfl ?_
    refine KL.op (R.load rfl Try.underlying5 rfl rfl (by first | exact cell_of bx rfl | assumption)) rfl rfl rfl ?_
    refine KL.call rfl rfl rfl rfl Try.call17 rfl rfl rfl (next_any es.bm es.wm es.mB x.op hxr.1 (by omega) (by omega)) ?_
    rintro _ H7 hR
    rcases hR with ⟨hnx, rfl, o2⟩ | ⟨hnx, rfl, o2⟩ | ⟨m2, vm2, hnx, rfl, hbm, hwm, f2, nx2, hv2⟩
    · skip
      have o0 := o0.trans ((o2).b (by omega))
      have fr := fr.old o2
      have rd := rd.old o2
      have obm := obm.trans o2
      have bx := (o2).blk bx
      refine KL.op (R.move rfl rfl) rfl rfl rfl ?_
      refine KL.op (R.extract rfl rfl rfl) rfl rfl rfl ?_
      refine KL.op (R.extract rfl rfl rfl) rfl rfl rfl ?_
      refine KL.op (R.assign rfl rfl) rfl rfl rfl ?_
      refine KL.op (R.assign rfl rfl) rfl rfl rfl ?_
      refine KL.nil ?_
      refine KQ.seq ?_
      refine KC.seq ?_
      refine KC.block ?_
      refine KC.seq ?_
      refine KC.region ?_
      refine KL.op (R.move rfl rfl) rfl rfl rfl ?_
      refine KL.op (R.assign rfl rfl) rfl rfl rfl ?_
      refine KL.nil ?_
      refine KQ.seq ?_
      refine KC.condT rfl ?_
      refine KC.region ?_
      refine KL.op (R.buildL rfl Try.underlying77 zr77 [(0, 1)] (fun w => by kernel_rfl) rfl ⟨⟨_, rfl, rfl⟩, trivial⟩ rfl rfl ⟨⟨_, rfl, by first | rfl⟩, trivial⟩ rfl) rfl rfl rfl ?_
      refine KL.op (R.makeIface rfl Try.underlying77 rfl rfl) rfl rfl rfl ?_
      refine KL.panic rfl rfl rfl ?_
      refine KQ.panBlock ?_
      refine KQ.panThen ?_
      refine KQ.panBlock ?_
      refine KQ.panThen ?_
      refine KQ.panBlock ?_
      exact KQ.pan (⟨60, hep.bad (by rw [List.drop_drop]; exact hp) hnx, rfl, fr⟩)
    · skip
      have o0 := o0.trans ((o2).b (by omega))
      have fr := fr.old o2
      have rd := rd.old o2
      have obm := obm.trans o2
      have bx := (o2).blk bx
      have es := es.old o2
      refine KL.op (R.move rfl rfl) rfl rfl rfl ?_
      refine KL.op (R.extract rfl rfl rfl) rfl rfl rfl ?_
      refine KL.op (R.extract rfl rfl rfl) rfl rfl rfl ?_
      refine KL.op (R.assign rfl rfl) rfl rfl rfl ?_
      refine KL.op (R.assign rfl rfl) rfl rfl rfl ?_
      refine KL.nil ?_
      refine KQ.seq ?_
      refine KC.seq ?_
      refine KC.block ?_
      refine KC.seq ?_
      refine KC.region ?_
      refine KL.op (R.move rfl rfl) rfl rfl rfl ?_
      refine KL.op (R.assign rfl rfl) rfl rfl rfl ?_
      refine KL.nil ?_
      refine KQ.seq ?_
      refine KC.condF rfl ?_
      refine KC.seq ?_
      refine KC.region ?_
      refine KL.op (R.move rfl rfl) rfl rfl rfl ?_
      refine KL.op (R.assign rfl rfl) rfl rfl rfl ?_
      refine KL.nil ?_
      refine KQ.seq ?_
      refine KC.condT rfl ?_
      refine KC.seq ?_
      refine KC.region ?_
      refine KL.op (R.move rfl rfl) rfl rfl rfl ?_
      refine KL.op (R.assign rfl rfl) rfl rfl rfl ?_
      refine KL.nil ?_
      refine KQ.seq ?_
      refine KC.ret ?_
      refine KQ.retBlock ?_
      refine KQ.retThen ?_
      refine KQ.retBlock ?_
      refine KQ.retThen ?_
      refine KQ.retBlock ?_
      refine KQ.ofRetX ?_
      refine KQ.toX ?_
      refine KQ.fin1 Try.results21 rfl ?_
      exact ⟨_, _, hep.over (by rw [List.drop_drop]; exact hp) hnx, OwnE.outlive es.wo es.gB, by rw [← Nat.add_assoc]; exact rd, fr⟩
    · skip
      have hgs := es0.apart (by omega) hwl nx2 (by omega)
      have rd := rd.frG f2 (by omega) (es.wm.lt.imp id (fun h => by omega))
      have zrd := rd.lt
      have fr := fr.low2 f2 (by omega) (es.wm.lt.imp id (fun h => by omega))
      have o0 : OldB 0 H H7 := fr.low (Nat.zero_le _) (Nat.zero_le _)
      have zf2 := f2.1
      have bx := (f2.2 _ (blk_lt bx) (by omega) (hvm.imp id (fun h => by omega))).trans bx
      have es1 := es
      have wl := wl.keepN (hwl.imp id (fun k => f2.2 _ (by omega) (by omega) (es0.wm.lt.imp id (fun q => by omega))))
      have es := es.mark hbm hwm f2 nx2 hv2
      refine KL.op (R.move rfl rfl) rfl rfl rfl ?_
      refine KL.op (R.extract rfl rfl rfl) rfl rfl rfl ?_
      refine KL.op (R.extract rfl rfl rfl) rfl rfl rfl ?_
      refine KL.op (R.assign rfl rfl) rfl rfl rfl ?_
      refine KL.op (R.assign rfl rfl) rfl rfl rfl ?_
      refine KL.nil ?_
      refine KQ.seq ?_
      refine KC.seq ?_
      refine KC.block ?_
      refine KC.seq ?_
      refine KC.region ?_
      refine KL.op (R.move rfl rfl) rfl rfl rfl ?_
      refine KL.op (R.assign rfl rfl) rfl rfl rfl ?_
      refine KL.nil ?_
      refine KQ.seq ?_
      refine KC.condF rfl ?_
      refine KC.seq ?_
      refine KC.region ?_
      refine KL.op (R.move rfl rfl) rfl rfl rfl ?_
      refine KL.op (R.assign rfl rfl) rfl rfl rfl ?_
      refine KL.nil ?_
      refine KQ.seq ?_
      refine KC.condF rfl ?_
      refine KC.skip ?_
      refine KQ.normBlock ?_
      refine KQ.seq ?_
      refine KC.region ?_
      refine KL.op (R.move rfl rfl) rfl rfl rfl ?_
      refine KL.op (R.loadAgg rfl Try.underlying36 rfl sz36 rfl (cells_of bx) rfl) rfl rfl rfl ?_
      refine KL.opM (M.lit rfl Try.underlying22 zs36 (by decide) rfl rfl rfl) rfl rfl rfl ?_
      rintro _ H8 ⟨rfl, n8⟩
      have z8 := n8.2.1
      have o0 := o0.trans ((n8.1).b (by omega))
      have rd := rd.old n8.1
      have bx := (n8.1).blk bx
      have fr := fr.old n8.1
      have b8 := n8.2.2
      have es := es.old n8.1
      have wl := wl.old n8.1
      have se : Sl 5 (FK EIns H8 (vblock vo :: (List.range (g + 1) ++ [(Array.size H), vblock vm2]))) H8 _ [x] := Sl.lit1N n8 rfl (by omega) (fun H2 kx => ⟨vl, rfl, fk_ownN wl hgs H2 kx, hxr.1, hxr.2.1, hxr.2.2.1, hxr.2.2.2⟩)
      have wo := es.wo
      have lt9 := wo.lt
      refine KL.opM (M.appendE rfl Try.underlying22 inf36 rfl (by decide) rfl rfl wo (se) (by omega) (by simp; omega) (by unfold maxLen; simp; omega)) rfl rfl rfl ?_
      rintro vn H9 ⟨w9, g9, nx9⟩
      try dsimp only at g9 nx9
      have ob9 := g9.oldBE wo (by omega)
      have o0 := o0.trans (ob9.mono (by omega))
      have z9 := ob9.1
      have rd := rd.grownT g9 (lt9.imp id (fun h => by omega))
      have fr := (by first | exact fr.grownN g9 (lt9.imp id (fun h => by omega)) | exact fr.grown nx g9)
      have wo := w9
      have es := es.add wo g9 nx9
      refine KL.op (R.assign rfl rfl) rfl rfl rfl ?_
      refine KL.nil ?_
      refine KQ.normBlock ?_
      refine KQ.again ((acc ++ [x], m2, k + k2, vn, vm2)) ?_ ?_ ?_
      · exact (Sub.cons rfl (Ext.sub (by repeat (first | exact Ext.refl _ _ | refine Ext.put rfl ?_ | refine Ext.drop rfl ?_))))
      · show l.length - (k + k2) < l.length - k; have := Isp.insP_pos hp; have := rd.le; omega
      · exact ⟨by rw [← Nat.add_assoc]; exact rd, es, by
          dsimp only
          have := hep.step (by rw [List.drop_drop]; exact hp) hnx
          rw [show l.length + 1 - (acc ++ [x]).length = l.length - acc.length by simp only [List.length_append, List.length_singleton]; omega]
          exact this, by have := Isp.insP_pos hp; simp only [List.length_append, List.length_singleton]; omega, (Isp.nx_range hmr hxr.1 hnx).1, by have := (Isp.nx_range hmr hxr.1 hnx).2; simp only [List.length_append, List.length_singleton]; omega, fr, by omega⟩

end Go.Proofs.Ytnjodpgahbpiaaa
