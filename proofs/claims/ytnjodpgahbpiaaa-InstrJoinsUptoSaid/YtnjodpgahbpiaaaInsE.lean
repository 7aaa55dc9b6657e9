/- What is done when a reader ends or throws. No condition. -/
import Derived.Test.YtnjodpgahbpiaaaInsD
import Derived.Test.YtnjodpgahbpiaaaKDef
namespace Go.Proofs.Ytnjodpgahbpiaaa
open Go Go.RowKit
set_option linter.unusedVariables false
set_option linter.unusedSimpArgs false
set_option linter.unnecessarySimpa false

def insZ : List Value := [.int .u8 0, .int .u32 0, .int .u32 0, .int .i64 0, .slice none 0 0]

set_option maxRecDepth 100000 in
set_option maxHeartbeats 4000000 in
theorem cloE_ret {H : Heap} {g1 g2 g3 : Nat} : CtDef Try.prog 33 [.pointer (some ⟨g1, 0, none⟩), .pointer (some ⟨g2, 0, none⟩), .pointer (some ⟨g3, 0, none⟩)] H (.returning) (fun u' H' => settle u' = .returning ∧ H' = H) := by
  refine CtDef.mk (u' := .returning) (r := .nilIface) Try.func33 rfl Try.ntmps33 rfl rfl rfl rfl rfl rfl rfl rfl rfl (⟨rfl, rfl⟩) ?_
  intro W0 hW0
  have o0 : Old H H := Old.refl H
  refine KC.seq ?_
  refine KC.region ?_
  refine KL.op (R.move rfl rfl) rfl rfl rfl ?_
  refine KL.op ((R.neqNilI rfl Try.underlying20 rfl rfl (by first | exact .inl rfl | exact .inr ⟨_, _, rfl⟩)).val (show _ = Value.bool false from rfl)) rfl rfl rfl ?_
  refine KL.nil ?_
  refine KQ.seq ?_
  refine KC.condF rfl ?_
  refine KC.skip ?_
  refine KQ.fin0 Try.results33 ?_
  exact ⟨rfl, rfl⟩

set_option maxRecDepth 100000 in
set_option maxHeartbeats 4000000 in
theorem cloE_pan {H : Heap} {g1 g2 g3 : Nat} {e : Int} {c1 : Value} {c2 c3 : Value} (ba : H[g1]? = some (.cells [c1].toArray 22 (0, 0))) (bb : H[g2]? = some (.cells [c2].toArray 3 (0, 0))) (bc : H[g3]? = some (.cells [c3].toArray 26 (0, 0))) (h12 : g1 < g2) (h23 : g2 < g3) : CtDef Try.prog 33 [.pointer (some ⟨g1, 0, none⟩), .pointer (some ⟨g2, 0, none⟩), .pointer (some ⟨g3, 0, none⟩)] H (.panicking (Pan (failV e))) (fun u' H' => settle u' = .returning ∧ OldB g1 H H' ∧ H'[g1]? = some (.cells [.slice none 0 0].toArray 22 (0, 0)) ∧ H'[g2]? = some (.cells [.int .i64 0].toArray 3 (0, 0)) ∧ H'[g3]? = some (.cells [.int .i64 e].toArray 26 (0, 0))) := by
  refine CtDef.mk (u' := .panicking [{ v := failV e, recovered := true }]) (r := failV e) Try.func33 rfl Try.ntmps33 rfl rfl rfl rfl rfl rfl rfl rfl rfl (⟨rfl, rfl⟩) ?_
  intro W0 hW0
  have o0 : OldB g1 H H := OldB.refl _ H
  have hlt1 := blk_lt ba
  have hlt2 := blk_lt bb
  have hlt3 := blk_lt bc
  unfold failV
  refine KC.seq ?_
  refine KC.region ?_
  refine KL.op (R.move rfl rfl) rfl rfl rfl ?_
  refine KL.op ((R.neqNilI rfl Try.underlying20 rfl rfl (by first | exact .inl rfl | exact .inr ⟨_, _, rfl⟩)).val (show _ = Value.bool true from rfl)) rfl rfl rfl ?_
  refine KL.nil ?_
  refine KQ.seq ?_
  refine KC.condT rfl ?_
  refine KC.seq ?_
  refine KC.region ?_
  refine KL.op (R.move rfl rfl) rfl rfl rfl ?_
  refine KL.op (R.assertIs rfl Try.underlying77 rfl rfl) rfl rfl rfl ?_
  refine KL.op (R.move rfl rfl) rfl rfl rfl ?_
  refine KL.op (R.extract rfl rfl rfl) rfl rfl rfl ?_
  refine KL.op (R.extract rfl rfl rfl) rfl rfl rfl ?_
  refine KL.opM (M.alloc rfl zr77 rfl) rfl rfl rfl ?_
  rintro _ H1 ⟨rfl, n1⟩
  have z1 := n1.2.1
  have o0 := o0.trans ((n1.1).b (by omega))
  have ba := (n1.1).blk ba
  have bb := (n1.1).blk bb
  have bc := (n1.1).blk bc
  have b1 := n1.2.2
  have bf := b1
  refine KL.opS (S.storeAgg rfl sz77 rfl rfl (rfl) (by intro u hu; simp only [List.mem_cons, List.not_mem_nil, or_false] at hu; subst hu; rfl) bf (by simp)) rfl rfl ?_
  rintro H2 ⟨u2, b2⟩
  have o0 := o0.trans (OldB.upd u2 (by omega))
  have zu2 := u2.1
  have ba := ((u2).2 _ (by omega)).trans ba
  have bb := ((u2).2 _ (by omega)).trans bb
  have bc := ((u2).2 _ (by omega)).trans bc
  have bf := b2
  rw [over_all (by rfl)] at bf
  refine KL.op (R.assign rfl rfl) rfl rfl rfl ?_
  refine KL.nil ?_
  refine KQ.seq ?_
  refine KC.seq ?_
  refine KC.seq ?_
  refine KC.region ?_
  refine KL.op (R.move rfl rfl) rfl rfl rfl ?_
  refine KL.op (R.not rfl rfl) rfl rfl rfl ?_
  refine KL.nil ?_
  refine KQ.seq ?_
  refine KC.condF rfl ?_
  refine KC.skip ?_
  refine KQ.seq ?_
  refine KC.seq ?_
  refine KC.region ?_
  refine KL.op (R.assign rfl rfl) rfl rfl rfl ?_
  refine KL.nil ?_
  refine KQ.seq ?_
  refine KC.text (clOf [(3, 2), (4, 2), (5, 2)]) (fun _ Hc => Hc[_]? = some _) (by kernel_rfl) (by kernel_rfl) (fun _ => bf) ?_
  refine KP.op rfl (fun Hg hg => R.move rfl rfl) rfl rfl rfl ?_
  refine KP.op rfl (fun Hg hg => (by first | exact R.fieldAddr rfl Try.underlying77 rfl rfl sz26 rfl | exact R.fieldAddrP rfl Try.underlying77 rfl rfl sz26 rfl)) rfl rfl rfl ?_
  refine KP.op rfl (fun Hg hg => R.load rfl Try.underlying26 rfl rfl (cell_of hg rfl)) rfl rfl rfl ?_
  refine KP.opS rfl (S.store rfl sz22 rfl rfl rfl rfl ba (by simp)) rfl rfl (fun _ h _ _ _ => (h.1.2 _ (by omega)).trans bf) ?_
  rintro H3 ⟨u3, b3⟩
  have o0 := o0.trans (OldB.upd u3 (by omega))
  have zu3 := u3.1
  have bb := ((u3).2 _ (by omega)).trans bb
  have bc := ((u3).2 _ (by omega)).trans bc
  have bf := ((u3).2 _ (by omega)).trans bf
  have ba := b3
  refine KP.opS rfl (S.store rfl sz3 rfl rfl rfl rfl bb (by simp)) rfl rfl (fun _ h _ _ _ => (h.1.2 _ (by omega)).trans bf) ?_
  rintro H4 ⟨u4, b4⟩
  have o0 := o0.trans (OldB.upd u4 (by omega))
  have zu4 := u4.1
  have ba := ((u4).2 _ (by omega)).trans ba
  have bc := ((u4).2 _ (by omega)).trans bc
  have bf := ((u4).2 _ (by omega)).trans bf
  have bb := b4
  refine KP.opS rfl (S.store rfl sz26 rfl rfl rfl rfl bc (by simp)) rfl rfl (fun _ h _ _ _ => (h.1.2 _ (by omega)).trans bf) ?_
  rintro H5 ⟨u5, b5⟩
  have o0 := o0.trans (OldB.upd u5 (by omega))
  have zu5 := u5.1
  have ba := ((u5).2 _ (by omega)).trans ba
  have bb := ((u5).2 _ (by omega)).trans bb
  have bf := ((u5).2 _ (by omega)).trans bf
  have bc := b5
  refine KP.nil ?_
  refine KQ.fin0 Try.results33 ?_
  exact ⟨rfl, o0, ba, bb, bc⟩

set_option maxRecDepth 100000 in
set_option maxHeartbeats 4000000 in
theorem cloI_ret {H : Heap} {g1 g2 g3 : Nat} : CtDef Try.prog 39 [.pointer (some ⟨g1, 0, none⟩), .pointer (some ⟨g2, 0, none⟩), .pointer (some ⟨g3, 0, none⟩)] H (.returning) (fun u' H' => settle u' = .returning ∧ H' = H) := by
  refine CtDef.mk (u' := .returning) (r := .nilIface) Try.func39 rfl Try.ntmps39 rfl rfl rfl rfl rfl rfl rfl rfl rfl (⟨rfl, rfl⟩) ?_
  intro W0 hW0
  have o0 : Old H H := Old.refl H
  refine KC.seq ?_
  refine KC.region ?_
  refine KL.op (R.move rfl rfl) rfl rfl rfl ?_
  refine KL.op ((R.neqNilI rfl Try.underlying20 rfl rfl (by first | exact .inl rfl | exact .inr ⟨_, _, rfl⟩)).val (show _ = Value.bool false from rfl)) rfl rfl rfl ?_
  refine KL.nil ?_
  refine KQ.seq ?_
  refine KC.condF rfl ?_
  refine KC.skip ?_
  refine KQ.fin0 Try.results39 ?_
  exact ⟨rfl, rfl⟩

set_option maxRecDepth 100000 in
set_option maxHeartbeats 4000000 in
theorem cloI_pan {H : Heap} {g1 g2 g3 : Nat} {e : Int} {l1 : List Value} {c2 c3 : Value} (ba : H[g1]? = some (.cells l1.toArray 36 (0, 0))) (bb : H[g2]? = some (.cells [c2].toArray 3 (0, 0))) (bc : H[g3]? = some (.cells [c3].toArray 26 (0, 0))) (h12 : g1 < g2) (h23 : g2 < g3) (hl1 : l1.length = 5) : CtDef Try.prog 39 [.pointer (some ⟨g1, 0, none⟩), .pointer (some ⟨g2, 0, none⟩), .pointer (some ⟨g3, 0, none⟩)] H (.panicking (Pan (failV e))) (fun u' H' => settle u' = .returning ∧ OldB g1 H H' ∧ H'[g1]? = some (.cells [.int .u8 0, .int .u32 0, .int .u32 0, .int .i64 0, .slice none 0 0].toArray 36 (0, 0)) ∧ H'[g2]? = some (.cells [.int .i64 0].toArray 3 (0, 0)) ∧ H'[g3]? = some (.cells [.int .i64 e].toArray 26 (0, 0))) := by
  refine CtDef.mk (u' := .panicking [{ v := failV e, recovered := true }]) (r := failV e) Try.func39 rfl Try.ntmps39 rfl rfl rfl rfl rfl rfl rfl rfl rfl (⟨rfl, rfl⟩) ?_
  intro W0 hW0
  have o0 : OldB g1 H H := OldB.refl _ H
  have hlt1 := blk_lt ba
  have hlt2 := blk_lt bb
  have hlt3 := blk_lt bc
  unfold failV
  refine KC.seq ?_
  refine KC.region ?_
  refine KL.op (R.move rfl rfl) rfl rfl rfl ?_
  refine KL.op ((R.neqNilI rfl Try.underlying20 rfl rfl (by first | exact .inl rfl | exact .inr ⟨_, _, rfl⟩)).val (show _ = Value.bool true from rfl)) rfl rfl rfl ?_
  refine KL.nil ?_
  refine KQ.seq ?_
  refine KC.condT rfl ?_
  refine KC.seq ?_
  refine KC.region ?_
  refine KL.op (R.move rfl rfl) rfl rfl rfl ?_
  refine KL.op (R.assertIs rfl Try.underlying77 rfl rfl) rfl rfl rfl ?_
  refine KL.op (R.move rfl rfl) rfl rfl rfl ?_
  refine KL.op (R.extract rfl rfl rfl) rfl rfl rfl ?_
  refine KL.op (R.extract rfl rfl rfl) rfl rfl rfl ?_
  refine KL.opM (M.alloc rfl zr77 rfl) rfl rfl rfl ?_
  rintro _ H1 ⟨rfl, n1⟩
  have z1 := n1.2.1
  have o0 := o0.trans ((n1.1).b (by omega))
  have ba := (n1.1).blk ba
  have bb := (n1.1).blk bb
  have bc := (n1.1).blk bc
  have b1 := n1.2.2
  have bf := b1
  refine KL.opS (S.storeAgg rfl sz77 rfl rfl (rfl) (by intro u hu; simp only [List.mem_cons, List.not_mem_nil, or_false] at hu; subst hu; rfl) bf (by simp)) rfl rfl ?_
  rintro H2 ⟨u2, b2⟩
  have o0 := o0.trans (OldB.upd u2 (by omega))
  have zu2 := u2.1
  have ba := ((u2).2 _ (by omega)).trans ba
  have bb := ((u2).2 _ (by omega)).trans bb
  have bc := ((u2).2 _ (by omega)).trans bc
  have bf := b2
  rw [over_all (by rfl)] at bf
  refine KL.op (R.assign rfl rfl) rfl rfl rfl ?_
  refine KL.nil ?_
  refine KQ.seq ?_
  refine KC.seq ?_
  refine KC.seq ?_
  refine KC.region ?_
  refine KL.op (R.move rfl rfl) rfl rfl rfl ?_
  refine KL.op (R.not rfl rfl) rfl rfl rfl ?_
  refine KL.nil ?_
  refine KQ.seq ?_
  refine KC.condF rfl ?_
  refine KC.skip ?_
  refine KQ.seq ?_
  refine KC.seq ?_
  refine KC.region ?_
  refine KL.opM (M.alloc rfl zr36 rfl) rfl rfl rfl ?_
  rintro _ H3 ⟨rfl, n3⟩
  have z3 := n3.2.1
  have o0 := o0.trans ((n3.1).b (by omega))
  have ba := (n3.1).blk ba
  have bb := (n3.1).blk bb
  have bc := (n3.1).blk bc
  have bf := (n3.1).blk bf
  have b3 := n3.2.2
  have bz := b3
  refine KL.nil ?_
  refine KQ.seq ?_
  refine KC.text (clOf [(3, 2), (4, 2), (5, 2)]) (fun i Hc => (i = 0 → Hc[Array.size H2]? = some _) ∧ (i = 2 → Hc[_]? = some _)) (by kernel_rfl) (by kernel_rfl) (fun _ => ⟨fun _ => bz, fun _ => bf⟩) ?_
  refine KP.op rfl (fun Hg hg => R.loadAgg rfl Try.underlying36 rfl sz36 rfl (cells_of (hg.1 rfl)) rfl) rfl rfl rfl ?_
  refine KP.op rfl (fun Hg hg => (by first | exact R.fieldAddr rfl Try.underlying77 rfl rfl sz26 rfl | exact R.fieldAddrP rfl Try.underlying77 rfl rfl sz26 rfl)) rfl rfl rfl ?_
  refine KP.op rfl (fun Hg hg => R.load rfl Try.underlying26 rfl rfl (cell_of (hg.2 rfl) rfl)) rfl rfl rfl ?_
  refine KP.opS rfl (S.storeAgg rfl sz36 rfl rfl (rfl) (by intro u hu; simp only [List.mem_cons, List.not_mem_nil, or_false] at hu; rcases hu with rfl | rfl | rfl | rfl | rfl <;> rfl) ba (by simp [hl1])) rfl rfl (fun _ h _ _ _ => ⟨fun _ => (h.1.2 _ (by omega)).trans bz, fun _ => (h.1.2 _ (by omega)).trans bf⟩) ?_
  rintro H4 ⟨u4, b4⟩
  have o0 := o0.trans (OldB.upd u4 (by omega))
  have zu4 := u4.1
  have bb := ((u4).2 _ (by omega)).trans bb
  have bc := ((u4).2 _ (by omega)).trans bc
  have bf := ((u4).2 _ (by omega)).trans bf
  have bz := ((u4).2 _ (by omega)).trans bz
  have ba := b4
  rw [over_all (by rw [hl1]; rfl)] at ba
  refine KP.opS rfl (S.store rfl sz3 rfl rfl rfl rfl bb (by simp)) rfl rfl (fun _ h _ _ _ => ⟨fun _ => (h.1.2 _ (by omega)).trans bz, fun _ => (h.1.2 _ (by omega)).trans bf⟩) ?_
  rintro H5 ⟨u5, b5⟩
  have o0 := o0.trans (OldB.upd u5 (by omega))
  have zu5 := u5.1
  have ba := ((u5).2 _ (by omega)).trans ba
  have bc := ((u5).2 _ (by omega)).trans bc
  have bf := ((u5).2 _ (by omega)).trans bf
  have bz := ((u5).2 _ (by omega)).trans bz
  have bb := b5
  refine KP.opS rfl (S.store rfl sz26 rfl rfl rfl rfl bc (by simp)) rfl rfl (fun _ h _ _ _ => ⟨fun _ => (h.1.2 _ (by omega)).trans bz, fun _ => (h.1.2 _ (by omega)).trans bf⟩) ?_
  rintro H6 ⟨u6, b6⟩
  have o0 := o0.trans (OldB.upd u6 (by omega))
  have zu6 := u6.1
  have ba := ((u6).2 _ (by omega)).trans ba
  have bb := ((u6).2 _ (by omega)).trans bb
  have bf := ((u6).2 _ (by omega)).trans bf
  have bz := ((u6).2 _ (by omega)).trans bz
  have bc := b6
  refine KP.nil ?_
  refine KQ.fin0 Try.results39 ?_
  exact ⟨rfl, o0, ba, bb, bc⟩

end Go.Proofs.Ytnjodpgahbpiaaa
