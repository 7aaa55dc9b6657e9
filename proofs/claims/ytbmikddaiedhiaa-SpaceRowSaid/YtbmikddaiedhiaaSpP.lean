/- The chapter's rows. No condition. -/
import Derived.Test.YtbmikddaiedhiaaSpO
namespace Go.Proofs.Ytbmikddaiedhiaa
open Go Go.RowKit
set_option linter.unusedVariables false
set_option linter.unusedSimpArgs false
set_option linter.unnecessarySimpa false
set_option maxRecDepth 100000 in
set_option maxHeartbeats 4000000 in
theorem known_any {H : Heap} : Ct Try.prog 6 [] H (fun u H' => u = .bool true ∧ Old H H') := by
  refine Ct.mk Try.func6 rfl Try.ntmps6 rfl ?_
  intro W0 hW0
  have o0 : Old H H := Old.refl H
  refine KC.seq ?_
  refine KC.region ?_
  refine KL.op (R.assign rfl rfl) rfl rfl rfl ?_
  refine KL.nil ?_
  refine KQ.seq ?_
  refine KC.seq ?_
  refine KC.region ?_
  refine KL.call rfl rfl rfl rfl Try.call25 rfl rfl rfl (module_any) ?_
  rintro _ H1 ⟨⟨v0, v1, v2, v3, v4, v5, v6, v7, v8, v9, va, vb, rfl, mv⟩, ox⟩
  have zc_H1 := (ox).1
  have o0 := o0.trans ox
  refine KL.call rfl rfl rfl rfl Try.call10 rfl rfl rfl (Of_any mv M0_small) ?_
  rintro _ H2 ⟨g, vt, vf, vg, wa, vm, ve, rfl, sp, hg, ox⟩
  have zc_H2 := (ox).1
  have o0 := o0.trans ox
  have oS : Old H2 H2 := Old.refl _
  refine KL.op (R.assign rfl rfl) rfl rfl rfl ?_
  refine KL.nil ?_
  refine KQ.seq ?_
  refine KC.seq ?_
  refine KC.seq ?_
  refine KC.region ?_
  refine KL.op (R.move rfl rfl) rfl rfl rfl ?_
  refine KL.call rfl rfl rfl rfl Try.call21 rfl rfl rfl (SCount_any (sp.old oS) 0) ?_
  rintro _ _ ⟨rfl, rfl⟩
  refine KL.op ((R.neq rfl rfl rfl).val ((congrArg (fun b => Value.bool (!b)) (decide_eq_true (by rfl))))) rfl rfl rfl ?_
  refine KL.op (R.move rfl rfl) rfl rfl rfl ?_
  refine KL.op (R.move rfl rfl) rfl rfl rfl ?_
  refine KL.call rfl rfl rfl rfl Try.call23 rfl rfl rfl (SImp_any (sp.old oS) 0) ?_
  rintro _ _ ⟨rfl, rfl⟩
  refine KL.op ((R.neq rfl rfl rfl).val ((congrArg (fun b => Value.bool (!b)) (decide_eq_true (by rfl))))) rfl rfl rfl ?_
  refine KL.op (R.pick rfl rfl rfl) rfl rfl rfl ?_
  refine KL.op (R.move rfl rfl) rfl rfl rfl ?_
  refine KL.op (R.move rfl rfl) rfl rfl rfl ?_
  refine KL.call rfl rfl rfl rfl Try.call21 rfl rfl rfl (SCount_any (sp.old oS) 3) ?_
  rintro _ _ ⟨rfl, rfl⟩
  refine KL.op ((R.neq rfl rfl rfl).val ((congrArg (fun b => Value.bool (!b)) (decide_eq_true (by rfl))))) rfl rfl rfl ?_
  refine KL.op (R.pick rfl rfl rfl) rfl rfl rfl ?_
  refine KL.op (R.move rfl rfl) rfl rfl rfl ?_
  refine KL.op (R.move rfl rfl) rfl rfl rfl ?_
  refine KL.call rfl rfl rfl rfl Try.call21 rfl rfl rfl (SCount_any (sp.old oS) 4) ?_
  rintro _ _ ⟨rfl, rfl⟩
  refine KL.op ((R.neq rfl rfl rfl).val ((congrArg (fun b => Value.bool (!b)) (decide_eq_true (by rfl))))) rfl rfl rfl ?_
  refine KL.op (R.pick rfl rfl rfl) rfl rfl rfl ?_
  refine KL.nil ?_
  refine KQ.seq ?_
  refine KC.condF rfl ?_
  refine KC.skip ?_
  refine KQ.seq ?_
  refine KC.seq ?_
  refine KC.region ?_
  refine KL.op (R.move rfl rfl) rfl rfl rfl ?_
  refine KL.call rfl rfl rfl rfl Try.call11 rfl rfl rfl (SFunc_any (sp.old oS) 0 (by decide) (by decide)) ?_
  rintro _ H3 ⟨⟨aA, bA, rfl, wA, xA⟩, ox⟩
  have zc_H3 := (ox).1
  have o0 := o0.trans ox
  have oS := oS.trans ox
  have sA := wA.sl (emptyOld _) (by decide)
  have tA := xA.sl (emptyOld _) (by decide)
  have oA : Old H3 H3 := Old.refl _
  refine KL.op (R.move rfl rfl) rfl rfl rfl ?_
  refine KL.op (R.extract rfl rfl rfl) rfl rfl rfl ?_
  refine KL.op ((R.extract rfl rfl rfl).val (show _ = Value.bool true from rfl)) rfl rfl rfl ?_
  refine KL.opM (M.alloc rfl zr24 rfl) rfl rfl rfl ?_
  rintro _ H4 ⟨rfl, n4⟩
  have z4 := n4.2.1
  have o0 := o0.trans n4.1
  have oS := oS.trans n4.1
  have oA := oA.trans n4.1
  have b4 := n4.2.2
  have q2 := b4
  refine KL.opS (S.storeAgg rfl sz24 rfl rfl (rfl) (by intro u hu; simp only [List.mem_cons, List.not_mem_nil, or_false] at hu; rcases hu with rfl | rfl <;> first | rfl | exact sA.one | exact tA.one) q2 (by simp)) rfl rfl ?_
  rintro H5 ⟨u5, b5⟩
  have o0 := o0.upd u5 (by omega)
  have zu5 := u5.1
  have oS := oS.upd u5 (by omega)
  have oA := oA.upd u5 (by omega)
  have q2 := b5
  rw [over_all (by rfl)] at q2
  refine KL.op (R.assign rfl rfl) rfl rfl rfl ?_
  refine KL.nil ?_
  refine KQ.seq ?_
  refine KC.seq ?_
  refine KC.region ?_
  refine KL.op (R.move rfl rfl) rfl rfl rfl ?_
  refine KL.call rfl rfl rfl rfl Try.call11 rfl rfl rfl (SFunc_any (sp.old oS) 1 (by decide) (by decide)) ?_
  rintro _ H6 ⟨⟨aB, bB, rfl, wB, xB⟩, ox⟩
  have zc_H6 := (ox).1
  have o0 := o0.trans ox
  have oS := oS.trans ox
  have oA := oA.trans ox
  have q2 := (ox).blk q2
  have sB := wB.sl (emptyOld _) (by decide)
  have tB := xB.sl (emptyOld _) (by decide)
  have oB : Old H6 H6 := Old.refl _
  refine KL.op (R.move rfl rfl) rfl rfl rfl ?_
  refine KL.op (R.extract rfl rfl rfl) rfl rfl rfl ?_
  refine KL.op ((R.extract rfl rfl rfl).val (show _ = Value.bool true from rfl)) rfl rfl rfl ?_
  refine KL.opM (M.alloc rfl zr24 rfl) rfl rfl rfl ?_
  rintro _ H7 ⟨rfl, n7⟩
  have z7 := n7.2.1
  have o0 := o0.trans n7.1
  have oS := oS.trans n7.1
  have oA := oA.trans n7.1
  have q2 := (n7.1).blk q2
  have oB := oB.trans n7.1
  have b7 := n7.2.2
  have q4 := b7
  refine KL.opS (S.storeAgg rfl sz24 rfl rfl (rfl) (by intro u hu; simp only [List.mem_cons, List.not_mem_nil, or_false] at hu; rcases hu with rfl | rfl <;> first | rfl | exact sB.one | exact tB.one) q4 (by simp)) rfl rfl ?_
  rintro H8 ⟨u8, b8⟩
  have o0 := o0.upd u8 (by omega)
  have zu8 := u8.1
  have oS := oS.upd u8 (by omega)
  have oA := oA.upd u8 (by omega)
  have q2 := ((u8).2 _ (by omega)).trans q2
  have oB := oB.upd u8 (by omega)
  have q4 := b8
  rw [over_all (by rfl)] at q4
  refine KL.op (R.assign rfl rfl) rfl rfl rfl ?_
  refine KL.nil ?_
  refine KQ.seq ?_
  refine KC.seq ?_
  refine KC.region ?_
  refine KL.op (R.move rfl rfl) rfl rfl rfl ?_
  refine KL.call rfl rfl rfl rfl Try.call11 rfl rfl rfl (SFunc_any (sp.old oS) 2 (by decide) (by decide)) ?_
  rintro _ H9 ⟨⟨aC, bC, rfl, wC, xC⟩, ox⟩
  have zc_H9 := (ox).1
  have o0 := o0.trans ox
  have oS := oS.trans ox
  have oA := oA.trans ox
  have q2 := (ox).blk q2
  have oB := oB.trans ox
  have q4 := (ox).blk q4
  have sC := wC.sl (emptyOld _) (by decide)
  have tC := xC.sl (emptyOld _) (by decide)
  have oC : Old H9 H9 := Old.refl _
  refine KL.op (R.move rfl rfl) rfl rfl rfl ?_
  refine KL.op (R.extract rfl rfl rfl) rfl rfl rfl ?_
  refine KL.op ((R.extract rfl rfl rfl).val (show _ = Value.bool true from rfl)) rfl rfl rfl ?_
  refine KL.opM (M.alloc rfl zr24 rfl) rfl rfl rfl ?_
  rintro _ H10 ⟨rfl, n10⟩
  have z10 := n10.2.1
  have o0 := o0.trans n10.1
  have oS := oS.trans n10.1
  have oA := oA.trans n10.1
  have q2 := (n10.1).blk q2
  have oB := oB.trans n10.1
  have q4 := (n10.1).blk q4
  have oC := oC.trans n10.1
  have b10 := n10.2.2
  have q6 := b10
  refine KL.opS (S.storeAgg rfl sz24 rfl rfl (rfl) (by intro u hu; simp only [List.mem_cons, List.not_mem_nil, or_false] at hu; rcases hu with rfl | rfl <;> first | rfl | exact sC.one | exact tC.one) q6 (by simp)) rfl rfl ?_
  rintro H11 ⟨u11, b11⟩
  have o0 := o0.upd u11 (by omega)
  have zu11 := u11.1
  have oS := oS.upd u11 (by omega)
  have oA := oA.upd u11 (by omega)
  have q2 := ((u11).2 _ (by omega)).trans q2
  have oB := oB.upd u11 (by omega)
  have q4 := ((u11).2 _ (by omega)).trans q4
  have oC := oC.upd u11 (by omega)
  have q6 := b11
  rw [over_all (by rfl)] at q6
  refine KL.op (R.assign rfl rfl) rfl rfl rfl ?_
  refine KL.nil ?_
  refine KQ.seq ?_
  refine KC.seq ?_
  refine KC.region ?_
  refine KL.op (R.move rfl rfl) rfl rfl rfl ?_
  refine KL.call rfl rfl rfl rfl Try.call11 rfl rfl rfl (SFunc_any (sp.old oS) 3 (by decide) (by decide)) ?_
  rintro _ H12 ⟨⟨aD, bD, rfl, wD, xD⟩, ox⟩
  have zc_H12 := (ox).1
  have o0 := o0.trans ox
  have oS := oS.trans ox
  have oA := oA.trans ox
  have q2 := (ox).blk q2
  have oB := oB.trans ox
  have q4 := (ox).blk q4
  have oC := oC.trans ox
  have q6 := (ox).blk q6
  have sD := wD.sl (emptyOld _) (by decide)
  have tD := xD.sl (emptyOld _) (by decide)
  have oD : Old H12 H12 := Old.refl _
  refine KL.op (R.move rfl rfl) rfl rfl rfl ?_
  refine KL.op (R.extract rfl rfl rfl) rfl rfl rfl ?_
  refine KL.op ((R.extract rfl rfl rfl).val (show _ = Value.bool false from rfl)) rfl rfl rfl ?_
  refine KL.opM (M.alloc rfl zr24 rfl) rfl rfl rfl ?_
  rintro _ H13 ⟨rfl, n13⟩
  have z13 := n13.2.1
  have o0 := o0.trans n13.1
  have oS := oS.trans n13.1
  have oA := oA.trans n13.1
  have q2 := (n13.1).blk q2
  have oB := oB.trans n13.1
  have q4 := (n13.1).blk q4
  have oC := oC.trans n13.1
  have q6 := (n13.1).blk q6
  have oD := oD.trans n13.1
  have b13 := n13.2.2
  have q8 := b13
  refine KL.opS (S.storeAgg rfl sz24 rfl rfl (rfl) (by intro u hu; simp only [List.mem_cons, List.not_mem_nil, or_false] at hu; rcases hu with rfl | rfl <;> first | rfl | exact sD.one | exact tD.one) q8 (by simp)) rfl rfl ?_
  rintro H14 ⟨u14, b14⟩
  have o0 := o0.upd u14 (by omega)
  have zu14 := u14.1
  have oS := oS.upd u14 (by omega)
  have oA := oA.upd u14 (by omega)
  have q2 := ((u14).2 _ (by omega)).trans q2
  have oB := oB.upd u14 (by omega)
  have q4 := ((u14).2 _ (by omega)).trans q4
  have oC := oC.upd u14 (by omega)
  have q6 := ((u14).2 _ (by omega)).trans q6
  have oD := oD.upd u14 (by omega)
  have q8 := b14
  rw [over_all (by rfl)] at q8
  refine KL.op (R.assign rfl rfl) rfl rfl rfl ?_
  refine KL.nil ?_
  refine KQ.seq ?_
  refine KC.seq ?_
  refine KC.region ?_
  refine KL.op (R.move rfl rfl) rfl rfl rfl ?_
  refine KL.call rfl rfl rfl rfl Try.call11 rfl rfl rfl (SFunc_any (sp.old oS) 4 (by decide) (by decide)) ?_
  rintro _ H15 ⟨⟨aE, bE, rfl, wE, xE⟩, ox⟩
  have zc_H15 := (ox).1
  have o0 := o0.trans ox
  have oS := oS.trans ox
  have oA := oA.trans ox
  have q2 := (ox).blk q2
  have oB := oB.trans ox
  have q4 := (ox).blk q4
  have oC := oC.trans ox
  have q6 := (ox).blk q6
  have oD := oD.trans ox
  have q8 := (ox).blk q8
  have sE := wE.sl (emptyOld _) (by decide)
  have tE := xE.sl (emptyOld _) (by decide)
  have oE : Old H15 H15 := Old.refl _
  refine KL.op (R.move rfl rfl) rfl rfl rfl ?_
  refine KL.op (R.extract rfl rfl rfl) rfl rfl rfl ?_
  refine KL.op ((R.extract rfl rfl rfl).val (show _ = Value.bool false from rfl)) rfl rfl rfl ?_
  refine KL.opM (M.alloc rfl zr24 rfl) rfl rfl rfl ?_
  rintro _ H16 ⟨rfl, n16⟩
  have z16 := n16.2.1
  have o0 := o0.trans n16.1
  have oS := oS.trans n16.1
  have oA := oA.trans n16.1
  have q2 := (n16.1).blk q2
  have oB := oB.trans n16.1
  have q4 := (n16.1).blk q4
  have oC := oC.trans n16.1
  have q6 := (n16.1).blk q6
  have oD := oD.trans n16.1
  have q8 := (n16.1).blk q8
  have oE := oE.trans n16.1
  have b16 := n16.2.2
  have qa := b16
  refine KL.opS (S.storeAgg rfl sz24 rfl rfl (rfl) (by intro u hu; simp only [List.mem_cons, List.not_mem_nil, or_false] at hu; rcases hu with rfl | rfl <;> first | rfl | exact sE.one | exact tE.one) qa (by simp)) rfl rfl ?_
  rintro H17 ⟨u17, b17⟩
  have o0 := o0.upd u17 (by omega)
  have zu17 := u17.1
  have oS := oS.upd u17 (by omega)
  have oA := oA.upd u17 (by omega)
  have q2 := ((u17).2 _ (by omega)).trans q2
  have oB := oB.upd u17 (by omega)
  have q4 := ((u17).2 _ (by omega)).trans q4
  have oC := oC.upd u17 (by omega)
  have q6 := ((u17).2 _ (by omega)).trans q6
  have oD := oD.upd u17 (by omega)
  have q8 := ((u17).2 _ (by omega)).trans q8
  have oE := oE.upd u17 (by omega)
  have qa := b17
  rw [over_all (by rfl)] at qa
  refine KL.op (R.assign rfl rfl) rfl rfl rfl ?_
  refine KL.nil ?_
  refine KQ.seq ?_
  refine KC.seq ?_
  refine KC.region ?_
  refine KL.op (R.move rfl rfl) rfl rfl rfl ?_
  refine KL.call rfl rfl rfl rfl Try.call17 rfl rfl rfl (SMem_v (sp.old oS) 0 (by decide)) ?_
  rintro _ H18 ⟨rfl, ox⟩
  have zc_H18 := (ox).1
  have o0 := o0.trans ox
  have oS := oS.trans ox
  have oA := oA.trans ox
  have q2 := (ox).blk q2
  have oB := oB.trans ox
  have q4 := (ox).blk q4
  have oC := oC.trans ox
  have q6 := (ox).blk q6
  have oD := oD.trans ox
  have q8 := (ox).blk q8
  have oE := oE.trans ox
  have qa := (ox).blk qa
  refine KL.op (R.move rfl rfl) rfl rfl rfl ?_
  refine KL.op (R.extract rfl rfl rfl) rfl rfl rfl ?_
  refine KL.op ((R.extract rfl rfl rfl).val (show _ = Value.bool true from rfl)) rfl rfl rfl ?_
  refine KL.opM (M.alloc rfl zr51 rfl) rfl rfl rfl ?_
  rintro _ H19 ⟨rfl, n19⟩
  have z19 := n19.2.1
  have o0 := o0.trans n19.1
  have oS := oS.trans n19.1
  have oA := oA.trans n19.1
  have q2 := (n19.1).blk q2
  have oB := oB.trans n19.1
  have q4 := (n19.1).blk q4
  have oC := oC.trans n19.1
  have q6 := (n19.1).blk q6
  have oD := oD.trans n19.1
  have q8 := (n19.1).blk q8
  have oE := oE.trans n19.1
  have qa := (n19.1).blk qa
  have b19 := n19.2.2
  have qc := b19
  refine KL.opS (S.storeAgg (us := Lim.cells _) rfl sz51 rfl rfl (rfl) (by exact one_lim) qc (by decide)) rfl rfl ?_
  rintro H20 ⟨u20, b20⟩
  have o0 := o0.upd u20 (by omega)
  have zu20 := u20.1
  have oS := oS.upd u20 (by omega)
  have oA := oA.upd u20 (by omega)
  have q2 := ((u20).2 _ (by omega)).trans q2
  have oB := oB.upd u20 (by omega)
  have q4 := ((u20).2 _ (by omega)).trans q4
  have oC := oC.upd u20 (by omega)
  have q6 := ((u20).2 _ (by omega)).trans q6
  have oD := oD.upd u20 (by omega)
  have q8 := ((u20).2 _ (by omega)).trans q8
  have oE := oE.upd u20 (by omega)
  have qa := ((u20).2 _ (by omega)).trans qa
  have qc := b20
  rw [over_all (by rfl)] at qc
  refine KL.op (R.assign rfl rfl) rfl rfl rfl ?_
  refine KL.nil ?_
  refine KQ.seq ?_
  refine KC.seq ?_
  refine KC.region ?_
  refine KL.op (R.move rfl rfl) rfl rfl rfl ?_
  refine KL.call rfl rfl rfl rfl Try.call17 rfl rfl rfl (SMem_v (sp.old oS) 1 (by decide)) ?_
  rintro _ H21 ⟨rfl, ox⟩
  have zc_H21 := (ox).1
  have o0 := o0.trans ox
  have oS := oS.trans ox
  have oA := oA.trans ox
  have q2 := (ox).blk q2
  have oB := oB.trans ox
  have q4 := (ox).blk q4
  have oC := oC.trans ox
  have q6 := (ox).blk q6
  have oD := oD.trans ox
  have q8 := (ox).blk q8
  have oE := oE.trans ox
  have qa := (ox).blk qa
  have qc := (ox).blk qc
  refine KL.op (R.move rfl rfl) rfl rfl rfl ?_
  refine KL.op (R.extract rfl rfl rfl) rfl rfl rfl ?_
  refine KL.op ((R.extract rfl rfl rfl).val (show _ = Value.bool false from rfl)) rfl rfl rfl ?_
  refine KL.opM (M.alloc rfl zr51 rfl) rfl rfl rfl ?_
  rintro _ H22 ⟨rfl, n22⟩
  have z22 := n22.2.1
  have o0 := o0.trans n22.1
  have oS := oS.trans n22.1
  have oA := oA.trans n22.1
  have q2 := (n22.1).blk q2
  have oB := oB.trans n22.1
  have q4 := (n22.1).blk q4
  have oC := oC.trans n22.1
  have q6 := (n22.1).blk q6
  have oD := oD.trans n22.1
  have q8 := (n22.1).blk q8
  have oE := oE.trans n22.1
  have qa := (n22.1).blk qa
  have qc := (n22.1).blk qc
  have b22 := n22.2.2
  have qe := b22
  refine KL.opS (S.storeAgg (us := Lim.cells _) rfl sz51 rfl rfl (rfl) (by exact one_lim) qe (by decide)) rfl rfl ?_
  rintro H23 ⟨u23, b23⟩
  have o0 := o0.upd u23 (by omega)
  have zu23 := u23.1
  have oS := oS.upd u23 (by omega)
  have oA := oA.upd u23 (by omega)
  have q2 := ((u23).2 _ (by omega)).trans q2
  have oB := oB.upd u23 (by omega)
  have q4 := ((u23).2 _ (by omega)).trans q4
  have oC := oC.upd u23 (by omega)
  have q6 := ((u23).2 _ (by omega)).trans q6
  have oD := oD.upd u23 (by omega)
  have q8 := ((u23).2 _ (by omega)).trans q8
  have oE := oE.upd u23 (by omega)
  have qa := ((u23).2 _ (by omega)).trans qa
  have qc := ((u23).2 _ (by omega)).trans qc
  have qe := b23
  rw [over_all (by rfl)] at qe
  refine KL.op (R.assign rfl rfl) rfl rfl rfl ?_
  refine KL.nil ?_
  refine KQ.seq ?_
  refine KC.seq ?_
  refine KC.region ?_
  refine KL.op (R.move rfl rfl) rfl rfl rfl ?_
  refine KL.call rfl rfl rfl rfl Try.call13 rfl rfl rfl (SGlobal_v (sp.old oS) 0 (by decide)) ?_
  rintro _ H24 ⟨rfl, ox⟩
  have zc_H24 := (ox).1
  have o0 := o0.trans ox
  have oS := oS.trans ox
  have oA := oA.trans ox
  have q2 := (ox).blk q2
  have oB := oB.trans ox
  have q4 := (ox).blk q4
  have oC := oC.trans ox
  have q6 := (ox).blk q6
  have oD := oD.trans ox
  have q8 := (ox).blk q8
  have oE := oE.trans ox
  have qa := (ox).blk qa
  have qc := (ox).blk qc
  have qe := (ox).blk qe
  refine KL.op (R.move rfl rfl) rfl rfl rfl ?_
  refine KL.op (R.extract rfl rfl rfl) rfl rfl rfl ?_
  refine KL.op ((R.extract rfl rfl rfl).val (show _ = Value.bool false from rfl)) rfl rfl rfl ?_
  refine KL.opM (M.alloc rfl zr46 rfl) rfl rfl rfl ?_
  rintro _ H25 ⟨rfl, n25⟩
  have z25 := n25.2.1
  have o0 := o0.trans n25.1
  have oS := oS.trans n25.1
  have oA := oA.trans n25.1
  have q2 := (n25.1).blk q2
  have oB := oB.trans n25.1
  have q4 := (n25.1).blk q4
  have oC := oC.trans n25.1
  have q6 := (n25.1).blk q6
  have oD := oD.trans n25.1
  have q8 := (n25.1).blk q8
  have oE := oE.trans n25.1
  have qa := (n25.1).blk qa
  have qc := (n25.1).blk qc
  have qe := (n25.1).blk qe
  have b25 := n25.2.2
  have qg := b25
  refine KL.opS (S.storeAgg (us := Glb.cells _) rfl sz46 rfl rfl (rfl) (by exact one_glb) qg (by decide)) rfl rfl ?_
  rintro H26 ⟨u26, b26⟩
  have o0 := o0.upd u26 (by omega)
  have zu26 := u26.1
  have oS := oS.upd u26 (by omega)
  have oA := oA.upd u26 (by omega)
  have q2 := ((u26).2 _ (by omega)).trans q2
  have oB := oB.upd u26 (by omega)
  have q4 := ((u26).2 _ (by omega)).trans q4
  have oC := oC.upd u26 (by omega)
  have q6 := ((u26).2 _ (by omega)).trans q6
  have oD := oD.upd u26 (by omega)
  have q8 := ((u26).2 _ (by omega)).trans q8
  have oE := oE.upd u26 (by omega)
  have qa := ((u26).2 _ (by omega)).trans qa
  have qc := ((u26).2 _ (by omega)).trans qc
  have qe := ((u26).2 _ (by omega)).trans qe
  have qg := b26
  rw [over_all (by rfl)] at qg
  refine KL.op (R.assign rfl rfl) rfl rfl rfl ?_
  refine KL.nil ?_
  refine KQ.seq ?_
  refine KC.seq ?_
  refine KC.seq ?_
  refine KC.region ?_
  refine KL.op ((by first | exact R.fieldAddr rfl Try.underlying24 rfl rfl sz22 rfl | exact R.fieldAddrP rfl Try.underlying24 rfl rfl sz22 rfl)) rfl rfl rfl ?_
  refine KL.op (R.load rfl Try.underlying22 rfl rfl (by first | exact cell_of q2 rfl | exact cell_of q4 rfl | exact cell_of q6 rfl | exact cell_of q8 rfl | exact cell_of qa rfl | exact cell_of qc rfl | exact cell_of qe rfl | exact cell_of qg rfl | assumption)) rfl rfl rfl ?_
  refine KL.op (R.lenS rfl Try.underlying22 rfl sA) rfl rfl rfl ?_
  refine KL.op ((R.neq rfl rfl rfl).val ((congrArg (fun b => Value.bool (!b)) (decide_eq_true (by rfl))))) rfl rfl rfl ?_
  refine KL.op (R.move rfl rfl) rfl rfl rfl ?_
  refine KL.op (R.move rfl rfl) rfl rfl rfl ?_
  refine KL.op (R.not rfl rfl) rfl rfl rfl ?_
  refine KL.op (R.pick rfl rfl rfl) rfl rfl rfl ?_
  refine KL.op (R.move rfl rfl) rfl rfl rfl ?_
  refine KL.op ((by first | exact R.fieldAddr rfl Try.underlying24 rfl rfl sz22 rfl | exact R.fieldAddrP rfl Try.underlying24 rfl rfl sz22 rfl)) rfl rfl rfl ?_
  refine KL.op (R.load rfl Try.underlying22 rfl rfl (by first | exact cell_of q2 rfl | exact cell_of q4 rfl | exact cell_of q6 rfl | exact cell_of q8 rfl | exact cell_of qa rfl | exact cell_of qc rfl | exact cell_of qe rfl | exact cell_of qg rfl | assumption)) rfl rfl rfl ?_
  refine KL.op (R.lenS rfl Try.underlying22 rfl sB) rfl rfl rfl ?_
  refine KL.op ((R.neq rfl rfl rfl).val ((congrArg (fun b => Value.bool (!b)) (decide_eq_true (by rfl))))) rfl rfl rfl ?_
  refine KL.op (R.pick rfl rfl rfl) rfl rfl rfl ?_
  refine KL.op (R.move rfl rfl) rfl rfl rfl ?_
  refine KL.op (R.move rfl rfl) rfl rfl rfl ?_
  refine KL.op (R.not rfl rfl) rfl rfl rfl ?_
  refine KL.op (R.pick rfl rfl rfl) rfl rfl rfl ?_
  refine KL.op (R.move rfl rfl) rfl rfl rfl ?_
  refine KL.op ((by first | exact R.fieldAddr rfl Try.underlying24 rfl rfl sz22 rfl | exact R.fieldAddrP rfl Try.underlying24 rfl rfl sz22 rfl)) rfl rfl rfl ?_
  refine KL.op (R.load rfl Try.underlying22 rfl rfl (by first | exact cell_of q2 rfl | exact cell_of q4 rfl | exact cell_of q6 rfl | exact cell_of q8 rfl | exact cell_of qa rfl | exact cell_of qc rfl | exact cell_of qe rfl | exact cell_of qg rfl | assumption)) rfl rfl rfl ?_
  refine KL.op (R.lenS rfl Try.underlying22 rfl sC) rfl rfl rfl ?_
  refine KL.op ((R.neq rfl rfl rfl).val ((congrArg (fun b => Value.bool (!b)) (decide_eq_true (by rfl))))) rfl rfl rfl ?_
  refine KL.op (R.pick rfl rfl rfl) rfl rfl rfl ?_
  refine KL.op (R.move rfl rfl) rfl rfl rfl ?_
  refine KL.op (R.move rfl rfl) rfl rfl rfl ?_
  refine KL.op (R.not rfl rfl) rfl rfl rfl ?_
  refine KL.op (R.pick rfl rfl rfl) rfl rfl rfl ?_
  refine KL.op (R.move rfl rfl) rfl rfl rfl ?_
  refine KL.op (R.move rfl rfl) rfl rfl rfl ?_
  refine KL.op (R.pick rfl rfl rfl) rfl rfl rfl ?_
  refine KL.op (R.move rfl rfl) rfl rfl rfl ?_
  refine KL.op (R.move rfl rfl) rfl rfl rfl ?_
  refine KL.op (R.pick rfl rfl rfl) rfl rfl rfl ?_
  refine KL.op (R.move rfl rfl) rfl rfl rfl ?_
  refine KL.op ((by first | exact R.fieldAddr rfl Try.underlying51 rfl rfl sz33 rfl | exact R.fieldAddrP rfl Try.underlying51 rfl rfl sz33 rfl)) rfl rfl rfl ?_
  refine KL.op (R.load rfl Try.underlying33 rfl rfl (by first | exact cell_of q2 rfl | exact cell_of q4 rfl | exact cell_of q6 rfl | exact cell_of q8 rfl | exact cell_of qa rfl | exact cell_of qc rfl | exact cell_of qe rfl | exact cell_of qg rfl | assumption)) rfl rfl rfl ?_
  refine KL.op ((R.neq rfl rfl rfl).val ((congrArg (fun b => Value.bool (!b)) (decide_eq_true (by rfl))))) rfl rfl rfl ?_
  refine KL.op (R.pick rfl rfl rfl) rfl rfl rfl ?_
  refine KL.op (R.move rfl rfl) rfl rfl rfl ?_
  refine KL.op ((by first | exact R.fieldAddr rfl Try.underlying51 rfl rfl sz2 rfl | exact R.fieldAddrP rfl Try.underlying51 rfl rfl sz2 rfl)) rfl rfl rfl ?_
  refine KL.op (R.load rfl Try.underlying2 rfl rfl (by first | exact cell_of q2 rfl | exact cell_of q4 rfl | exact cell_of q6 rfl | exact cell_of q8 rfl | exact cell_of qa rfl | exact cell_of qc rfl | exact cell_of qe rfl | exact cell_of qg rfl | assumption)) rfl rfl rfl ?_
  refine KL.op ((R.neq rfl rfl rfl).val ((congrArg (fun b => Value.bool (!b)) (decide_eq_true (by rfl))))) rfl rfl rfl ?_
  refine KL.op (R.pick rfl rfl rfl) rfl rfl rfl ?_
  refine KL.op (R.move rfl rfl) rfl rfl rfl ?_
  refine KL.op (R.move rfl rfl) rfl rfl rfl ?_
  refine KL.op (R.not rfl rfl) rfl rfl rfl ?_
  refine KL.op (R.pick rfl rfl rfl) rfl rfl rfl ?_
  refine KL.op (R.move rfl rfl) rfl rfl rfl ?_
  refine KL.op (R.move rfl rfl) rfl rfl rfl ?_
  refine KL.op (R.pick rfl rfl rfl) rfl rfl rfl ?_
  refine KL.op (R.move rfl rfl) rfl rfl rfl ?_
  refine KL.op (R.move rfl rfl) rfl rfl rfl ?_
  refine KL.op (R.pick rfl rfl rfl) rfl rfl rfl ?_
  refine KL.nil ?_
  refine KQ.seq ?_
  refine KC.condF rfl ?_
  refine KC.skip ?_
  refine KQ.seq ?_
  refine KC.seq ?_
  refine KC.region ?_
  refine KL.op (R.move rfl rfl) rfl rfl rfl ?_
  refine KL.call rfl rfl rfl rfl Try.call19 rfl rfl rfl (SExp_any (sp.old oS) ⟨#[109, 97, 105, 110]⟩ 0) ?_
  rintro _ H27 ⟨rfl, ox⟩
  have zc_H27 := (ox).1
  have o0 := o0.trans ox
  have oS := oS.trans ox
  have oA := oA.trans ox
  have q2 := (ox).blk q2
  have oB := oB.trans ox
  have q4 := (ox).blk q4
  have oC := oC.trans ox
  have q6 := (ox).blk q6
  have oD := oD.trans ox
  have q8 := (ox).blk q8
  have oE := oE.trans ox
  have qa := (ox).blk qa
  have qc := (ox).blk qc
  have qe := (ox).blk qe
  have qg := (ox).blk qg
  refine KL.op (R.move rfl rfl) rfl rfl rfl ?_
  refine KL.op ((R.extract rfl rfl rfl).val (show _ = Value.int .u32 2 from congrArg (Value.int .u32) (by decide +kernel))) rfl rfl rfl ?_
  refine KL.op ((R.extract rfl rfl rfl).val (show _ = Value.bool true from congrArg Value.bool (by decide +kernel))) rfl rfl rfl ?_
  refine KL.op (R.assign rfl rfl) rfl rfl rfl ?_
  refine KL.op (R.assign rfl rfl) rfl rfl rfl ?_
  refine KL.nil ?_
  refine KQ.seq ?_
  refine KC.seq ?_
  refine KC.region ?_
  refine KL.op (R.move rfl rfl) rfl rfl rfl ?_
  refine KL.call rfl rfl rfl rfl Try.call19 rfl rfl rfl (SExp_any (sp.old oS) ⟨#[109, 97, 105, 110]⟩ 2) ?_
  rintro _ H28 ⟨rfl, ox⟩
  have zc_H28 := (ox).1
  have o0 := o0.trans ox
  have oS := oS.trans ox
  have oA := oA.trans ox
  have q2 := (ox).blk q2
  have oB := oB.trans ox
  have q4 := (ox).blk q4
  have oC := oC.trans ox
  have q6 := (ox).blk q6
  have oD := oD.trans ox
  have q8 := (ox).blk q8
  have oE := oE.trans ox
  have qa := (ox).blk qa
  have qc := (ox).blk qc
  have qe := (ox).blk qe
  have qg := (ox).blk qg
  refine KL.op (R.move rfl rfl) rfl rfl rfl ?_
  refine KL.op ((R.extract rfl rfl rfl).val (show _ = Value.int .u32 0 from congrArg (Value.int .u32) (by decide +kernel))) rfl rfl rfl ?_
  refine KL.op ((R.extract rfl rfl rfl).val (show _ = Value.bool false from congrArg Value.bool (by decide +kernel))) rfl rfl rfl ?_
  refine KL.op (R.assign rfl rfl) rfl rfl rfl ?_
  refine KL.op (R.assign rfl rfl) rfl rfl rfl ?_
  refine KL.nil ?_
  refine KQ.seq ?_
  refine KC.seq ?_
  refine KC.region ?_
  refine KL.op (R.assign rfl rfl) rfl rfl rfl ?_
  refine KL.nil ?_
  refine KQ.seq ?_
  refine KC.seq ?_
  refine KC.region ?_
  refine KL.op (R.move rfl rfl) rfl rfl rfl ?_
  refine KL.call rfl rfl rfl rfl Try.call11 rfl rfl rfl (NFunc_any 0) ?_
  rintro _ H29 ⟨rfl, ox⟩
  have zc_H29 := (ox).1
  have o0 := o0.trans ox
  have oS := oS.trans ox
  have oA := oA.trans ox
  have q2 := (ox).blk q2
  have oB := oB.trans ox
  have q4 := (ox).blk q4
  have oC := oC.trans ox
  have q6 := (ox).blk q6
  have oD := oD.trans ox
  have q8 := (ox).blk q8
  have oE := oE.trans ox
  have qa := (ox).blk qa
  have qc := (ox).blk qc
  have qe := (ox).blk qe
  have qg := (ox).blk qg
  refine KL.op (R.move rfl rfl) rfl rfl rfl ?_
  refine KL.op (R.extract rfl rfl rfl) rfl rfl rfl ?_
  refine KL.op ((R.extract rfl rfl rfl).val (show _ = Value.bool false from rfl)) rfl rfl rfl ?_
  refine KL.opM (M.alloc rfl zr24 rfl) rfl rfl rfl ?_
  rintro _ H30 ⟨rfl, n30⟩
  have z30 := n30.2.1
  have o0 := o0.trans n30.1
  have oS := oS.trans n30.1
  have oA := oA.trans n30.1
  have q2 := (n30.1).blk q2
  have oB := oB.trans n30.1
  have q4 := (n30.1).blk q4
  have oC := oC.trans n30.1
  have q6 := (n30.1).blk q6
  have oD := oD.trans n30.1
  have q8 := (n30.1).blk q8
  have oE := oE.trans n30.1
  have qa := (n30.1).blk qa
  have qc := (n30.1).blk qc
  have qe := (n30.1).blk qe
  have qg := (n30.1).blk qg
  have b30 := n30.2.2
  have qn := b30
  refine KL.opS (S.storeAgg rfl sz24 rfl rfl (rfl) (by intro u hu; simp only [List.mem_cons, List.not_mem_nil, or_false] at hu; rcases hu with rfl | rfl <;> first | rfl | exact trivial) qn (by simp)) rfl rfl ?_
  rintro H31 ⟨u31, b31⟩
  have o0 := o0.upd u31 (by omega)
  have zu31 := u31.1
  have oS := oS.upd u31 (by omega)
  have oA := oA.upd u31 (by omega)
  have q2 := ((u31).2 _ (by omega)).trans q2
  have oB := oB.upd u31 (by omega)
  have q4 := ((u31).2 _ (by omega)).trans q4
  have oC := oC.upd u31 (by omega)
  have q6 := ((u31).2 _ (by omega)).trans q6
  have oD := oD.upd u31 (by omega)
  have q8 := ((u31).2 _ (by omega)).trans q8
  have oE := oE.upd u31 (by omega)
  have qa := ((u31).2 _ (by omega)).trans qa
  have qc := ((u31).2 _ (by omega)).trans qc
  have qe := ((u31).2 _ (by omega)).trans qe
  have qg := ((u31).2 _ (by omega)).trans qg
  have qn := b31
  rw [over_all (by rfl)] at qn
  refine KL.op (R.assign rfl rfl) rfl rfl rfl ?_
  refine KL.nil ?_
  refine KQ.seq ?_
  refine KC.seq ?_
  refine KC.region ?_
  refine KL.op (R.move rfl rfl) rfl rfl rfl ?_
  refine KL.call rfl rfl rfl rfl Try.call18 rfl rfl rfl (NType_any 0) ?_
  rintro _ H32 ⟨rfl, ox⟩
  have zc_H32 := (ox).1
  have o0 := o0.trans ox
  have oS := oS.trans ox
  have oA := oA.trans ox
  have q2 := (ox).blk q2
  have oB := oB.trans ox
  have q4 := (ox).blk q4
  have oC := oC.trans ox
  have q6 := (ox).blk q6
  have oD := oD.trans ox
  have q8 := (ox).blk q8
  have oE := oE.trans ox
  have qa := (ox).blk qa
  have qc := (ox).blk qc
  have qe := (ox).blk qe
  have qg := (ox).blk qg
  have qn := (ox).blk qn
  refine KL.op (R.move rfl rfl) rfl rfl rfl ?_
  refine KL.op (R.extract rfl rfl rfl) rfl rfl rfl ?_
  refine KL.op ((R.extract rfl rfl rfl).val (show _ = Value.bool false from rfl)) rfl rfl rfl ?_
  refine KL.opM (M.alloc rfl zr24 rfl) rfl rfl rfl ?_
  rintro _ H33 ⟨rfl, n33⟩
  have z33 := n33.2.1
  have o0 := o0.trans n33.1
  have oS := oS.trans n33.1
  have oA := oA.trans n33.1
  have q2 := (n33.1).blk q2
  have oB := oB.trans n33.1
  have q4 := (n33.1).blk q4
  have oC := oC.trans n33.1
  have q6 := (n33.1).blk q6
  have oD := oD.trans n33.1
  have q8 := (n33.1).blk q8
  have oE := oE.trans n33.1
  have qa := (n33.1).blk qa
  have qc := (n33.1).blk qc
  have qe := (n33.1).blk qe
  have qg := (n33.1).blk qg
  have qn := (n33.1).blk qn
  have b33 := n33.2.2
  have qp := b33
  refine KL.opS (S.storeAgg rfl sz24 rfl rfl (rfl) (by intro u hu; simp only [List.mem_cons, List.not_mem_nil, or_false] at hu; rcases hu with rfl | rfl <;> first | rfl | exact trivial) qp (by simp)) rfl rfl ?_
  rintro H34 ⟨u34, b34⟩
  have o0 := o0.upd u34 (by omega)
  have zu34 := u34.1
  have oS := oS.upd u34 (by omega)
  have oA := oA.upd u34 (by omega)
  have q2 := ((u34).2 _ (by omega)).trans q2
  have oB := oB.upd u34 (by omega)
  have q4 := ((u34).2 _ (by omega)).trans q4
  have oC := oC.upd u34 (by omega)
  have q6 := ((u34).2 _ (by omega)).trans q6
  have oD := oD.upd u34 (by omega)
  have q8 := ((u34).2 _ (by omega)).trans q8
  have oE := oE.upd u34 (by omega)
  have qa := ((u34).2 _ (by omega)).trans qa
  have qc := ((u34).2 _ (by omega)).trans qc
  have qe := ((u34).2 _ (by omega)).trans qe
  have qg := ((u34).2 _ (by omega)).trans qg
  have qn := ((u34).2 _ (by omega)).trans qn
  have qp := b34
  rw [over_all (by rfl)] at qp
  refine KL.op (R.assign rfl rfl) rfl rfl rfl ?_
  refine KL.nil ?_
  refine KQ.seq ?_
  refine KC.seq ?_
  refine KC.region ?_
  refine KL.op (R.move rfl rfl) rfl rfl rfl ?_
  refine KL.call rfl rfl rfl rfl Try.call19 rfl rfl rfl (NExp_any ⟨#[]⟩ 0) ?_
  rintro _ H35 ⟨rfl, ox⟩
  have zc_H35 := (ox).1
  have o0 := o0.trans ox
  have oS := oS.trans ox
  have oA := oA.trans ox
  have q2 := (ox).blk q2
  have oB := oB.trans ox
  have q4 := (ox).blk q4
  have oC := oC.trans ox
  have q6 := (ox).blk q6
  have oD := oD.trans ox
  have q8 := (ox).blk q8
  have oE := oE.trans ox
  have qa := (ox).blk qa
  have qc := (ox).blk qc
  have qe := (ox).blk qe
  have qg := (ox).blk qg
  have qn := (ox).blk qn
  have qp := (ox).blk qp
  refine KL.op (R.move rfl rfl) rfl rfl rfl ?_
  refine KL.op (R.extract rfl rfl rfl) rfl rfl rfl ?_
  refine KL.op ((R.extract rfl rfl rfl).val (show _ = Value.bool false from rfl)) rfl rfl rfl ?_
  refine KL.op (R.assign rfl rfl) rfl rfl rfl ?_
  refine KL.op (R.assign rfl rfl) rfl rfl rfl ?_
  refine KL.nil ?_
  refine KQ.seq ?_
  refine KC.seq ?_
  refine KC.region ?_
  refine KL.op (R.move rfl rfl) rfl rfl rfl ?_
  refine KL.op ((R.eql rfl rfl rfl).val (congrArg Value.bool (decide_eq_true (by rfl)))) rfl rfl rfl ?_
  refine KL.op (R.move rfl rfl) rfl rfl rfl ?_
  refine KL.op (R.move rfl rfl) rfl rfl rfl ?_
  refine KL.op (R.pick rfl rfl rfl) rfl rfl rfl ?_
  refine KL.op (R.move rfl rfl) rfl rfl rfl ?_
  refine KL.op (R.move rfl rfl) rfl rfl rfl ?_
  refine KL.op (R.not rfl rfl) rfl rfl rfl ?_
  refine KL.op (R.pick rfl rfl rfl) rfl rfl rfl ?_
  refine KL.op (R.move rfl rfl) rfl rfl rfl ?_
  refine KL.op (R.loadAgg rfl Try.underlying24 rfl sz24 rfl (cells_of q2) rfl) rfl rfl rfl ?_
  refine KL.op (R.loadAgg rfl Try.underlying24 rfl sz24 rfl (cells_of q6) rfl) rfl rfl rfl ?_
  refine KL.call rfl rfl rfl rfl Try.call7 rfl rfl rfl (Ct.mono (R' := fun u H' => u = .bool true ∧ Old H35 H') (Same_any (sA.old oA) (tA.old oA) (sC.old oC) (tC.old oC)) (fun v H' h => ⟨h.1.trans (congrArg Value.bool (by decide +kernel)), h.2⟩)) ?_
  rintro _ H36 ⟨rfl, ox⟩
  have zc_H36 := (ox).1
  have o0 := o0.trans ox
  have oS := oS.trans ox
  have oA := oA.trans ox
  have q2 := (ox).blk q2
  have oB := oB.trans ox
  have q4 := (ox).blk q4
  have oC := oC.trans ox
  have q6 := (ox).blk q6
  have oD := oD.trans ox
  have q8 := (ox).blk q8
  have oE := oE.trans ox
  have qa := (ox).blk qa
  have qc := (ox).blk qc
  have qe := (ox).blk qe
  have qg := (ox).blk qg
  have qn := (ox).blk qn
  have qp := (ox).blk qp
  refine KL.op (R.pick rfl rfl rfl) rfl rfl rfl ?_
  refine KL.op (R.move rfl rfl) rfl rfl rfl ?_
  refine KL.op (R.loadAgg rfl Try.underlying24 rfl sz24 rfl (cells_of q2) rfl) rfl rfl rfl ?_
  refine KL.op (R.loadAgg rfl Try.underlying24 rfl sz24 rfl (cells_of q4) rfl) rfl rfl rfl ?_
  refine KL.call rfl rfl rfl rfl Try.call7 rfl rfl rfl (Ct.mono (R' := fun u H' => u = .bool false ∧ Old H36 H') (Same_any (sA.old oA) (tA.old oA) (sB.old oB) (tB.old oB)) (fun v H' h => ⟨h.1.trans (congrArg Value.bool (by decide +kernel)), h.2⟩)) ?_
  rintro _ H37 ⟨rfl, ox⟩
  have zc_H37 := (ox).1
  have o0 := o0.trans ox
  have oS := oS.trans ox
  have oA := oA.trans ox
  have q2 := (ox).blk q2
  have oB := oB.trans ox
  have q4 := (ox).blk q4
  have oC := oC.trans ox
  have q6 := (ox).blk q6
  have oD := oD.trans ox
  have q8 := (ox).blk q8
  have oE := oE.trans ox
  have qa := (ox).blk qa
  have qc := (ox).blk qc
  have qe := (ox).blk qe
  have qg := (ox).blk qg
  have qn := (ox).blk qn
  have qp := (ox).blk qp
  refine KL.op (R.not rfl rfl) rfl rfl rfl ?_
  refine KL.op (R.pick rfl rfl rfl) rfl rfl rfl ?_
  refine KL.op (R.move rfl rfl) rfl rfl rfl ?_
  refine KL.op (R.move rfl rfl) rfl rfl rfl ?_
  refine KL.op (R.not rfl rfl) rfl rfl rfl ?_
  refine KL.op (R.pick rfl rfl rfl) rfl rfl rfl ?_
  refine KL.op (R.move rfl rfl) rfl rfl rfl ?_
  refine KL.op (R.move rfl rfl) rfl rfl rfl ?_
  refine KL.op (R.not rfl rfl) rfl rfl rfl ?_
  refine KL.op (R.pick rfl rfl rfl) rfl rfl rfl ?_
  refine KL.op (R.move rfl rfl) rfl rfl rfl ?_
  refine KL.op (R.move rfl rfl) rfl rfl rfl ?_
  refine KL.op (R.not rfl rfl) rfl rfl rfl ?_
  refine KL.op (R.pick rfl rfl rfl) rfl rfl rfl ?_
  refine KL.op (R.move rfl rfl) rfl rfl rfl ?_
  refine KL.op (R.move rfl rfl) rfl rfl rfl ?_
  refine KL.call rfl rfl rfl rfl Try.call21 rfl rfl rfl (NCount_any 0) ?_
  rintro _ H38 ⟨rfl, ox⟩
  have zc_H38 := (ox).1
  have o0 := o0.trans ox
  have oS := oS.trans ox
  have oA := oA.trans ox
  have q2 := (ox).blk q2
  have oB := oB.trans ox
  have q4 := (ox).blk q4
  have oC := oC.trans ox
  have q6 := (ox).blk q6
  have oD := oD.trans ox
  have q8 := (ox).blk q8
  have oE := oE.trans ox
  have qa := (ox).blk qa
  have qc := (ox).blk qc
  have qe := (ox).blk qe
  have qg := (ox).blk qg
  have qn := (ox).blk qn
  have qp := (ox).blk qp
  refine KL.op (R.move rfl rfl) rfl rfl rfl ?_
  refine KL.call rfl rfl rfl rfl Try.call23 rfl rfl rfl (NImported_any 0) ?_
  rintro _ H39 ⟨rfl, ox⟩
  have zc_H39 := (ox).1
  have o0 := o0.trans ox
  have oS := oS.trans ox
  have oA := oA.trans ox
  have q2 := (ox).blk q2
  have oB := oB.trans ox
  have q4 := (ox).blk q4
  have oC := oC.trans ox
  have q6 := (ox).blk q6
  have oD := oD.trans ox
  have q8 := (ox).blk q8
  have oE := oE.trans ox
  have qa := (ox).blk qa
  have qc := (ox).blk qc
  have qe := (ox).blk qe
  have qg := (ox).blk qg
  have qn := (ox).blk qn
  have qp := (ox).blk qp
  refine KL.op (R.add rfl rfl rfl (by decide)) rfl rfl rfl ?_
  refine KL.op ((R.eql rfl rfl rfl).val (congrArg Value.bool (decide_eq_true (by rfl)))) rfl rfl rfl ?_
  refine KL.op (R.pick rfl rfl rfl) rfl rfl rfl ?_
  refine KL.op (R.assign rfl rfl) rfl rfl rfl ?_
  refine KL.nil ?_
  refine KQ.seq ?_
  refine KC.ret ?_
  refine KQ.ofRet ?_
  refine KQ.fin1 Try.results6 rfl ?_
  exact ⟨rfl, o0⟩

end Go.Proofs.Ytbmikddaiedhiaa
