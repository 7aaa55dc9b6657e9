/- The chapter's rows. No condition. -/
import Derived.Test.YtokidabnjodglaaPaE
namespace Go.Proofs.Ytokidabnjodglaa
open Go Go.RowKit
set_option linter.unusedVariables false
set_option linter.unusedSimpArgs false
set_option linter.unnecessarySimpa false
set_option maxRecDepth 100000 in
set_option maxHeartbeats 4000000 in
theorem known_k {H : Heap} : Ct Try.prog 6 [] H (fun u H' => u = .bool true ∧ Old H H') := by
  refine Ct.mk Try.func6 rfl Try.ntmps6 rfl ?_
  intro W0 hW0
  have o0 : Old H H := Old.refl H
  refine KC.seq ?_
  refine KC.region ?_
  refine KL.op (R.assign rfl rfl) rfl rfl rfl ?_
  refine KL.nil ?_
  refine KQ.seq ?_
  refine KC.seq ?_
  refine KC.region ?_
  refine KL.opM (M.lit rfl Try.underlying47 zs5 (by decide) rfl rfl rfl) rfl rfl rfl ?_
  rintro _ H1 ⟨rfl, n1⟩
  have z1 := n1.2.1
  have o0 := o0.trans n1.1
  have b1 := n1.2.2
  have s1 := Sl.lits (l := [32, 32, 106]) n1 rfl (by decide) (by decide)
  refine KL.op (R.build (places := #[(0, 1), (1, 1), (2, 1)]) (cs := #[.int .i64 0, .int .i64 3, .int .u64 3]) rfl Try.underlying31 zr31 (fun w => by kernel_rfl) rfl (by kernel_rfl)) rfl rfl rfl ?_
  refine KL.opM (M.lit rfl Try.underlying24 zs31 (by decide) rfl rfl rfl) rfl rfl rfl ?_
  rintro _ H2 ⟨rfl, n2⟩
  have z2 := n2.2.1
  have o0 := o0.trans n2.1
  have s1 := s1.old n2.1
  have b2 := n2.2.2
  have s3 : Sl 3 EPt H2 _ ([⟨0, 3, 3⟩] : List Pt) := (Own.litN (E := EPt) (H0 := H2) (B := 0) (n := 3) (l := ([⟨0, 3, 3⟩] : List Pt)) n2 (Nat.zero_le _) rfl (by decide) rfl (by
    intro j x hj
    match j, hj with
    | 0, hj => cases hj; exact ⟨rfl, by show InR .u64 _; decide⟩)).sl (Old.refl _) (by decide)
  refine KL.call rfl rfl rfl rfl Try.call13 rfl rfl rfl (is_k s1 s3 (by decide) (by decide +kernel)) ?_
  rintro _ H3 ⟨rfl, ox⟩
  have zc_H3 := (ox).1
  have o0 := o0.trans ox
  have s1 := s1.old ox
  have s3 := s3.old ox
  refine KL.op (R.move rfl rfl) rfl rfl rfl ?_
  refine KL.opM (M.lit rfl Try.underlying47 zs5 (by decide) rfl rfl rfl) rfl rfl rfl ?_
  rintro _ H4 ⟨rfl, n4⟩
  have z4 := n4.2.1
  have o0 := o0.trans n4.1
  have s1 := s1.old n4.1
  have s3 := s3.old n4.1
  have b4 := n4.2.2
  have s6 := Sl.lits (l := [3, 1, 13, 1, 11]) n4 rfl (by decide) (by decide)
  refine KL.op (R.build (places := #[(0, 1), (1, 1), (2, 1)]) (cs := #[.int .i64 1, .int .i64 3, .int .u64 3]) rfl Try.underlying31 zr31 (fun w => by kernel_rfl) rfl (by kernel_rfl)) rfl rfl rfl ?_
  refine KL.op (R.build (places := #[(0, 1), (1, 1), (2, 1)]) (cs := #[.int .i64 3, .int .i64 5, .int .u64 1]) rfl Try.underlying31 zr31 (fun w => by kernel_rfl) rfl (by kernel_rfl)) rfl rfl rfl ?_
  refine KL.opM (M.lit rfl Try.underlying24 zs31 (by decide) rfl rfl rfl) rfl rfl rfl ?_
  rintro _ H5 ⟨rfl, n5⟩
  have z5 := n5.2.1
  have o0 := o0.trans n5.1
  have s1 := s1.old n5.1
  have s3 := s3.old n5.1
  have s6 := s6.old n5.1
  have b5 := n5.2.2
  have s9 : Sl 3 EPt H5 _ ([⟨1, 3, 3⟩, ⟨3, 5, 1⟩] : List Pt) := (Own.litN (E := EPt) (H0 := H5) (B := 0) (n := 3) (l := ([⟨1, 3, 3⟩, ⟨3, 5, 1⟩] : List Pt)) n5 (Nat.zero_le _) rfl (by decide) rfl (by
    intro j x hj
    match j, hj with
    | 0, hj => cases hj; exact ⟨rfl, by show InR .u64 _; decide⟩
    | 1, hj => cases hj; exact ⟨rfl, by show InR .u64 _; decide⟩)).sl (Old.refl _) (by decide)
  refine KL.call rfl rfl rfl rfl Try.call13 rfl rfl rfl (is_k s6 s9 (by decide) (by decide +kernel)) ?_
  rintro _ H6 ⟨rfl, ox⟩
  have zc_H6 := (ox).1
  have o0 := o0.trans ox
  have s1 := s1.old ox
  have s3 := s3.old ox
  have s6 := s6.old ox
  have s9 := s9.old ox
  refine KL.op (R.pick rfl rfl rfl) rfl rfl rfl ?_
  refine KL.op (R.move rfl rfl) rfl rfl rfl ?_
  refine KL.opM (M.lit rfl Try.underlying47 zs5 (by decide) rfl rfl rfl) rfl rfl rfl ?_
  rintro _ H7 ⟨rfl, n7⟩
  have z7 := n7.2.1
  have o0 := o0.trans n7.1
  have s1 := s1.old n7.1
  have s3 := s3.old n7.1
  have s6 := s6.old n7.1
  have s9 := s9.old n7.1
  have b7 := n7.2.2
  have s13 := Sl.lits (l := [2, 11, 16, 16]) n7 rfl (by decide) (by decide)
  refine KL.op (R.build (places := #[(0, 1), (1, 1), (2, 1)]) (cs := #[.int .i64 2, .int .i64 3, .int .u64 8]) rfl Try.underlying31 zr31 (fun w => by kernel_rfl) rfl (by kernel_rfl)) rfl rfl rfl ?_
  refine KL.op (R.build (places := #[(0, 1), (1, 1), (2, 1)]) (cs := #[.int .i64 3, .int .i64 4, .int .u64 8]) rfl Try.underlying31 zr31 (fun w => by kernel_rfl) rfl (by kernel_rfl)) rfl rfl rfl ?_
  refine KL.opM (M.lit rfl Try.underlying24 zs31 (by decide) rfl rfl rfl) rfl rfl rfl ?_
  rintro _ H8 ⟨rfl, n8⟩
  have z8 := n8.2.1
  have o0 := o0.trans n8.1
  have s1 := s1.old n8.1
  have s3 := s3.old n8.1
  have s6 := s6.old n8.1
  have s9 := s9.old n8.1
  have s13 := s13.old n8.1
  have b8 := n8.2.2
  have s16 : Sl 3 EPt H8 _ ([⟨2, 3, 8⟩, ⟨3, 4, 8⟩] : List Pt) := (Own.litN (E := EPt) (H0 := H8) (B := 0) (n := 3) (l := ([⟨2, 3, 8⟩, ⟨3, 4, 8⟩] : List Pt)) n8 (Nat.zero_le _) rfl (by decide) rfl (by
    intro j x hj
    match j, hj with
    | 0, hj => cases hj; exact ⟨rfl, by show InR .u64 _; decide⟩
    | 1, hj => cases hj; exact ⟨rfl, by show InR .u64 _; decide⟩)).sl (Old.refl _) (by decide)
  refine KL.call rfl rfl rfl rfl Try.call13 rfl rfl rfl (is_k s13 s16 (by decide) (by decide +kernel)) ?_
  rintro _ H9 ⟨rfl, ox⟩
  have zc_H9 := (ox).1
  have o0 := o0.trans ox
  have s1 := s1.old ox
  have s3 := s3.old ox
  have s6 := s6.old ox
  have s9 := s9.old ox
  have s13 := s13.old ox
  have s16 := s16.old ox
  refine KL.op (R.pick rfl rfl rfl) rfl rfl rfl ?_
  refine KL.op (R.move rfl rfl) rfl rfl rfl ?_
  refine KL.call rfl rfl rfl rfl Try.call9 rfl rfl rfl ((Ends_k (H := H9) 64).mono (R' := fun u H' => u = .bool true ∧ H9 = H') (fun _ _ h => ⟨h.1.trans (congrArg Value.bool (by decide)), h.2⟩)) ?_
  rintro _ _ ⟨rfl, rfl⟩
  refine KL.op (R.pick rfl rfl rfl) rfl rfl rfl ?_
  refine KL.op (R.move rfl rfl) rfl rfl rfl ?_
  refine KL.call rfl rfl rfl rfl Try.call9 rfl rfl rfl ((Ends_k (H := H9) 2).mono (R' := fun u H' => u = .bool false ∧ H9 = H') (fun _ _ h => ⟨h.1.trans (congrArg Value.bool (by decide)), h.2⟩)) ?_
  rintro _ _ ⟨rfl, rfl⟩
  refine KL.op (R.not rfl rfl) rfl rfl rfl ?_
  refine KL.op (R.pick rfl rfl rfl) rfl rfl rfl ?_
  refine KL.op (R.assign rfl rfl) rfl rfl rfl ?_
  refine KL.nil ?_
  refine KQ.seq ?_
  refine KC.ret ?_
  refine KQ.ofRet ?_
  refine KQ.fin1 Try.results6 rfl ?_
  exact ⟨rfl, o0⟩


theorem KeepX.toOld {g : Nat} {H A B : Heap} (o : Old H A) (h : KeepX [g] A B) (hg : H.size ≤ g) : Old H B := ⟨Nat.le_trans o.1 h.1, fun j hj => (h.2 j (by have := o.1; omega) (by simp; omega)).trans (o.2 j hj)⟩
theorem KeepX.updR {g : Nat} {A B C : Heap} (h : KeepX [g] A B) (u : Upd g B C) : KeepX [g] A C := ⟨by have := u.1; have := h.1; omega, fun j hj hn => (u.2 j (fun e => hn (by simp [e]))).trans (h.2 j hj hn)⟩

set_option maxRecDepth 100000 in
set_option maxHeartbeats 4000000 in
theorem PartTells_k {H : Heap} {v : Value} {l : List Ins} (hs : Sl 5 EIns H v l) (op left : Int) (hop : InR .u8 op) (hlf0 : InR .i64 left) : Ct Try.prog 3 [v, .int .u8 op, .int .i64 left] H (fun u H' => u = .bool true ∧ Old H H') := by
  refine Ct.mkM Try.func3 rfl Try.ntmps3 rfl ?_
  intro W0 hW0
  have o0 : Old H H := Old.refl H
  have hlm := hs.lenM
  unfold maxLen at hlm
  dsimp only [InR] at hlf0
  refine KC.seq ?_
  refine KC.region ?_
  refine KL.opM (M.box rfl rfl rfl) rfl rfl rfl ?_
  rintro _ H1 ⟨rfl, n1⟩
  have z1 := n1.2.1
  have o0 := o0.trans n1.1
  have b1 := n1.2.2
  have b5 := b1
  refine KL.opM (M.alloc rfl zr4 rfl) rfl rfl rfl ?_
  rintro _ H2 ⟨rfl, n2⟩
  have z2 := n2.2.1
  have o0 := o0.trans n2.1
  have b5 := (n2.1).blk b5
  have b2 := n2.2.2
  have b6 := b2
  refine KL.nil ?_
  refine KQ.seq ?_
  refine KC.seq ?_
  refine KC.seq ?_
  refine KC.region ?_
  refine KL.call rfl rfl rfl rfl Try.call6 rfl rfl rfl (known_k) ?_
  rintro _ H3 ⟨rfl, ox⟩
  have zc_H3 := (ox).1
  have o0 := o0.trans ox
  have b5 := (ox).blk b5
  have b6 := (ox).blk b6
  refine KL.op (R.not rfl rfl) rfl rfl rfl ?_
  refine KL.nil ?_
  refine KQ.seq ?_
  refine KC.condF rfl ?_
  refine KC.skip ?_
  refine KQ.seq ?_
  refine KC.seq ?_
  refine KC.seq ?_
  refine KC.region ?_
  refine KL.op (R.move rfl rfl) rfl rfl rfl ?_
  refine KL.op (R.lenS rfl Try.underlying22 rfl hs) rfl rfl rfl ?_
  refine KL.op (R.gtr rfl rfl rfl) rfl rfl rfl ?_
  refine KL.nil ?_
  refine KQ.seq ?_
  refine KC.iteL rfl ?_ ?_
  · intro hc17
    try simp only [decide_eq_true_eq, decide_eq_false_iff_not, Bool.not_eq_true', Bool.not_eq_false', Bool.and_eq_true, Bool.or_eq_false_iff] at hc17
    refine KC.seq ?_
    refine KC.region ?_
    refine KL.opS (S.store rfl sz4 rfl rfl rfl rfl b6 (by simp)) rfl rfl ?_
    rintro H4 ⟨u4, b4⟩
    have o0 := o0.upd u4 (by omega)
    have zu4 := u4.1
    have b5 := ((u4).2 _ (by omega)).trans b5
    have b6 := b4
    refine KL.nil ?_
    refine KQ.seq ?_
    refine KC.ret ?_
    refine KQ.retThen ?_
    refine KQ.finM (.inr rfl) _ (Res.cell1 Try.results3 rfl Try.underlying4 rfl (by first | exact cell_of b6 rfl | exact cell_of b5 rfl | exact cell_of b6 rfl | assumption)) ?_
    exact ⟨rfl, o0⟩
  · intro hc17
    try simp only [decide_eq_true_eq, decide_eq_false_iff_not, Bool.not_eq_true', Bool.not_eq_false', Bool.and_eq_true, Bool.or_eq_false_iff] at hc17
    have hl : l.length ≤ 1000000 := by omega
    refine KC.skip ?_
    refine KQ.seq ?_
    refine KC.seq ?_
    refine KC.region ?_
    refine KL.op (R.move rfl rfl) rfl rfl rfl ?_
    refine KL.call rfl rfl rfl rfl Try.call7 rfl rfl rfl (Parts_k (hs.old o0) hl) ?_
    rintro vp H5 ⟨wp, ox⟩
    have zc_H5 := (ox).1
    have o0 := o0.trans ox
    have b5 := (ox).blk b5
    have b6 := (ox).blk b6
    have sp := wp.sl (emptyOld _) (by decide)
    have oP : Old H5 H5 := Old.refl _
    refine KL.op (R.move rfl rfl) rfl rfl rfl ?_
    refine KL.call rfl rfl rfl rfl Try.call8 rfl rfl rfl (RParts_k (hs.old o0) hl) ?_
    rintro vr H6 ⟨wr, ox⟩
    have zc_H6 := (ox).1
    have o0 := o0.trans ox
    have b5 := (ox).blk b5
    have b6 := (ox).blk b6
    have oP := oP.trans ox
    have hwr := wr.lt
    have hpll := parts_len l
    refine KL.opM (M.alloc (cs := [.slice none 0 0]) rfl zr26 rfl) rfl rfl rfl ?_
    rintro _ H7 ⟨rfl, n7⟩
    have z7 := n7.2.1
    have o0 := o0.trans n7.1
    have b5 := (n7.1).blk b5
    have b6 := (n7.1).blk b6
    have oP := oP.trans n7.1
    have wr := wr.old n7.1
    have b7 := n7.2.2
    have b8 := b7
    refine KL.op (R.assign rfl rfl) rfl rfl rfl ?_
    refine KL.opS (S.store rfl sz26 rfl rfl wr.cells1 wr.one b8 (by simp)) rfl rfl ?_
    rintro H8 ⟨u8, b8⟩
    have o0 := o0.upd u8 (by omega)
    have zu8 := u8.1
    have b5 := ((u8).2 _ (by omega)).trans b5
    have b6 := ((u8).2 _ (by omega)).trans b6
    have oP := oP.upd u8 (by omega)
    have wr := wr.upd u8 (by first | exact .inl rfl | exact .inr (by omega) | exact hwr.imp id (fun h => by omega) | exact wr.lt.imp id (fun h => by omega))
    have b8 := b8
    refine KL.nil ?_
    refine KQ.seq ?_
    refine KC.seq ?_
    refine KC.seq ?_
    refine KC.region ?_
    refine KL.op (R.move rfl rfl) rfl rfl rfl ?_
    refine KL.op (R.lenO rfl Try.underlying24 rfl wp) rfl rfl rfl ?_
    refine KL.op (R.load rfl Try.underlying26 rfl rfl (by first | exact cell_of b6 rfl | exact cell_of b5 rfl | exact cell_of b6 rfl | exact cell_of b8 rfl | assumption)) rfl rfl rfl ?_
    refine KL.op (R.lenO rfl Try.underlying26 rfl wr) rfl rfl rfl ?_
    refine KL.op ((R.neq rfl rfl rfl).val ((congrArg (fun b => Value.bool (!b)) (decide_eq_true (by rfl))))) rfl rfl rfl ?_
    refine KL.op (R.move rfl rfl) rfl rfl rfl ?_
    refine KL.op (R.move rfl rfl) rfl rfl rfl ?_
    refine KL.call rfl rfl rfl rfl Try.call9 rfl rfl rfl (Ends_k _) ?_
    rintro _ _ ⟨rfl, rfl⟩
    refine KL.op (R.move rfl rfl) rfl rfl rfl ?_
    refine KL.call rfl rfl rfl rfl Try.call10 rfl rfl rfl (REnds_k _) ?_
    rintro _ H9 ⟨rfl, ox⟩
    have zc_H9 := (ox).1
    have o0 := o0.trans ox
    have b5 := (ox).blk b5
    have b6 := (ox).blk b6
    have oP := oP.trans ox
    have wr := wr.old ox
    have b8 := (ox).blk b8
    refine KL.op ((R.neqB rfl Try.underlying4 rfl rfl).val (congrArg Value.bool (show (!(ends op == ends op)) = false by simp))) rfl rfl rfl ?_
    refine KL.op (R.pick rfl rfl rfl) rfl rfl rfl ?_
    refine KL.nil ?_
    refine KQ.seq ?_
    refine KC.condF rfl ?_
    refine KC.skip ?_
    refine KQ.seq ?_
    refine KC.seq ?_
    refine KC.seq ?_
    refine KC.region ?_
    refine KL.op (R.move rfl rfl) rfl rfl rfl ?_
    refine KL.op (R.lenO rfl Try.underlying24 rfl wp) rfl rfl rfl ?_
    refine KL.op (R.move rfl rfl) rfl rfl rfl ?_
    refine KL.nil ?_
    refine KQ.seq ?_
    refine KC.block ?_
    have oQ : Old H9 H9 := Old.refl _
    have hwr2 := wr.lt
    have b5Q := b5
    have b6Q := b6
    have b8Q := b8
    have wrQ := wr
    refine KC.loopD (κ := Nat) [37, 38, 39, 40, 10, 9, 41, 42, 43, 44, 45, 46, 47, 36] (fun k => [(36, .int .i64 (k : Nat))]) (fun k Hl => k ≤ (parts l).length ∧ Old H9 Hl) (fun k => (parts l).length - k) 0 ?_ ?_ ?_
    · exact (Sub.cons rfl (Ext.sub (Ext.refl _ _)))
    · exact ⟨Nat.zero_le _, oQ⟩
    · rintro k H10 ⟨hk, oQ⟩
      have zq := oQ.1
      have o0 := o0.trans oQ
      have b5 := oQ.blk b5Q
      have b6 := oQ.blk b6Q
      have b8 := oQ.blk b8Q
      have wr := wrQ.old oQ
      have oP := oP.trans oQ
      have hwr3 := wr.lt
      refine KC.seq ?_
      refine KC.region ?_
      refine KL.op (R.lss rfl rfl rfl) rfl rfl rfl ?_
      refine KL.nil ?_
      refine KQ.seq ?_
      refine KC.seq ?_
      refine KC.iteL rfl ?_ ?_
      · intro hc37
        try simp only [decide_eq_true_eq, decide_eq_false_iff_not, Bool.not_eq_true', Bool.not_eq_false', Bool.and_eq_true, Bool.or_eq_false_iff] at hc37
        obtain ⟨hcp, hpr⟩ := sp.ptAt k (by omega)
        obtain ⟨hcq, hqr⟩ := (wrQ.sl (emptyOld _) (by decide)).ptAt k (by omega)
        refine KC.skip ?_
        refine KQ.seq ?_
        refine KC.seq ?_
        refine KC.block ?_
        refine KC.seq ?_
        refine KC.region ?_
        refine KL.op (R.move rfl rfl) rfl rfl rfl ?_
        refine KL.op (R.index (j := k) rfl Try.underlying24 sz31 rfl rfl sp rfl (by omega)) rfl rfl rfl ?_
        refine KL.op (R.loadAgg rfl Try.underlying31 rfl sz31 rfl (oP.cells hcp) rfl) rfl rfl rfl ?_
        refine KL.opM (M.alloc rfl zr31 rfl) rfl rfl rfl ?_
        rintro _ H11 ⟨rfl, n11⟩
        have z11 := n11.2.1
        have o0 := o0.trans n11.1
        have oQ := oQ.trans n11.1
        have b5 := (n11.1).blk b5
        have b6 := (n11.1).blk b6
        have b8 := (n11.1).blk b8
        have wr := wr.old n11.1
        have oP := oP.trans n11.1
        have b11 := n11.2.2
        have bp := b11
        refine KL.op (R.assign rfl rfl) rfl rfl rfl ?_
        refine KL.opS (S.storeAgg (us := ((parts l).getD k default).cells) rfl sz31 rfl rfl (rfl) (by exact pt_one) bp (by simp [Pt.cells])) rfl rfl ?_
        rintro H12 ⟨u12, b12⟩
        have o0 := o0.upd u12 (by omega)
        have zu12 := u12.1
        have oQ := oQ.upd u12 (by omega)
        have b5 := ((u12).2 _ (by omega)).trans b5
        have b6 := ((u12).2 _ (by omega)).trans b6
        have b8 := ((u12).2 _ (by omega)).trans b8
        have wr := wr.upd u12 (by first | exact .inl rfl | exact .inr (by omega) | exact hwr.imp id (fun h => by omega) | exact wr.lt.imp id (fun h => by omega))
        have oP := oP.upd u12 (by omega)
        have bp := b12
        rw [over_all (by rfl)] at bp
        refine KL.nil ?_
        refine KQ.seq ?_
        refine KC.seq ?_
        refine KC.quiet (by kernel_rfl) (by kernel_rfl) ?_
        refine KD.op (R.loadAgg rfl Try.underlying31 rfl sz31 rfl (cells_of bp) rfl) rfl rfl rfl ?_
        refine KD.op (R.load rfl Try.underlying26 rfl rfl (cell_of b8 rfl)) rfl rfl rfl ?_
        refine KD.op (R.move rfl rfl) rfl rfl rfl ?_
        refine KD.op (R.index (j := k) rfl Try.underlying26 sz32 rfl rfl (wrQ.sl (emptyOld _) (by decide)) rfl (by omega)) rfl rfl rfl ?_
        refine KD.op (R.loadAgg (cs := ((parts l).getD k default).cells) rfl Try.underlying32 rfl sz32 rfl (oQ.cells hcq) rfl) rfl rfl rfl ?_
        refine KD.op ((R.neqSt rfl Try.underlying32 (by kernel_rfl) (by kernel_rfl) rfl rfl (EqFs.int (by decide) Try.underlying3 rfl rfl (EqFs.int (by decide) Try.underlying3 rfl rfl (EqFs.int (by decide) Try.underlying29 rfl rfl EqFs.nil)))).val (congrArg Value.bool (show (!(decide ((((parts l).getD k default).a : Int) = ((parts l).getD k default).a) && (decide ((((parts l).getD k default).t : Int) = ((parts l).getD k default).t) && (decide (((parts l).getD k default).c = ((parts l).getD k default).c) && true)))) = false by simp))) rfl rfl rfl ?_
        refine KD.nil ?_
        refine KQ.seq ?_
        refine KC.condF rfl ?_
        refine KC.skip ?_
        refine KQ.normBlock ?_
        refine KQ.seq ?_
        refine KC.region ?_
        refine KL.op ((R.add rfl rfl rfl (by dsimp only [InR]; omega)).val (congrArg (Value.int .i64) (show (k : Int) + 1 = ((k + 1 : Nat) : Int) by omega))) rfl rfl rfl ?_
        refine KL.op (R.move rfl rfl) rfl rfl rfl ?_
        refine KL.nil ?_
        refine KQ.again (k + 1) ?_ ?_ ?_
        · exact (Sub.cons rfl (Ext.sub (by repeat (first | exact Ext.refl _ _ | refine Ext.put rfl ?_ | refine Ext.drop rfl ?_))))
        · omega
        · exact ⟨by omega, oQ⟩
      · intro hc37
        try simp only [decide_eq_true_eq, decide_eq_false_iff_not, Bool.not_eq_true', Bool.not_eq_false', Bool.and_eq_true, Bool.or_eq_false_iff] at hc37
        refine KC.exit ?_
        refine KQ.exitThen ?_
        refine KQ.exitThen ?_
        refine KQ.hit ?_
        refine KQ.seq ?_
        refine KC.seq ?_
        refine KC.region ?_
        refine KL.opM (M.alloc rfl zr3 rfl) rfl rfl rfl ?_
        rintro _ H13 ⟨rfl, n13⟩
        have z13 := n13.2.1
        have o0 := o0.trans n13.1
        have oQ := oQ.trans n13.1
        have b5 := (n13.1).blk b5
        have b6 := (n13.1).blk b6
        have b8 := (n13.1).blk b8
        have wr := wr.old n13.1
        have oP := oP.trans n13.1
        have b13 := n13.2.2
        have bn := b13
        refine KL.opS (S.store rfl sz3 rfl rfl rfl rfl bn (by simp)) rfl rfl ?_
        rintro H14 ⟨u14, b14⟩
        have o0 := o0.upd u14 (by omega)
        have zu14 := u14.1
        have oQ := oQ.upd u14 (by omega)
        have b5 := ((u14).2 _ (by omega)).trans b5
        have b6 := ((u14).2 _ (by omega)).trans b6
        have b8 := ((u14).2 _ (by omega)).trans b8
        have wr := wr.upd u14 (by first | exact .inl rfl | exact .inr (by omega) | exact hwr.imp id (fun h => by omega) | exact wr.lt.imp id (fun h => by omega))
        have oP := oP.upd u14 (by omega)
        have bn := b14
        refine KL.nil ?_
        refine KQ.seq ?_
        refine KC.seq ?_
        refine KC.seq ?_
        refine KC.region ?_
        refine KL.op (R.move rfl rfl) rfl rfl rfl ?_
        refine KL.call rfl rfl rfl rfl Try.call11 rfl rfl rfl (All_k hs.cells1 hs.one) ?_
        rintro _ H15 ⟨ga, rfl, ba, hga, ox⟩
        have zc_H15 := (ox).1
        have o0 := o0.trans ox
        have oQ := oQ.trans ox
        have b5 := (ox).blk b5
        have b6 := (ox).blk b6
        have b8 := (ox).blk b8
        have wr := wr.old ox
        have oP := oP.trans ox
        have bn := (ox).blk bn
        refine KL.nil ?_
        refine KQ.seq ?_
        refine KC.block ?_
        have b5S := b5
        have b6S := b6
        have b8S := b8
        have o0B := o0
        refine KC.range (first := []) (cap := [.pointer (some ⟨ga, 0, none⟩)]) (xs := hand (parts l)) (N := fun b => b < Array.size H) (O0 := fun b => b = (Array.size H10)) (fun k Hk O => O = (fun b => b = (Array.size H10)) ∧ Hk[(Array.size H10)]? = some (.cells [.int .i64 (k : Nat)].toArray 3 (0, 0)) ∧ KeepX [(Array.size H10)] H15 Hk ∧ (k = 0 ∨ (k : Int) < left)) (fun e k Hk O => e = .exit 2 ∧ O = (fun b => b = (Array.size H10)) ∧ Hk[(Array.size H10)]? = some (.cells [.int .i64 ((k + 1 : Nat) : Int)].toArray 3 (0, 0)) ∧ KeepX [(Array.size H10)] H15 Hk ∧ (k = 0 ∨ (k : Int) < left) ∧ left ≤ ((k + 1 : Nat) : Int)) rfl Try.call17 (fun H2 o => All1_iter hs (o.blk ba) (o0.trans o) hl) (fun b hb => by omega) (fun b hb e => by subst e; omega) (fun b e => by subst e; omega) (fun k A C O h hsz hag => by
            obtain ⟨h1, h2, h3, h4⟩ := h
            refine ⟨h1, (hag _ (blk_lt h2) (.inl (by omega))).trans h2, ⟨by have := h3.1; omega, fun b hb hn => (hag b (by have := h3.1; omega) (.inl hb)).trans (h3.2 b hb hn)⟩, h4⟩) (fun e k A C O h hsz hag => by
            obtain ⟨h0, h1, h2, h3, h4⟩ := h
            refine ⟨h0, h1, (hag _ (blk_lt h2) (.inl (by omega))).trans h2, ⟨by have := h3.1; omega, fun b hb hn => (hag b (by have := h3.1; omega) (.inl hb)).trans (h3.2 b hb hn)⟩, h4⟩) (⟨rfl, bn, KeepX.refl _ _, .inl rfl⟩) (by rfl) (hand_one) ?_ ?_ ?_
        · intro k vs H16 O W1 hk hz hOd hOl hI
          have oB : Old H16 H16 := Old.refl _
          obtain ⟨rfl, bn, kx, hlf⟩ := hI
          obtain ⟨p, hp, rfl⟩ := hand_at hk
          have hpl := nth_lt' hp
          have hpe : (parts l).getD k default = p := by rw [nth_eq] at hp; rw [List.getD_eq_getElem?_getD, hp]; rfl
          have o0 := kx.toOld o0B (by omega)
          have b5 := (kx.2 _ (blk_lt b5S) (by simp; omega)).trans b5S
          have b6 := (kx.2 _ (blk_lt b6S) (by simp; omega)).trans b6S
          have b8 := (kx.2 _ (blk_lt b8S) (by simp; omega)).trans b8S
          have zkx := kx.1
          have srk : Sl 3 EPt _ vr (parts l) := (wr.keepN (hwr.imp id (fun e => kx.2 _ (by omega) (by simp; omega)))).sl (emptyOld _) (by decide)
          refine KCR.region ?_
          refine KL.opM (M.alloc rfl zr31 rfl) rfl rfl rfl ?_
          rintro _ H17 ⟨rfl, n17⟩
          have z17 := n17.2.1
          have o0 := o0.trans n17.1
          have bn := (n17.1).blk bn
          have b5 := (n17.1).blk b5
          have b6 := (n17.1).blk b6
          have b8 := (n17.1).blk b8
          have oB := oB.trans n17.1
          have b17 := n17.2.2
          have bp := b17
          refine KL.opS (S.storeAgg (us := p.cells) rfl sz31 rfl rfl (rfl) (by exact pt_one) bp (by simp [Pt.cells])) rfl rfl ?_
          rintro H18 ⟨u18, b18⟩
          have o0 := o0.upd u18 (by omega)
          have zu18 := u18.1
          have bn := ((u18).2 _ (by omega)).trans bn
          have b5 := ((u18).2 _ (by omega)).trans b5
          have b6 := ((u18).2 _ (by omega)).trans b6
          have b8 := ((u18).2 _ (by omega)).trans b8
          have oB := oB.upd u18 (by omega)
          have bp := b18
          rw [over_all (by rfl)] at bp
          refine KL.nil ?_
          refine KQR.begin oB ?_
          intro H19 uL
          have o0 := o0.upd uL (by omega)
          have zuL := uL.1
          have bn := ((uL).2 _ (by omega)).trans bn
          have b5 := ((uL).2 _ (by omega)).trans b5
          have b6 := ((uL).2 _ (by omega)).trans b6
          have b8 := ((uL).2 _ (by omega)).trans b8
          have bp := ((uL).2 _ (by omega)).trans bp
          have oL := oB.1
          have zuL := uL.1
          have srL : Sl 3 EPt H19 vr (parts l) := ((wr.keepN (hwr.imp id (fun e => by rw [uL.2 _ (by omega), oB.2 _ (by omega)]; exact kx.2 _ (by omega) (by simp; omega)))).sl (emptyOld _) (by decide))
          have kxL : KeepX [(Array.size H10)] H15 H19 := ⟨by omega, fun b hb hn => (uL.2 b (by omega)).trans ((oB.2 b (by omega)).trans (kx.2 b hb hn))⟩
          have stp := StepO.refl (fun b => b = (Array.size H10)) H19
          refine KCR.block ?_
          refine KCR.seq ?_
          refine KCR.seq ?_
          refine KCR.text (clOf [(0, 1), (1, 1), (5, 1), (6, 1), (7, 1), (9, 1)]) (fun _ _ => True) (by kernel_rfl) (by kernel_rfl) (fun _ => trivial) ?_
          refine KP.now rfl (R.load rfl Try.underlying3 rfl rfl (cell_of bn rfl)) rfl rfl rfl ?_
          refine KP.now rfl (R.load rfl Try.underlying26 rfl rfl (cell_of b8 rfl)) rfl rfl rfl ?_
          refine KP.op rfl (fun Hg hg => R.lenO rfl Try.underlying26 rfl wr) rfl rfl rfl ?_
          refine KP.op rfl (fun Hg hg => (R.geq rfl rfl rfl).val (congrArg Value.bool (decide_eq_false (by omega)))) rfl rfl rfl ?_
          refine KP.op rfl (fun Hg hg => R.move rfl rfl) rfl rfl rfl ?_
          refine KP.now rfl (R.loadAgg rfl Try.underlying31 rfl sz31 rfl (cells_of bp) rfl) rfl rfl rfl ?_
          refine KP.now rfl (R.load rfl Try.underlying26 rfl rfl (cell_of b8 rfl)) rfl rfl rfl ?_
          refine KP.now rfl (R.load rfl Try.underlying3 rfl rfl (cell_of bn rfl)) rfl rfl rfl ?_
          refine KP.op rfl (fun Hg hg => R.index (j := k) rfl Try.underlying26 sz32 rfl rfl srL rfl (by omega)) rfl rfl rfl ?_
          obtain ⟨hcw, hwr9⟩ := srL.ptAt k (by omega)
          rw [hpe] at hcw
          refine KP.now rfl (R.loadAgg (cs := p.cells) rfl Try.underlying32 rfl sz32 rfl hcw rfl) rfl rfl rfl ?_
          refine KP.op rfl (fun Hg hg => (R.neqSt rfl Try.underlying32 (by kernel_rfl) (by kernel_rfl) rfl rfl (EqFs.int (by decide) Try.underlying3 rfl rfl (EqFs.int (by decide) Try.underlying3 rfl rfl (EqFs.int (by decide) Try.underlying29 rfl rfl EqFs.nil)))).val (congrArg Value.bool (show (!(decide ((p.a : Int) = p.a) && (decide ((p.t : Int) = p.t) && (decide (p.c = p.c) && true)))) = false by simp))) rfl rfl rfl ?_
          refine KP.op rfl (fun Hg hg => R.pick rfl rfl rfl) rfl rfl rfl ?_
          refine KP.nil ?_
          refine KQR.seq ?_
          refine KCR.condF rfl ?_
          refine KCR.skip ?_
          refine KQR.seq ?_
          refine KCR.seq ?_
          refine KCR.region ?_
          refine KL.op (R.load rfl Try.underlying3 rfl rfl (cell_of bn rfl)) rfl rfl rfl ?_
          refine KL.op ((R.add rfl rfl rfl (by dsimp only [InR]; omega)).val (congrArg (Value.int .i64) (show (k : Int) + 1 = ((k + 1 : Nat) : Int) by omega))) rfl rfl rfl ?_
          refine KL.opS (S.store rfl sz3 rfl rfl rfl rfl bn (by simp)) rfl rfl ?_
          rintro H20 ⟨u20, b20⟩
          have o0 := o0.upd u20 (by omega)
          have zu20 := u20.1
          have b5 := ((u20).2 _ (by omega)).trans b5
          have b6 := ((u20).2 _ (by omega)).trans b6
          have b8 := ((u20).2 _ (by omega)).trans b8
          have bp := ((u20).2 _ (by omega)).trans bp
          have bn := b20
          have stp2 := stp.upd u20 (.inl rfl)
          have kx2 := kxL.updR u20
          refine KL.nil ?_
          refine KQR.seq ?_
          refine KCR.seq ?_
          refine KCR.region ?_
          refine KL.op (R.load rfl Try.underlying3 rfl rfl (cell_of bn rfl)) rfl rfl rfl ?_
          refine KL.op (R.load rfl Try.underlying3 rfl rfl (cell_of b5 rfl)) rfl rfl rfl ?_
          refine KL.op (R.geq rfl rfl rfl) rfl rfl rfl ?_
          refine KL.nil ?_
          refine KQR.seq ?_
          refine KCR.iteL rfl ?_ ?_
          · intro hc67
            try simp only [decide_eq_true_eq, decide_eq_false_iff_not, Bool.not_eq_true', Bool.not_eq_false', Bool.and_eq_true, Bool.or_eq_false_iff] at hc67
            refine KCR.exit ?_
            refine KQ.miss rfl ?_
            refine KQR.fin rfl ?_
            exact ⟨_, stp2, rfl, rfl, bn, kx2, hlf, by omega⟩
          · intro hc67
            try simp only [decide_eq_true_eq, decide_eq_false_iff_not, Bool.not_eq_true', Bool.not_eq_false', Bool.and_eq_true, Bool.or_eq_false_iff] at hc67
            refine KCR.skip ?_
            refine KQ.normBlock ?_
            refine KQR.fin rfl ?_
            exact ⟨_, stp2, rfl, bn, kx2, .inr (by omega)⟩
        · intro H21 O hI hD hz hOd
          obtain ⟨rfl, bn, kx, hlf⟩ := hI
          rw [hand_len] at hlf bn
          have o0 := kx.toOld o0B (by omega)
          have b5 := (kx.2 _ (blk_lt b5S) (by simp; omega)).trans b5S
          have b6 := (kx.2 _ (blk_lt b6S) (by simp; omega)).trans b6S
          have b8 := (kx.2 _ (blk_lt b8S) (by simp; omega)).trans b8S
          have zkx := kx.1
          have srk : Sl 3 EPt _ vr (parts l) := (wr.keepN (hwr.imp id (fun e => kx.2 _ (by omega) (by simp; omega)))).sl (emptyOld _) (by decide)
          refine KQD.normBlock ?_
          refine KQD.seq ?_
          refine KCD.seq ?_
          refine KCD.region ?_
          refine KL.op (R.load rfl Try.underlying3 rfl rfl (cell_of bn rfl)) rfl rfl rfl ?_
          refine KL.op (R.load rfl Try.underlying26 rfl rfl (cell_of b8 rfl)) rfl rfl rfl ?_
          refine KL.op (R.lenO rfl Try.underlying26 rfl wr) rfl rfl rfl ?_
          refine KL.op (R.load rfl Try.underlying3 rfl rfl (cell_of b5 rfl)) rfl rfl rfl ?_
          refine KL.op (R.max rfl rfl rfl) rfl rfl rfl ?_
          refine KL.op (R.min rfl rfl rfl) rfl rfl rfl ?_
          refine KL.op ((R.eql rfl rfl rfl).val (congrArg Value.bool (decide_eq_true (by omega)))) rfl rfl rfl ?_
          refine KL.opS (S.store rfl sz4 rfl rfl rfl rfl b6 (by simp)) rfl rfl ?_
          rintro H22 ⟨u22, b22⟩
          have o0 := o0.upd u22 (by omega)
          have zu22 := u22.1
          have bn := ((u22).2 _ (by omega)).trans bn
          have b5 := ((u22).2 _ (by omega)).trans b5
          have b8 := ((u22).2 _ (by omega)).trans b8
          have hD := ((u22).2 _ (by omega)).trans hD
          have b6 := b22
          refine KL.nil ?_
          refine KQD.seq ?_
          refine KCD.ret ?_
          refine KQD.finM (.inr rfl) hD ?_
          intro H23 uD
          have o0 := o0.upd uD (by omega)
          have zuD := uD.1
          have bn := ((uD).2 _ (by omega)).trans bn
          have b5 := ((uD).2 _ (by omega)).trans b5
          have b6 := ((uD).2 _ (by omega)).trans b6
          have b8 := ((uD).2 _ (by omega)).trans b8
          refine ⟨_, Res.cell1 Try.results3 rfl Try.underlying4 rfl (by first | exact cell_of b6 rfl | exact cell_of bn rfl | exact cell_of b5 rfl | exact cell_of b6 rfl | exact cell_of b8 rfl | assumption), ?_⟩
          exact ⟨rfl, o0⟩
        · intro e k H24 O he hk hI hD hz hOd
          obtain ⟨rfl, rfl, bn, kx, hlf, hle⟩ := hI
          rw [hand_len] at hk
          have o0 := kx.toOld o0B (by omega)
          have b5 := (kx.2 _ (blk_lt b5S) (by simp; omega)).trans b5S
          have b6 := (kx.2 _ (blk_lt b6S) (by simp; omega)).trans b6S
          have b8 := (kx.2 _ (blk_lt b8S) (by simp; omega)).trans b8S
          have zkx := kx.1
          have srk : Sl 3 EPt _ vr (parts l) := (wr.keepN (hwr.imp id (fun e => kx.2 _ (by omega) (by simp; omega)))).sl (emptyOld _) (by decide)
          refine KQD.hit ?_
          refine KQD.seq ?_
          refine KCD.seq ?_
          refine KCD.region ?_
          refine KL.op (R.load rfl Try.underlying3 rfl rfl (cell_of bn rfl)) rfl rfl rfl ?_
          refine KL.op (R.load rfl Try.underlying26 rfl rfl (cell_of b8 rfl)) rfl rfl rfl ?_
          refine KL.op (R.lenO rfl Try.underlying26 rfl wr) rfl rfl rfl ?_
          refine KL.op (R.load rfl Try.underlying3 rfl rfl (cell_of b5 rfl)) rfl rfl rfl ?_
          refine KL.op (R.max rfl rfl rfl) rfl rfl rfl ?_
          refine KL.op (R.min rfl rfl rfl) rfl rfl rfl ?_
          refine KL.op ((R.eql rfl rfl rfl).val (congrArg Value.bool (decide_eq_true (by omega)))) rfl rfl rfl ?_
          refine KL.opS (S.store rfl sz4 rfl rfl rfl rfl b6 (by simp)) rfl rfl ?_
          rintro H25 ⟨u25, b25⟩
          have o0 := o0.upd u25 (by omega)
          have zu25 := u25.1
          have bn := ((u25).2 _ (by omega)).trans bn
          have b5 := ((u25).2 _ (by omega)).trans b5
          have b8 := ((u25).2 _ (by omega)).trans b8
          have hD := ((u25).2 _ (by omega)).trans hD
          have b6 := b25
          refine KL.nil ?_
          refine KQD.seq ?_
          refine KCD.ret ?_
          refine KQD.finM (.inr rfl) hD ?_
          intro H26 uD
          have o0 := o0.upd uD (by omega)
          have zuD := uD.1
          have bn := ((uD).2 _ (by omega)).trans bn
          have b5 := ((uD).2 _ (by omega)).trans b5
          have b6 := ((uD).2 _ (by omega)).trans b6
          have b8 := ((uD).2 _ (by omega)).trans b8
          refine ⟨_, Res.cell1 Try.results3 rfl Try.underlying4 rfl (by first | exact cell_of b6 rfl | exact cell_of bn rfl | exact cell_of b5 rfl | exact cell_of b6 rfl | exact cell_of b8 rfl | assumption), ?_⟩
          exact ⟨rfl, o0⟩

end Go.Proofs.Ytokidabnjodglaa
