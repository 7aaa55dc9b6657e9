/- PartCosts walked. No condition. -/
import Derived.Test.YtokidabnjodglaaPaG
namespace Go.Proofs.Ytokidabnjodglaa
open Go Go.RowKit
set_option linter.unusedVariables false
set_option linter.unusedSimpArgs false
set_option linter.unnecessarySimpa false
set_option maxRecDepth 100000 in
set_option maxHeartbeats 4000000 in
theorem PartCosts_k {H : Heap} {v : Value} {l : List Ins} (hs : Sl 5 EIns H v l) : Ct Try.prog 4 [v] H (fun u H' => u = .bool true ∧ Old H H') := by
  refine Ct.mk Try.func4 rfl Try.ntmps4 rfl ?_
  intro W0 hW0
  have o0 : Old H H := Old.refl H
  have hlm := hs.lenM
  unfold maxLen at hlm
  refine KC.seq ?_
  refine KC.region ?_
  refine KL.op (R.assign rfl rfl) rfl rfl rfl ?_
  refine KL.nil ?_
  refine KQ.seq ?_
  refine KC.seq ?_
  refine KC.seq ?_
  refine KC.region ?_
  refine KL.call rfl rfl rfl rfl Try.call6 rfl rfl rfl (known_k) ?_
  rintro _ H1 ⟨rfl, ox⟩
  have zc_H1 := (ox).1
  have o0 := o0.trans ox
  refine KL.op (R.not rfl rfl) rfl rfl rfl ?_
  refine KL.nil ?_
  refine KQ.seq ?_
  refine KC.condF rfl ?_
  refine KC.skip ?_
  refine KQ.seq ?_
  refine KC.seq ?_
  refine KC.seq ?_
  refine KC.region ?_
  refine KL.op (R.move rfl rfl) rfl rfl rfl ?_
  refine KL.op (R.lenS rfl Try.underlying22 rfl hs) rfl rfl rfl ?_
  refine KL.op (R.gtr rfl rfl rfl) rfl rfl rfl ?_
  refine KL.nil ?_
  refine KQ.seq ?_
  refine KC.iteL rfl ?_ ?_
  · intro hc13
    try simp only [decide_eq_true_eq, decide_eq_false_iff_not, Bool.not_eq_true', Bool.not_eq_false', Bool.and_eq_true, Bool.or_eq_false_iff] at hc13
    refine KC.seq ?_
    refine KC.region ?_
    refine KL.op (R.assign rfl rfl) rfl rfl rfl ?_
    refine KL.nil ?_
    refine KQ.seq ?_
    refine KC.ret ?_
    refine KQ.retThen ?_
    refine KQ.ofRet ?_
    refine KQ.fin1 Try.results4 rfl ?_
    exact ⟨rfl, o0⟩
  · intro hc13
    try simp only [decide_eq_true_eq, decide_eq_false_iff_not, Bool.not_eq_true', Bool.not_eq_false', Bool.and_eq_true, Bool.or_eq_false_iff] at hc13
    have hl : l.length ≤ 2000 := by omega
    have hpll := parts_len l
    refine KC.skip ?_
    refine KQ.seq ?_
    refine KC.seq ?_
    refine KC.region ?_
    refine KL.op (R.assign rfl rfl) rfl rfl rfl ?_
    refine KL.op (R.assign rfl rfl) rfl rfl rfl ?_
    refine KL.nil ?_
    refine KQ.seq ?_
    refine KC.seq ?_
    refine KC.seq ?_
    refine KC.region ?_
    refine KL.op (R.move rfl rfl) rfl rfl rfl ?_
    refine KL.call rfl rfl rfl rfl Try.call7 rfl rfl rfl (Parts_k (hs.old o0) (by omega)) ?_
    rintro vp H2 ⟨wp, ox⟩
    have zc_H2 := (ox).1
    have o0 := o0.trans ox
    have sp := wp.sl (emptyOld _) (by decide)
    have oP : Old H2 H2 := Old.refl _
    have hap := csum_le l
    refine KL.op (R.lenS rfl Try.underlying24 rfl sp) rfl rfl rfl ?_
    refine KL.op (R.move rfl rfl) rfl rfl rfl ?_
    refine KL.nil ?_
    refine KQ.seq ?_
    refine KC.block ?_
    refine KC.loopD (κ := Nat × Nat) [18, 19, 20, 6, 21, 22, 23, 24, 25, 26, 27, 28, 29, 30, 31, 32, 33, 34, 35, 36, 37, 38, 39, 40, 41, 42, 43, 44, 45, 46, 47, 48, 49, 50, 51, 52, 53, 54, 55, 56, 57, 58, 59, 60, 61, 62, 63, 64, 2, 65, 66, 67, 68, 69, 70, 71, 72, 73, 74, 75, 76, 8, 77, 78, 79, 80, 81, 82, 83, 84, 85, 86, 87, 88, 89, 90, 91, 92, 93, 94, 95, 96, 97, 98, 99, 100, 101, 102, 103, 104, 105, 106, 107, 108, 109, 110, 111, 112, 113, 114, 115, 116, 117, 118, 3, 4, 119, 17] (fun k => [(17, .int .i64 (k.1 : Nat)), (3, .int .i64 (k.2 : Nat)), (4, .int .u64 (csum (l.take k.2)))]) (fun k Hl => k.1 ≤ (parts l).length ∧ PC l k.2 ((parts l).drop k.1) ∧ k.2 ≤ l.length ∧ Old H Hl ∧ Old H2 Hl) (fun k => (parts l).length - k.1) (0, 0) ?_ ?_ ?_
    · exact (Sub.cons rfl (Sub.cons rfl (Sub.cons rfl (Ext.sub (Ext.refl _ _)))))
    · exact ⟨Nat.zero_le _, parts_PC l, Nat.zero_le _, o0, oP⟩
    · rintro ⟨k, at_⟩ H3 ⟨hk, hpc, hat, o0, oP⟩
      have zl_H3 := o0.1
      dsimp only at hk hpc hat
      have zl := o0.1
      have zp := oP.1
      have hcat := csum_le (l.take at_)
      rw [List.length_take] at hcat
      refine KC.seq ?_
      refine KC.region ?_
      refine KL.op (R.lss rfl rfl rfl) rfl rfl rfl ?_
      refine KL.nil ?_
      refine KQ.seq ?_
      refine KC.seq ?_
      refine KC.iteL rfl ?_ ?_
      · intro hc18
        try simp only [decide_eq_true_eq, decide_eq_false_iff_not, Bool.not_eq_true', Bool.not_eq_false', Bool.and_eq_true, Bool.or_eq_false_iff] at hc18
        rw [drop_step (by omega)] at hpc
        obtain ⟨p1, p2, p3, p4, p5, p6, p7, p8, p9, p10⟩ := hpc
        obtain ⟨hcp, hpr⟩ := sp.ptAt k (by omega)
        have d1 := csum_diff l (a := ((parts l).getD k default).a) (b := ((parts l).getD k default).t) (by omega)
        have d2 := csum_diff l (a := at_) (b := ((parts l).getD k default).a) (by omega)
        have d3 := csum_le (l.take ((parts l).getD k default).t)
        rw [List.length_take] at d3
        have e1 : ((l.take ((parts l).getD k default).t).drop at_) = (l.take ((parts l).getD k default).t).drop at_ := rfl
        refine KC.skip ?_
        refine KQ.seq ?_
        refine KC.seq ?_
        refine KC.block ?_
        refine KC.seq ?_
        refine KC.region ?_
        refine KL.op (R.index (j := k) rfl Try.underlying24 sz31 rfl rfl sp rfl (by omega)) rfl rfl rfl ?_
        refine KL.op (R.loadAgg rfl Try.underlying31 rfl sz31 rfl (oP.cells hcp) rfl) rfl rfl rfl ?_
        refine KL.opM (M.alloc rfl zr31 rfl) rfl rfl rfl ?_
        rintro _ H4 ⟨rfl, n4⟩
        have z4 := n4.2.1
        have o0 := o0.trans n4.1
        have oP := oP.trans n4.1
        have b4 := n4.2.2
        have bp := b4
        refine KL.opS (S.storeAgg (us := ((parts l).getD k default).cells) rfl sz31 rfl rfl (rfl) (by exact pt_one) bp (by simp [Pt.cells])) rfl rfl ?_
        rintro H5 ⟨u5, b5⟩
        have o0 := o0.upd u5 (by omega)
        have zu5 := u5.1
        have oP := oP.upd u5 (by omega)
        have bp := b5
        rw [over_all (by rfl)] at bp
        refine KL.nil ?_
        refine KQ.seq ?_
        refine KC.seq ?_
        refine KC.seq ?_
        refine KC.grow (by kernel_rfl) (by kernel_rfl) ?_
        refine KG.op (fun Hg og => by have bp := og.blk bp; have o0 := o0.trans og; exact (by first | exact R.fieldAddr rfl Try.underlying31 rfl rfl sz3 rfl | exact R.fieldAddrP rfl Try.underlying31 rfl rfl sz3 rfl)) rfl rfl rfl ?_
        refine KG.op (fun Hg og => by have bp := og.blk bp; have o0 := o0.trans og; exact R.load rfl Try.underlying3 rfl rfl (by first | exact cell_of bp rfl | assumption)) rfl rfl rfl ?_
        refine KG.op (fun Hg og => by have bp := og.blk bp; have o0 := o0.trans og; exact R.move rfl rfl) rfl rfl rfl ?_
        refine KG.op (fun Hg og => by have bp := og.blk bp; have o0 := o0.trans og; exact (R.lss rfl rfl rfl).val (congrArg Value.bool (decide_eq_false (by omega)))) rfl rfl rfl ?_
        refine KG.op (fun Hg og => by have bp := og.blk bp; have o0 := o0.trans og; exact R.move rfl rfl) rfl rfl rfl ?_
        refine KG.op (fun Hg og => by have bp := og.blk bp; have o0 := o0.trans og; exact (by first | exact R.fieldAddr rfl Try.underlying31 rfl rfl sz3 rfl | exact R.fieldAddrP rfl Try.underlying31 rfl rfl sz3 rfl)) rfl rfl rfl ?_
        refine KG.op (fun Hg og => by have bp := og.blk bp; have o0 := o0.trans og; exact R.load rfl Try.underlying3 rfl rfl (by first | exact cell_of bp rfl | assumption)) rfl rfl rfl ?_
        refine KG.op (fun Hg og => by have bp := og.blk bp; have o0 := o0.trans og; exact (by first | exact R.fieldAddr rfl Try.underlying31 rfl rfl sz3 rfl | exact R.fieldAddrP rfl Try.underlying31 rfl rfl sz3 rfl)) rfl rfl rfl ?_
        refine KG.op (fun Hg og => by have bp := og.blk bp; have o0 := o0.trans og; exact R.load rfl Try.underlying3 rfl rfl (by first | exact cell_of bp rfl | assumption)) rfl rfl rfl ?_
        refine KG.op (fun Hg og => by have bp := og.blk bp; have o0 := o0.trans og; exact (R.leq rfl rfl rfl).val (congrArg Value.bool (decide_eq_false (by omega)))) rfl rfl rfl ?_
        refine KG.op (fun Hg og => by have bp := og.blk bp; have o0 := o0.trans og; exact R.pick rfl rfl rfl) rfl rfl rfl ?_
        refine KG.op (fun Hg og => by have bp := og.blk bp; have o0 := o0.trans og; exact R.move rfl rfl) rfl rfl rfl ?_
        refine KG.op (fun Hg og => by have bp := og.blk bp; have o0 := o0.trans og; exact (by first | exact R.fieldAddr rfl Try.underlying31 rfl rfl sz3 rfl | exact R.fieldAddrP rfl Try.underlying31 rfl rfl sz3 rfl)) rfl rfl rfl ?_
        refine KG.op (fun Hg og => by have bp := og.blk bp; have o0 := o0.trans og; exact R.load rfl Try.underlying3 rfl rfl (by first | exact cell_of bp rfl | assumption)) rfl rfl rfl ?_
        refine KG.op (fun Hg og => by have bp := og.blk bp; have o0 := o0.trans og; exact R.move rfl rfl) rfl rfl rfl ?_
        refine KG.op (fun Hg og => by have bp := og.blk bp; have o0 := o0.trans og; exact R.lenS rfl Try.underlying22 rfl hs) rfl rfl rfl ?_
        refine KG.op (fun Hg og => by have bp := og.blk bp; have o0 := o0.trans og; exact (R.gtr rfl rfl rfl).val (congrArg Value.bool (decide_eq_false (by omega)))) rfl rfl rfl ?_
        refine KG.op (fun Hg og => by have bp := og.blk bp; have o0 := o0.trans og; exact R.pick rfl rfl rfl) rfl rfl rfl ?_
        refine KG.op (fun Hg og => by have bp := og.blk bp; have o0 := o0.trans og; exact R.move rfl rfl) rfl rfl rfl ?_
        refine KG.op (fun Hg og => by have bp := og.blk bp; have o0 := o0.trans og; exact (by first | exact R.fieldAddr rfl Try.underlying31 rfl rfl sz29 rfl | exact R.fieldAddrP rfl Try.underlying31 rfl rfl sz29 rfl)) rfl rfl rfl ?_
        refine KG.op (fun Hg og => by have bp := og.blk bp; have o0 := o0.trans og; exact R.load rfl Try.underlying29 rfl rfl (by first | exact cell_of bp rfl | assumption)) rfl rfl rfl ?_
        refine KG.op (fun Hg og => by have bp := og.blk bp; have o0 := o0.trans og; exact (R.eql rfl rfl rfl).val (congrArg Value.bool (decide_eq_false (by omega)))) rfl rfl rfl ?_
        refine KG.op (fun Hg og => by have bp := og.blk bp; have o0 := o0.trans og; exact R.pick rfl rfl rfl) rfl rfl rfl ?_
        refine KG.op (fun Hg og => by have bp := og.blk bp; have o0 := o0.trans og; exact R.move rfl rfl) rfl rfl rfl ?_
        refine KG.op (fun Hg og => by have bp := og.blk bp; have o0 := o0.trans og; exact (by first | exact R.fieldAddr rfl Try.underlying31 rfl rfl sz29 rfl | exact R.fieldAddrP rfl Try.underlying31 rfl rfl sz29 rfl)) rfl rfl rfl ?_
        refine KG.op (fun Hg og => by have bp := og.blk bp; have o0 := o0.trans og; exact R.load rfl Try.underlying29 rfl rfl (by first | exact cell_of bp rfl | assumption)) rfl rfl rfl ?_
        refine KG.op (fun Hg og => by have bp := og.blk bp; have o0 := o0.trans og; exact R.move rfl rfl) rfl rfl rfl ?_
        refine KG.op (fun Hg og => by have bp := og.blk bp; have o0 := o0.trans og; exact (by first | exact R.fieldAddr rfl Try.underlying31 rfl rfl sz3 rfl | exact R.fieldAddrP rfl Try.underlying31 rfl rfl sz3 rfl)) rfl rfl rfl ?_
        refine KG.op (fun Hg og => by have bp := og.blk bp; have o0 := o0.trans og; exact R.load rfl Try.underlying3 rfl rfl (by first | exact cell_of bp rfl | assumption)) rfl rfl rfl ?_
        refine KG.op (fun Hg og => by have bp := og.blk bp; have o0 := o0.trans og; exact (by first | exact R.fieldAddr rfl Try.underlying31 rfl rfl sz3 rfl | exact R.fieldAddrP rfl Try.underlying31 rfl rfl sz3 rfl)) rfl rfl rfl ?_
        refine KG.op (fun Hg og => by have bp := og.blk bp; have o0 := o0.trans og; exact R.load rfl Try.underlying3 rfl rfl (by first | exact cell_of bp rfl | assumption)) rfl rfl rfl ?_
        refine KG.op (fun Hg og => by have bp := og.blk bp; have o0 := o0.trans og; exact R.slice rfl Try.underlying22 sz41 rfl hs (bnd.mk (r := ((parts l).getD k default).a) rfl rfl) (bnd.mk (r := ((parts l).getD k default).t) rfl rfl) (by omega) (by omega)) rfl rfl rfl ?_
        refine KG.call rfl rfl rfl rfl Try.call12 rfl rfl rfl (fun Hg og => Sum_k ((hs.sub (lo := ((parts l).getD k default).a) (hi := ((parts l).getD k default).t) (by omega) (by omega)).old (o0.trans og)) (by rw [List.length_drop, List.length_take]; omega)) ?_
        refine KG.op (fun Hg og => by have bp := og.blk bp; have o0 := o0.trans og; exact (R.neq rfl rfl rfl).val ((congrArg (fun b => Value.bool (!b)) (decide_eq_true (by exact p5))))) rfl rfl rfl ?_
        refine KG.op (fun Hg og => by have bp := og.blk bp; have o0 := o0.trans og; exact R.pick rfl rfl rfl) rfl rfl rfl ?_
        refine KG.op (fun Hg og => by have bp := og.blk bp; have o0 := o0.trans og; exact R.move rfl rfl) rfl rfl rfl ?_
        refine KG.op (fun Hg og => by have bp := og.blk bp; have o0 := o0.trans og; exact R.move rfl rfl) rfl rfl rfl ?_
        refine KG.op (fun Hg og => by have bp := og.blk bp; have o0 := o0.trans og; exact R.move rfl rfl) rfl rfl rfl ?_
        refine KG.op (fun Hg og => by have bp := og.blk bp; have o0 := o0.trans og; exact (by first | exact R.fieldAddr rfl Try.underlying31 rfl rfl sz3 rfl | exact R.fieldAddrP rfl Try.underlying31 rfl rfl sz3 rfl)) rfl rfl rfl ?_
        refine KG.op (fun Hg og => by have bp := og.blk bp; have o0 := o0.trans og; exact R.load rfl Try.underlying3 rfl rfl (by first | exact cell_of bp rfl | assumption)) rfl rfl rfl ?_
        refine KG.op (fun Hg og => by have bp := og.blk bp; have o0 := o0.trans og; exact R.slice rfl Try.underlying22 sz41 rfl hs (bnd.mk (r := at_) rfl rfl) (bnd.mk (r := ((parts l).getD k default).a) rfl rfl) (by omega) (by omega)) rfl rfl rfl ?_
        refine KG.call rfl rfl rfl rfl Try.call12 rfl rfl rfl (fun Hg og => Sum_k ((hs.sub (lo := at_) (hi := ((parts l).getD k default).a) (by omega) (by omega)).old (o0.trans og)) (by rw [List.length_drop, List.length_take]; omega)) ?_
        refine KG.op (fun Hg og => by have bp := og.blk bp; have o0 := o0.trans og; exact (R.neq rfl rfl rfl).val ((congrArg (fun b => Value.bool (!b)) (decide_eq_true (by omega))))) rfl rfl rfl ?_
        refine KG.op (fun Hg og => by have bp := og.blk bp; have o0 := o0.trans og; exact R.pick rfl rfl rfl) rfl rfl rfl ?_
        refine KG.nil ?_
        intro H6 ogH6
        have o0 := o0.trans ogH6
        have oP := oP.trans ogH6
        have bp := (ogH6).blk bp
        have zH6 := ogH6.1
        refine KQ.seq ?_
        refine KC.condF rfl ?_
        refine KC.skip ?_
        refine KQ.seq ?_
        refine KC.seq ?_
        refine KC.seq ?_
        refine KC.region ?_
        refine KL.op (R.move rfl rfl) rfl rfl rfl ?_
        refine KL.op ((by first | exact R.fieldAddr rfl Try.underlying31 rfl rfl sz3 rfl | exact R.fieldAddrP rfl Try.underlying31 rfl rfl sz3 rfl)) rfl rfl rfl ?_
        refine KL.op (R.load rfl Try.underlying3 rfl rfl (by first | exact cell_of bp rfl | assumption)) rfl rfl rfl ?_
        refine KL.op ((by first | exact R.fieldAddr rfl Try.underlying31 rfl rfl sz3 rfl | exact R.fieldAddrP rfl Try.underlying31 rfl rfl sz3 rfl)) rfl rfl rfl ?_
        refine KL.op (R.load rfl Try.underlying3 rfl rfl (by first | exact cell_of bp rfl | assumption)) rfl rfl rfl ?_
        refine KL.op ((R.sub rfl rfl rfl (by dsimp only [InR]; omega)).val (congrArg (Value.int .i64) (show ((((parts l).getD k default).t : Nat) : Int) - 1 = ((((parts l).getD k default).t - 1 : Nat) : Int) by omega))) rfl rfl rfl ?_
        refine KL.op (R.slice rfl Try.underlying22 sz41 rfl hs (bnd.mk (r := ((parts l).getD k default).a) rfl rfl) (bnd.mk (r := ((parts l).getD k default).t - 1) rfl rfl) (by omega) (by omega)) rfl rfl rfl ?_
        have hsb := hs.sub (lo := ((parts l).getD k default).a) (hi := ((parts l).getD k default).t - 1) (by omega) (by omega)
        have hsl : ((l.take (((parts l).getD k default).t - 1)).drop ((parts l).getD k default).a).length = ((parts l).getD k default).t - 1 - ((parts l).getD k default).a := by rw [List.length_drop, List.length_take]; omega
        refine KL.op (R.lenS rfl Try.underlying22 rfl hsb) rfl rfl rfl ?_
        refine KL.op (R.move rfl rfl) rfl rfl rfl ?_
        refine KL.nil ?_
        refine KQ.seq ?_
        refine KC.block ?_
        have oQ : Old H6 H6 := Old.refl _
        have bpQ := bp
        have oPQ := oP
        refine KC.loopD (κ := Nat) [74, 75, 76, 8, 77, 78, 79, 2, 80, 73] (fun j => [(73, .int .i64 (j : Nat))]) (fun j Hl => j ≤ ((l.take (((parts l).getD k default).t - 1)).drop ((parts l).getD k default).a).length ∧ Old H6 Hl) (fun j => ((l.take (((parts l).getD k default).t - 1)).drop ((parts l).getD k default).a).length - j) 0 ?_ ?_ ?_
        · exact (Sub.cons rfl (Ext.sub (Ext.refl _ _)))
        · exact ⟨Nat.zero_le _, oQ⟩
        · rintro j H7 ⟨hj, oQ⟩
          have zq := oQ.1
          have o0 := o0.trans oQ
          have bp := oQ.blk bpQ
          have oP := oPQ.trans oQ
          refine KC.seq ?_
          refine KC.region ?_
          refine KL.op (R.lss rfl rfl rfl) rfl rfl rfl ?_
          refine KL.nil ?_
          refine KQ.seq ?_
          refine KC.seq ?_
          refine KC.iteL rfl ?_ ?_
          · intro hc74
            try simp only [decide_eq_true_eq, decide_eq_false_iff_not, Bool.not_eq_true', Bool.not_eq_false', Bool.and_eq_true, Bool.or_eq_false_iff] at hc74
            obtain ⟨u, hcx, hu, hx1, hx2, hx3, hx4⟩ := hsb.insAt j (by omega)
            have hej := sub_getD (l := l) (a := ((parts l).getD k default).a) (b := ((parts l).getD k default).t - 1) (j := j) (by omega) (by omega)
            have hne := p7 (((parts l).getD k default).a + j) (by omega) (by omega)
            rw [← hej] at hne
            refine KC.skip ?_
            refine KQ.seq ?_
            refine KC.seq ?_
            refine KC.block ?_
            refine KC.seq ?_
            refine KC.region ?_
            refine KL.op (R.index (j := j) rfl Try.underlying22 sz41 rfl rfl hsb rfl (by omega)) rfl rfl rfl ?_
            refine KL.op (R.loadAgg rfl Try.underlying41 rfl sz41 rfl (o0.cells hcx) rfl) rfl rfl rfl ?_
            refine KL.opM (M.alloc rfl zr41 rfl) rfl rfl rfl ?_
            rintro _ H8 ⟨rfl, n8⟩
            have z8 := n8.2.1
            have o0 := o0.trans n8.1
            have oQ := oQ.trans n8.1
            have bp := (n8.1).blk bp
            have oP := oP.trans n8.1
            have b8 := n8.2.2
            have bx := b8
            have hu1 := hu.one
            refine KL.opS (S.storeAgg rfl sz41 rfl rfl (rfl) (by intro u hu; simp only [List.mem_cons, List.not_mem_nil, or_false] at hu; rcases hu with rfl | rfl | rfl | rfl | rfl <;> first | rfl | exact hu1) bx (by simp)) rfl rfl ?_
            rintro H9 ⟨u9, b9⟩
            have o0 := o0.upd u9 (by omega)
            have zu9 := u9.1
            have oQ := oQ.upd u9 (by omega)
            have bp := ((u9).2 _ (by omega)).trans bp
            have oP := oP.upd u9 (by omega)
            have bx := b9
            rw [over_all (by rfl)] at bx
            refine KL.nil ?_
            refine KQ.seq ?_
            refine KC.seq ?_
            refine KC.region ?_
            refine KL.op ((by first | exact R.fieldAddr rfl Try.underlying41 rfl rfl sz5 rfl | exact R.fieldAddrP rfl Try.underlying41 rfl rfl sz5 rfl)) rfl rfl rfl ?_
            refine KL.op (R.load rfl Try.underlying5 rfl rfl (cell_of bx rfl)) rfl rfl rfl ?_
            refine KL.call rfl rfl rfl rfl Try.call9 rfl rfl rfl ((Ends_k (H := H9) _).mono (R' := fun u H' => u = .bool false ∧ H9 = H') (fun _ _ h => ⟨h.1.trans (congrArg Value.bool hne), h.2⟩)) ?_
            rintro _ _ ⟨rfl, rfl⟩
            refine KL.nil ?_
            refine KQ.seq ?_
            refine KC.condF rfl ?_
            refine KC.skip ?_
            refine KQ.normBlock ?_
            refine KQ.seq ?_
            refine KC.region ?_
            refine KL.op ((R.add rfl rfl rfl (by dsimp only [InR]; omega)).val (congrArg (Value.int .i64) (show (j : Int) + 1 = ((j + 1 : Nat) : Int) by omega))) rfl rfl rfl ?_
            refine KL.op (R.move rfl rfl) rfl rfl rfl ?_
            refine KL.nil ?_
            refine KQ.again (j + 1) ?_ ?_ ?_
            · exact (Sub.cons rfl (Ext.sub (by repeat (first | exact Ext.refl _ _ | refine Ext.put rfl ?_ | refine Ext.drop rfl ?_))))
            · omega
            · exact ⟨by omega, oQ⟩
          · intro hc74
            try simp only [decide_eq_true_eq, decide_eq_false_iff_not, Bool.not_eq_true', Bool.not_eq_false', Bool.and_eq_true, Bool.or_eq_false_iff] at hc74
            refine KC.exit ?_
            refine KQ.exitThen ?_
            refine KQ.exitThen ?_
            refine KQ.hit ?_
            refine KQ.seq ?_
            refine KC.seq ?_
            refine KC.seq ?_
            refine KC.region ?_
            refine KL.op ((by first | exact R.fieldAddr rfl Try.underlying31 rfl rfl sz3 rfl | exact R.fieldAddrP rfl Try.underlying31 rfl rfl sz3 rfl)) rfl rfl rfl ?_
            refine KL.op (R.load rfl Try.underlying3 rfl rfl (by first | exact cell_of bp rfl | assumption)) rfl rfl rfl ?_
            refine KL.op (R.gtr rfl rfl rfl) rfl rfl rfl ?_
            refine KL.op (R.move rfl rfl) rfl rfl rfl ?_
            refine KL.case (d := 84) rfl ?_ ?_
            · intro hg84
              try simp only [decide_eq_true_eq, decide_eq_false_iff_not, Bool.not_eq_true', Bool.not_eq_false', Bool.and_eq_true, Bool.or_eq_false_iff] at hg84
              have hpa : 0 < ((parts l).getD k default).a := Int.ofNat_lt.mp (by simpa using hg84)
              refine KL.op (R.move rfl rfl) rfl rfl rfl ?_
              refine KL.op ((by first | exact R.fieldAddr rfl Try.underlying31 rfl rfl sz3 rfl | exact R.fieldAddrP rfl Try.underlying31 rfl rfl sz3 rfl)) rfl rfl rfl ?_
              refine KL.op (R.load rfl Try.underlying3 rfl rfl (by first | exact cell_of bp rfl | assumption)) rfl rfl rfl ?_
              refine KL.op ((R.sub rfl rfl rfl (by dsimp only [InR]; omega)).val (congrArg (Value.int .i64) (show ((((parts l).getD k default).a : Nat) : Int) - 1 = ((((parts l).getD k default).a - 1 : Nat) : Int) by omega))) rfl rfl rfl ?_
              obtain ⟨hox, hor⟩ := hs.insOp (((parts l).getD k default).a - 1) (by omega)
              refine KL.op (R.index (j := ((parts l).getD k default).a - 1) rfl Try.underlying22 sz41 rfl rfl hs rfl (by omega)) rfl rfl rfl ?_
              refine KL.op ((by first | exact R.fieldAddr rfl Try.underlying41 rfl rfl sz5 rfl | exact R.fieldAddrP rfl Try.underlying41 rfl rfl sz5 rfl)) rfl rfl rfl ?_
              refine KL.op (R.load rfl Try.underlying5 rfl rfl (o0.cell hox)) rfl rfl rfl ?_
              refine KL.call rfl rfl rfl rfl Try.call9 rfl rfl rfl ((Ends_k (H := H7) (l.getD (((parts l).getD k default).a - 1) default).op).mono (R' := fun u H' => u = .bool true ∧ H7 = H') (fun _ _ h => ⟨h.1.trans (congrArg Value.bool (p8 (by omega))), h.2⟩)) ?_
              rintro _ _ ⟨rfl, rfl⟩
              refine KL.op (R.not rfl rfl) rfl rfl rfl ?_
              refine KL.op (R.pick rfl rfl rfl) rfl rfl rfl ?_
              refine KL.op (R.move rfl rfl) rfl rfl rfl ?_
              refine KL.op ((by first | exact R.fieldAddr rfl Try.underlying31 rfl rfl sz3 rfl | exact R.fieldAddrP rfl Try.underlying31 rfl rfl sz3 rfl)) rfl rfl rfl ?_
              refine KL.op (R.load rfl Try.underlying3 rfl rfl (by first | exact cell_of bp rfl | assumption)) rfl rfl rfl ?_
              refine KL.op (R.move rfl rfl) rfl rfl rfl ?_
              refine KL.op (R.lenS rfl Try.underlying22 rfl hs) rfl rfl rfl ?_
              refine KL.op (R.lss rfl rfl rfl) rfl rfl rfl ?_
              refine KL.op (R.move rfl rfl) rfl rfl rfl ?_
              refine KL.case (d := 101) rfl ?_ ?_
              · intro hg101
                try simp only [decide_eq_true_eq, decide_eq_false_iff_not, Bool.not_eq_true', Bool.not_eq_false', Bool.and_eq_true, Bool.or_eq_false_iff] at hg101
                have hpt : ((parts l).getD k default).t < l.length := Int.ofNat_lt.mp (by simpa using hg101)
                refine KL.op (R.move rfl rfl) rfl rfl rfl ?_
                refine KL.op ((by first | exact R.fieldAddr rfl Try.underlying31 rfl rfl sz3 rfl | exact R.fieldAddrP rfl Try.underlying31 rfl rfl sz3 rfl)) rfl rfl rfl ?_
                refine KL.op (R.load rfl Try.underlying3 rfl rfl (by first | exact cell_of bp rfl | assumption)) rfl rfl rfl ?_
                refine KL.op ((R.sub rfl rfl rfl (by dsimp only [InR]; omega)).val (congrArg (Value.int .i64) (show ((((parts l).getD k default).t : Nat) : Int) - 1 = ((((parts l).getD k default).t - 1 : Nat) : Int) by omega))) rfl rfl rfl ?_
                obtain ⟨hox, hor⟩ := hs.insOp (((parts l).getD k default).t - 1) (by omega)
                refine KL.op (R.index (j := ((parts l).getD k default).t - 1) rfl Try.underlying22 sz41 rfl rfl hs rfl (by omega)) rfl rfl rfl ?_
                refine KL.op ((by first | exact R.fieldAddr rfl Try.underlying41 rfl rfl sz5 rfl | exact R.fieldAddrP rfl Try.underlying41 rfl rfl sz5 rfl)) rfl rfl rfl ?_
                refine KL.op (R.load rfl Try.underlying5 rfl rfl (o0.cell hox)) rfl rfl rfl ?_
                refine KL.call rfl rfl rfl rfl Try.call9 rfl rfl rfl ((Ends_k (H := H7) (l.getD (((parts l).getD k default).t - 1) default).op).mono (R' := fun u H' => u = .bool true ∧ H7 = H') (fun _ _ h => ⟨h.1.trans (congrArg Value.bool (p9 (by omega))), h.2⟩)) ?_
                rintro _ _ ⟨rfl, rfl⟩
                refine KL.op (R.not rfl rfl) rfl rfl rfl ?_
                refine KL.op (R.pick rfl rfl rfl) rfl rfl rfl ?_
                refine KL.op (R.pick rfl rfl rfl) rfl rfl rfl ?_
                refine KL.nil ?_
                refine KQ.seq ?_
                refine KC.condF rfl ?_
                refine KC.skip ?_
                refine KQ.seq ?_
                refine KC.quiet (by kernel_rfl) (by kernel_rfl) ?_
                refine KD.op ((by first | exact R.fieldAddr rfl Try.underlying31 rfl rfl sz3 rfl | exact R.fieldAddrP rfl Try.underlying31 rfl rfl sz3 rfl)) rfl rfl rfl ?_
                refine KD.op (R.load rfl Try.underlying3 rfl rfl (by first | exact cell_of bp rfl | assumption)) rfl rfl rfl ?_
                refine KD.op (R.move rfl rfl) rfl rfl rfl ?_
                refine KD.op ((by first | exact R.fieldAddr rfl Try.underlying31 rfl rfl sz29 rfl | exact R.fieldAddrP rfl Try.underlying31 rfl rfl sz29 rfl)) rfl rfl rfl ?_
                refine KD.op (R.load rfl Try.underlying29 rfl rfl (by first | exact cell_of bp rfl | assumption)) rfl rfl rfl ?_
                refine KD.op ((R.add rfl rfl rfl (by dsimp only [InR]; omega)).val (congrArg (Value.int .u64) (show csum (l.take at_) + ((parts l).getD k default).c = csum (l.take ((parts l).getD k default).t) by omega))) rfl rfl rfl ?_
                refine KD.op (R.assign rfl rfl) rfl rfl rfl ?_
                refine KD.op (R.assign rfl rfl) rfl rfl rfl ?_
                refine KD.nil ?_
                refine KQ.normBlock ?_
                refine KQ.seq ?_
                refine KC.region ?_
                refine KL.op ((R.add rfl rfl rfl (by dsimp only [InR]; omega)).val (congrArg (Value.int .i64) (show (k : Int) + 1 = ((k + 1 : Nat) : Int) by omega))) rfl rfl rfl ?_
                refine KL.op (R.move rfl rfl) rfl rfl rfl ?_
                refine KL.nil ?_
                refine KQ.again ((k + 1, ((parts l).getD k default).t)) ?_ ?_ ?_
                · exact (Sub.cons rfl (Sub.cons rfl (Sub.cons rfl (Ext.sub (by repeat (first | exact Ext.refl _ _ | refine Ext.put rfl ?_ | refine Ext.drop rfl ?_))))))
                · show (parts l).length - (k + 1) < (parts l).length - k; omega
                · exact ⟨by show k + 1 ≤ _; omega, p10, p3, o0, oP⟩
              · intro hg101
                try simp only [decide_eq_true_eq, decide_eq_false_iff_not, Bool.not_eq_true', Bool.not_eq_false', Bool.and_eq_true, Bool.or_eq_false_iff] at hg101
                refine KL.skip rfl rfl rfl ?_
                refine KL.skip rfl rfl rfl ?_
                refine KL.skip rfl rfl rfl ?_
                refine KL.skip rfl rfl rfl ?_
                refine KL.skip rfl rfl rfl ?_
                refine KL.skip rfl rfl rfl ?_
                refine KL.skip rfl rfl rfl ?_
                refine KL.skip rfl rfl rfl ?_
                refine KL.skip rfl rfl rfl ?_
                refine KL.op (R.pick rfl rfl rfl) rfl rfl rfl ?_
                refine KL.op (R.pick rfl rfl rfl) rfl rfl rfl ?_
                refine KL.nil ?_
                refine KQ.seq ?_
                refine KC.condF rfl ?_
                refine KC.skip ?_
                refine KQ.seq ?_
                refine KC.quiet (by kernel_rfl) (by kernel_rfl) ?_
                refine KD.op ((by first | exact R.fieldAddr rfl Try.underlying31 rfl rfl sz3 rfl | exact R.fieldAddrP rfl Try.underlying31 rfl rfl sz3 rfl)) rfl rfl rfl ?_
                refine KD.op (R.load rfl Try.underlying3 rfl rfl (by first | exact cell_of bp rfl | assumption)) rfl rfl rfl ?_
                refine KD.op (R.move rfl rfl) rfl rfl rfl ?_
                refine KD.op ((by first | exact R.fieldAddr rfl Try.underlying31 rfl rfl sz29 rfl | exact R.fieldAddrP rfl Try.underlying31 rfl rfl sz29 rfl)) rfl rfl rfl ?_
                refine KD.op (R.load rfl Try.underlying29 rfl rfl (by first | exact cell_of bp rfl | assumption)) rfl rfl rfl ?_
                refine KD.op ((R.add rfl rfl rfl (by dsimp only [InR]; omega)).val (congrArg (Value.int .u64) (show csum (l.take at_) + ((parts l).getD k default).c = csum (l.take ((parts l).getD k default).t) by omega))) rfl rfl rfl ?_
                refine KD.op (R.assign rfl rfl) rfl rfl rfl ?_
                refine KD.op (R.assign rfl rfl) rfl rfl rfl ?_
                refine KD.nil ?_
                refine KQ.normBlock ?_
                refine KQ.seq ?_
                refine KC.region ?_
                refine KL.op ((R.add rfl rfl rfl (by dsimp only [InR]; omega)).val (congrArg (Value.int .i64) (show (k : Int) + 1 = ((k + 1 : Nat) : Int) by omega))) rfl rfl rfl ?_
                refine KL.op (R.move rfl rfl) rfl rfl rfl ?_
                refine KL.nil ?_
                refine KQ.again ((k + 1, ((parts l).getD k default).t)) ?_ ?_ ?_
                · exact (Sub.cons rfl (Sub.cons rfl (Sub.cons rfl (Ext.sub (by repeat (first | exact Ext.refl _ _ | refine Ext.put rfl ?_ | refine Ext.drop rfl ?_))))))
                · show (parts l).length - (k + 1) < (parts l).length - k; omega
                · exact ⟨by show k + 1 ≤ _; omega, p10, p3, o0, oP⟩
            · intro hg84
              try simp only [decide_eq_true_eq, decide_eq_false_iff_not, Bool.not_eq_true', Bool.not_eq_false', Bool.and_eq_true, Bool.or_eq_false_iff] at hg84
              refine KL.skip rfl rfl rfl ?_
              refine KL.skip rfl rfl rfl ?_
              refine KL.skip rfl rfl rfl ?_
              refine KL.skip rfl rfl rfl ?_
              refine KL.skip rfl rfl rfl ?_
              refine KL.skip rfl rfl rfl ?_
              refine KL.skip rfl rfl rfl ?_
              refine KL.skip rfl rfl rfl ?_
              refine KL.skip rfl rfl rfl ?_
              refine KL.op (R.pick rfl rfl rfl) rfl rfl rfl ?_
              refine KL.op (R.move rfl rfl) rfl rfl rfl ?_
              refine KL.op ((by first | exact R.fieldAddr rfl Try.underlying31 rfl rfl sz3 rfl | exact R.fieldAddrP rfl Try.underlying31 rfl rfl sz3 rfl)) rfl rfl rfl ?_
              refine KL.op (R.load rfl Try.underlying3 rfl rfl (by first | exact cell_of bp rfl | assumption)) rfl rfl rfl ?_
              refine KL.op (R.move rfl rfl) rfl rfl rfl ?_
              refine KL.op (R.lenS rfl Try.underlying22 rfl hs) rfl rfl rfl ?_
              refine KL.op (R.lss rfl rfl rfl) rfl rfl rfl ?_
              refine KL.op (R.move rfl rfl) rfl rfl rfl ?_
              refine KL.case (d := 101) rfl ?_ ?_
              · intro hg101
                try simp only [decide_eq_true_eq, decide_eq_false_iff_not, Bool.not_eq_true', Bool.not_eq_false', Bool.and_eq_true, Bool.or_eq_false_iff] at hg101
                have hpt : ((parts l).getD k default).t < l.length := Int.ofNat_lt.mp (by simpa using hg101)
                refine KL.op (R.move rfl rfl) rfl rfl rfl ?_
                refine KL.op ((by first | exact R.fieldAddr rfl Try.underlying31 rfl rfl sz3 rfl | exact R.fieldAddrP rfl Try.underlying31 rfl rfl sz3 rfl)) rfl rfl rfl ?_
                refine KL.op (R.load rfl Try.underlying3 rfl rfl (by first | exact cell_of bp rfl | assumption)) rfl rfl rfl ?_
                refine KL.op ((R.sub rfl rfl rfl (by dsimp only [InR]; omega)).val (congrArg (Value.int .i64) (show ((((parts l).getD k default).t : Nat) : Int) - 1 = ((((parts l).getD k default).t - 1 : Nat) : Int) by omega))) rfl rfl rfl ?_
                obtain ⟨hox, hor⟩ := hs.insOp (((parts l).getD k default).t - 1) (by omega)
                refine KL.op (R.index (j := ((parts l).getD k default).t - 1) rfl Try.underlying22 sz41 rfl rfl hs rfl (by omega)) rfl rfl rfl ?_
                refine KL.op ((by first | exact R.fieldAddr rfl Try.underlying41 rfl rfl sz5 rfl | exact R.fieldAddrP rfl Try.underlying41 rfl rfl sz5 rfl)) rfl rfl rfl ?_
                refine KL.op (R.load rfl Try.underlying5 rfl rfl (o0.cell hox)) rfl rfl rfl ?_
                refine KL.call rfl rfl rfl rfl Try.call9 rfl rfl rfl ((Ends_k (H := H7) (l.getD (((parts l).getD k default).t - 1) default).op).mono (R' := fun u H' => u = .bool true ∧ H7 = H') (fun _ _ h => ⟨h.1.trans (congrArg Value.bool (p9 (by omega))), h.2⟩)) ?_
                rintro _ _ ⟨rfl, rfl⟩
                refine KL.op (R.not rfl rfl) rfl rfl rfl ?_
                refine KL.op (R.pick rfl rfl rfl) rfl rfl rfl ?_
                refine KL.op (R.pick rfl rfl rfl) rfl rfl rfl ?_
                refine KL.nil ?_
                refine KQ.seq ?_
                refine KC.condF rfl ?_
                refine KC.skip ?_
                refine KQ.seq ?_
                refine KC.quiet (by kernel_rfl) (by kernel_rfl) ?_
                refine KD.op ((by first | exact R.fieldAddr rfl Try.underlying31 rfl rfl sz3 rfl | exact R.fieldAddrP rfl Try.underlying31 rfl rfl sz3 rfl)) rfl rfl rfl ?_
                refine KD.op (R.load rfl Try.underlying3 rfl rfl (by first | exact cell_of bp rfl | assumption)) rfl rfl rfl ?_
                refine KD.op (R.move rfl rfl) rfl rfl rfl ?_
                refine KD.op ((by first | exact R.fieldAddr rfl Try.underlying31 rfl rfl sz29 rfl | exact R.fieldAddrP rfl Try.underlying31 rfl rfl sz29 rfl)) rfl rfl rfl ?_
                refine KD.op (R.load rfl Try.underlying29 rfl rfl (by first | exact cell_of bp rfl | assumption)) rfl rfl rfl ?_
                refine KD.op ((R.add rfl rfl rfl (by dsimp only [InR]; omega)).val (congrArg (Value.int .u64) (show csum (l.take at_) + ((parts l).getD k default).c = csum (l.take ((parts l).getD k default).t) by omega))) rfl rfl rfl ?_
                refine KD.op (R.assign rfl rfl) rfl rfl rfl ?_
                refine KD.op (R.assign rfl rfl) rfl rfl rfl ?_
                refine KD.nil ?_
                refine KQ.normBlock ?_
                refine KQ.seq ?_
                refine KC.region ?_
                refine KL.op ((R.add rfl rfl rfl (by dsimp only [InR]; omega)).val (congrArg (Value.int .i64) (show (k : Int) + 1 = ((k + 1 : Nat) : Int) by omega))) rfl rfl rfl ?_
                refine KL.op (R.move rfl rfl) rfl rfl rfl ?_
                refine KL.nil ?_
                refine KQ.again ((k + 1, ((parts l).getD k default).t)) ?_ ?_ ?_
                · exact (Sub.cons rfl (Sub.cons rfl (Sub.cons rfl (Ext.sub (by repeat (first | exact Ext.refl _ _ | refine Ext.put rfl ?_ | refine Ext.drop rfl ?_))))))
                · show (parts l).length - (k + 1) < (parts l).length - k; omega
                · exact ⟨by show k + 1 ≤ _; omega, p10, p3, o0, oP⟩
              · intro hg101
                try simp only [decide_eq_true_eq, decide_eq_false_iff_not, Bool.not_eq_true', Bool.not_eq_false', Bool.and_eq_true, Bool.or_eq_false_iff] at hg101
                refine KL.skip rfl rfl rfl ?_
                refine KL.skip rfl rfl rfl ?_
                refine KL.skip rfl rfl rfl ?_
                refine KL.skip rfl rfl rfl ?_
                refine KL.skip rfl rfl rfl ?_
                refine KL.skip rfl rfl rfl ?_
                refine KL.skip rfl rfl rfl ?_
                refine KL.skip rfl rfl rfl ?_
                refine KL.skip rfl rfl rfl ?_
                refine KL.op (R.pick rfl rfl rfl) rfl rfl rfl ?_
                refine KL.op (R.pick rfl rfl rfl) rfl rfl rfl ?_
                refine KL.nil ?_
                refine KQ.seq ?_
                refine KC.condF rfl ?_
                refine KC.skip ?_
                refine KQ.seq ?_
                refine KC.quiet (by kernel_rfl) (by kernel_rfl) ?_
                refine KD.op ((by first | exact R.fieldAddr rfl Try.underlying31 rfl rfl sz3 rfl | exact R.fieldAddrP rfl Try.underlying31 rfl rfl sz3 rfl)) rfl rfl rfl ?_
                refine KD.op (R.load rfl Try.underlying3 rfl rfl (by first | exact cell_of bp rfl | assumption)) rfl rfl rfl ?_
                refine KD.op (R.move rfl rfl) rfl rfl rfl ?_
                refine KD.op ((by first | exact R.fieldAddr rfl Try.underlying31 rfl rfl sz29 rfl | exact R.fieldAddrP rfl Try.underlying31 rfl rfl sz29 rfl)) rfl rfl rfl ?_
                refine KD.op (R.load rfl Try.underlying29 rfl rfl (by first | exact cell_of bp rfl | assumption)) rfl rfl rfl ?_
                refine KD.op ((R.add rfl rfl rfl (by dsimp only [InR]; omega)).val (congrArg (Value.int .u64) (show csum (l.take at_) + ((parts l).getD k default).c = csum (l.take ((parts l).getD k default).t) by omega))) rfl rfl rfl ?_
                refine KD.op (R.assign rfl rfl) rfl rfl rfl ?_
                refine KD.op (R.assign rfl rfl) rfl rfl rfl ?_
                refine KD.nil ?_
                refine KQ.normBlock ?_
                refine KQ.seq ?_
                refine KC.region ?_
                refine KL.op ((R.add rfl rfl rfl (by dsimp only [InR]; omega)).val (congrArg (Value.int .i64) (show (k : Int) + 1 = ((k + 1 : Nat) : Int) by omega))) rfl rfl rfl ?_
                refine KL.op (R.move rfl rfl) rfl rfl rfl ?_
                refine KL.nil ?_
                refine KQ.again ((k + 1, ((parts l).getD k default).t)) ?_ ?_ ?_
                · exact (Sub.cons rfl (Sub.cons rfl (Sub.cons rfl (Ext.sub (by repeat (first | exact Ext.refl _ _ | refine Ext.put rfl ?_ | refine Ext.drop rfl ?_))))))
                · show (parts l).length - (k + 1) < (parts l).length - k; omega
                · exact ⟨by show k + 1 ≤ _; omega, p10, p3, o0, oP⟩
      · intro hc18
        try simp only [decide_eq_true_eq, decide_eq_false_iff_not, Bool.not_eq_true', Bool.not_eq_false', Bool.and_eq_true, Bool.or_eq_false_iff] at hc18
        have hkl : k = (parts l).length := by omega
        rw [hkl, List.drop_length] at hpc
        have hpc2 : csum (l.take l.length) = csum (l.take at_) := hpc
        rw [List.take_length] at hpc2
        have d4 := csum_diff l (a := at_) (b := l.length) hat
        rw [List.take_length] at d4
        refine KC.exit ?_
        refine KQ.exitThen ?_
        refine KQ.exitThen ?_
        refine KQ.hit ?_
        refine KQ.seq ?_
        refine KC.seq ?_
        refine KC.region ?_
        refine KL.op (R.move rfl rfl) rfl rfl rfl ?_
        refine KL.op (R.move rfl rfl) rfl rfl rfl ?_
        refine KL.op (R.slice rfl Try.underlying22 sz41 rfl hs (bnd.mk (r := at_) rfl rfl) bnd.no (by omega) (Nat.le_refl _)) rfl rfl rfl ?_
        refine KL.call rfl rfl rfl rfl Try.call12 rfl rfl rfl (Sum_k ((hs.sub (lo := at_) (hi := l.length) (by omega) (Nat.le_refl _)).old o0) (by rw [List.length_drop, List.length_take]; omega)) ?_
        rintro _ H10 ⟨rfl, ox⟩
        have zc_H10 := (ox).1
        have o0 := o0.trans ox
        have oP := oP.trans ox
        refine KL.op ((R.eql rfl rfl rfl).val (congrArg Value.bool (decide_eq_true (by rw [List.take_length]; omega)))) rfl rfl rfl ?_
        refine KL.op (R.move rfl rfl) rfl rfl rfl ?_
        refine KL.op (R.move rfl rfl) rfl rfl rfl ?_
        refine KL.op (R.move rfl rfl) rfl rfl rfl ?_
        refine KL.call rfl rfl rfl rfl Try.call12 rfl rfl rfl (Sum_k (hs.old o0) (by omega)) ?_
        rintro _ H11 ⟨rfl, ox⟩
        have zc_H11 := (ox).1
        have o0 := o0.trans ox
        have oP := oP.trans ox
        refine KL.op ((R.eql rfl rfl rfl).val (congrArg Value.bool (decide_eq_true (by dsimp only; omega)))) rfl rfl rfl ?_
        refine KL.op (R.pick rfl rfl rfl) rfl rfl rfl ?_
        refine KL.op (R.assign rfl rfl) rfl rfl rfl ?_
        refine KL.nil ?_
        refine KQ.seq ?_
        refine KC.ret ?_
        refine KQ.ofRet ?_
        refine KQ.fin1 Try.results4 rfl ?_
        exact ⟨rfl, o0⟩

end Go.Proofs.Ytokidabnjodglaa
