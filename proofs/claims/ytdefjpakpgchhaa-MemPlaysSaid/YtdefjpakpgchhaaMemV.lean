/- Any limits, any calls. No condition. -/
import Derived.Test.YtdefjpakpgchhaaMemU
namespace Go.Proofs.Ytdefjpakpgchhaa
open Go Go.RowKit
set_option linter.unusedVariables false
set_option linter.unusedSimpArgs false
set_option linter.unnecessarySimpa false
set_option maxRecDepth 100000 in
set_option maxHeartbeats 4000000 in
theorem MemPlays_any {H : Heap} (mn mx : Int) (r1 : InR .u32 mn) (r2 : InR .i64 mx) (c0 : Value) (l : List Dox) (hs : Sl 7 EDo H c0 l) : Ct Try.prog 7 [.agg #[.int .u32 mn, .int .i64 mx], c0] H (fun u H' => u = .bool true ∧ Old H H') := by
  refine Ct.mk Try.func7 rfl Try.ntmps7 rfl ?_
  intro W0 hW0
  have o0 : Old H H := Old.refl H
  have hll := hs.len
  refine KC.seq ?_
  refine KC.region ?_
  refine KL.opM (M.box rfl rfl rfl) rfl rfl rfl ?_
  rintro _ H1 ⟨rfl, n1⟩
  have z1 := n1.2.1
  have o0 := o0.trans n1.1
  have b1 := n1.2.2
  have bl := b1
  refine KL.op (R.assign rfl rfl) rfl rfl rfl ?_
  refine KL.nil ?_
  refine KQ.seq ?_
  refine KC.seq ?_
  refine KC.seq ?_
  refine KC.region ?_
  refine KL.op (R.move rfl rfl) rfl rfl rfl ?_
  refine KL.call rfl rfl rfl rfl Try.call19 rfl rfl rfl (heavy_any _ _ (hs.old o0)) ?_
  rintro _ H2 ⟨hv, rfl, ox⟩
  have o0 := o0.trans ox
  have bl := (ox).blk bl
  refine KL.nil ?_
  refine KQ.seq ?_
  refine KC.iteL rfl ?_ ?_
  · intro hc23
    try simp only [decide_eq_true_eq, decide_eq_false_iff_not, Bool.not_eq_true', Bool.not_eq_false', Bool.and_eq_true, Bool.or_eq_false_iff] at hc23
    refine KC.seq ?_
    refine KC.region ?_
    refine KL.call rfl rfl rfl rfl Try.call8 rfl rfl rfl (works_any) ?_
    rintro _ H3 ⟨rfl, ox⟩
    have o0 := o0.trans ox
    have bl := (ox).blk bl
    refine KL.op (R.assign rfl rfl) rfl rfl rfl ?_
    refine KL.nil ?_
    refine KQ.seq ?_
    refine KC.ret ?_
    refine KQ.retThen ?_
    refine KQ.ofRet ?_
    refine KQ.fin1 Try.results7 rfl ?_
    exact ⟨rfl, o0⟩
  · intro hc23
    try simp only [decide_eq_true_eq, decide_eq_false_iff_not, Bool.not_eq_true', Bool.not_eq_false', Bool.and_eq_true, Bool.or_eq_false_iff] at hc23
    refine KC.skip ?_
    refine KQ.seq ?_
    refine KC.seq ?_
    refine KC.region ?_
    refine KL.op (R.loadAgg rfl Try.underlying42 rfl sz42 rfl (by first | exact cells_of bl | assumption) rfl) rfl rfl rfl ?_
    refine KL.call rfl rfl rfl rfl Try.call15 rfl rfl rfl (New_any mn mx r1 r2) ?_
    have hbl := blk_lt bl
    have zo0 := o0.1
    rintro u H4 ⟨ox, hR⟩
    have zx := ox.1
    have o0 := o0.trans ox
    have bl := (ox).blk bl
    rcases hR with ⟨hok, g1, v1, rfl, hm1, hf1⟩ | ⟨hno, rfl⟩
    · skip
      refine KL.op (R.move rfl rfl) rfl rfl rfl ?_
      refine KL.op (R.extract rfl rfl rfl) rfl rfl rfl ?_
      refine KL.op (R.extract rfl rfl rfl) rfl rfl rfl ?_
      refine KL.op (R.assign rfl rfl) rfl rfl rfl ?_
      refine KL.op (R.assign rfl rfl) rfl rfl rfl ?_
      refine KL.nil ?_
      refine KQ.seq ?_
      refine KC.seq ?_
      refine KC.region ?_
      refine KL.op (R.loadAgg rfl Try.underlying42 rfl sz42 rfl (by first | exact cells_of bl | assumption) rfl) rfl rfl rfl ?_
      refine KL.call rfl rfl rfl rfl Try.call20 rfl rfl rfl (rNew_any mn mx r1 r2) ?_
      have hm1b := hm1
      have zo1 := o0.1
      rintro u H5 ⟨ox, hR⟩
      have zx2 := ox.1
      rcases hR with ⟨-, g2, v2, rfl, hm2, hf2⟩ | ⟨h, -⟩
      rotate_left
      · exact absurd hok h
      have o0 := o0.trans ox
      have bl := (ox).blk bl
      have hm1 := hm1.old ox
      refine KL.op (R.move rfl rfl) rfl rfl rfl ?_
      refine KL.op (R.extract rfl rfl rfl) rfl rfl rfl ?_
      refine KL.op (R.extract rfl rfl rfl) rfl rfl rfl ?_
      refine KL.op (R.assign rfl rfl) rfl rfl rfl ?_
      refine KL.op (R.assign rfl rfl) rfl rfl rfl ?_
      refine KL.nil ?_
      refine KQ.seq ?_
      refine KC.seq ?_
      refine KC.seq ?_
      refine KC.region ?_
      refine KL.op (R.move rfl rfl) rfl rfl rfl ?_
      refine KL.op (R.not rfl rfl) rfl rfl rfl ?_
      refine KL.nil ?_
      refine KQ.seq ?_
      refine KC.condF rfl ?_
      refine KC.skip ?_
      refine KQ.seq ?_
      refine KC.seq ?_
      refine KC.seq ?_
      refine KC.region ?_
      refine KL.op (R.move rfl rfl) rfl rfl rfl ?_
      refine KL.op ((R.neq rfl rfl rfl).val ((congrArg (fun b => Value.bool (!b)) (decide_eq_true (by rfl))))) rfl rfl rfl ?_
      refine KL.nil ?_
      refine KQ.seq ?_
      refine KC.condF rfl ?_
      refine KC.skip ?_
      refine KQ.seq ?_
      refine KC.seq ?_
      refine KC.seq ?_
      refine KC.region ?_
      refine KL.op (R.move rfl rfl) rfl rfl rfl ?_
      refine KL.op ((by first | exact R.lenS rfl Try.underlying50 rfl (by first | exact hs.old o0 | exact hm1 | exact hm2 | assumption) | exact R.len (ty := 0) rfl Try.underlying50 rfl)) rfl rfl rfl ?_
      refine KL.op (R.move rfl rfl) rfl rfl rfl ?_
      refine KL.nil ?_
      refine KQ.seq ?_
      refine KC.block ?_
      have hf1 := hf1.weak (A := H.size) (by omega)
      have hf2b := hf2.weak (A := H.size) (by omega)
      have sep : Sep g1 v1 g2 v2 := (Sep.fresh (hm1b) hf2).symm
      refine KC.loopD (κ := Nat × Nat × Value × Value × List Int) [51, 52, 53, 10, 54, 55, 57, 56, 59, 60, 61, 62, 63, 64, 65, 66, 58, 67, 68, 11, 12, 70, 71, 72, 73, 74, 75, 76, 77, 69, 78, 79, 13, 14, 80, 81, 82, 83, 84, 85, 86, 87, 4, 89, 88, 90, 91, 92, 93, 94, 95, 96, 97, 98, 99, 100, 101, 102, 103, 104, 105, 106, 107, 108, 109, 110, 112, 111, 113, 114, 115, 116, 117, 118, 119, 120, 121, 123, 122, 125, 126, 127, 128, 129, 130, 124, 131, 132, 15, 16, 134, 135, 136, 137, 138, 139, 133, 140, 141, 17, 18, 142, 143, 144, 145, 146, 147, 148, 149, 150, 151, 153, 152, 154, 155, 156, 157, 158, 159, 160, 161, 162, 163, 164, 165, 166, 168, 167, 169, 19, 170, 171, 5, 172, 173, 174, 175, 176, 177, 178, 179, 180, 181, 182, 183, 184, 185, 186, 187, 188, 50] (fun k => [(50, .int .i64 (k.1 : Nat)), (5, .pointer (some ⟨k.2.1, 0, none⟩))]) (fun k Hl => k.1 ≤ l.length ∧ MAt 65 .u32 Hl k.2.1 k.2.2.1 k.2.2.2.2 (newM mx) ∧ MAt 58 .u64 Hl g2 k.2.2.2.1 k.2.2.2.2 (newM mx) ∧ Fresh H.size k.2.1 k.2.2.1 ∧ Fresh H.size g2 k.2.2.2.1 ∧ Sep k.2.1 k.2.2.1 g2 k.2.2.2.1 ∧ Old H Hl) (fun k => l.length - k.1) (0, g1, v1, v2, zeros mn) ?_ ?_ ?_
      · exact (Sub.cons rfl (Sub.cons rfl (Ext.sub (Ext.refl _ _))))
      · exact ⟨Nat.zero_le _, hm1, hm2, hf1, hf2b, sep, o0⟩
      · rintro ⟨k, g1, v1, v2, bs⟩ H6 ⟨hk, hm1, hm2, hf1, hf2, sep, o0⟩
        have zl_H6 := o0.1
        dsimp only
        dsimp only at hk hm1 hm2 hf1 hf2 sep o0
        refine KC.seq ?_
        refine KC.region ?_
        refine KL.op (R.lss rfl rfl rfl) rfl rfl rfl ?_
        refine KL.nil ?_
        refine KQ.seq ?_
        refine KC.seq ?_
        refine KC.iteL rfl ?_ ?_
        · intro hc51
          try simp only [decide_eq_true_eq, decide_eq_false_iff_not, Bool.not_eq_true', Bool.not_eq_false', Bool.and_eq_true, Bool.or_eq_false_iff] at hc51
          obtain ⟨u, hcx0, hu0, q0, q1, q2, q3, q4, q5⟩ := hs.doAt k (by omega)
          have hcx := o0.cells hcx0
          have hu := hu0.old o0
          have hl6 := hu.len
          have huv : (l.getD k default).b = [] ∨ v2 = .slice none 0 0 ∨ vblock u ≠ vblock v2 := (by
            by_cases hb0 : (l.getD k default).b = []
            · exact .inl hb0
            · have := hu0.blk_lt (by omega) (List.length_pos_iff.2 hb0)
              exact .inr (hf2.2.imp id (fun h => by omega)))
          have lt1 := hm1.lt
          have lt2 := hm2.lt
          have lv1 := hm1.w.lt
          have lv2 := hm2.w.lt
          have kv1 := lv1
          have kv2 := lv2
          refine KC.skip ?_
          refine KQ.seq ?_
          refine KC.seq ?_
          refine KC.block ?_
          refine KC.seq ?_
          refine KC.region ?_
          refine KL.op (R.index (j := k) rfl Try.underlying50 sz56 rfl rfl (hs.old o0) rfl (by omega)) rfl rfl rfl ?_
          refine KL.op (R.loadAgg rfl Try.underlying56 rfl sz56 rfl hcx rfl) rfl rfl rfl ?_
          refine KL.opM (M.alloc rfl zr56 rfl) rfl rfl rfl ?_
          rintro _ H7 ⟨rfl, n7⟩
          have z7 := n7.2.1
          have o0 := o0.trans n7.1
          have hm1 := hm1.old n7.1
          have hm2 := hm2.old n7.1
          have b7 := n7.2.2
          have bx := b7
          refine KL.opS (S.storeAgg rfl sz56 rfl rfl rfl (by intro q hq; simp only [List.mem_cons, List.not_mem_nil, or_false] at hq; rcases hq with rfl | rfl | rfl | rfl | rfl | rfl | rfl <;> first | rfl | exact hu.one) bx (by simp)) rfl rfl ?_
          rintro H8 ⟨u8, b8⟩
          have o0 := o0.upd u8 (by omega)
          have zu8 := u8.1
          have bx := b8
          have hm1 := hm1.updU u8 (by omega) (lv1.imp id (fun h => by omega))
          have hm2 := hm2.updU u8 (by omega) (lv2.imp id (fun h => by omega))
          refine KL.nil ?_
          refine KQ.seq ?_
          refine KC.seq ?_
          refine KC.seq ?_
          refine KC.region ?_
          refine KL.op ((by first | exact R.fieldAddr rfl Try.underlying56 rfl rfl sz5 rfl | exact R.fieldAddrP rfl Try.underlying56 rfl rfl sz5 rfl)) rfl rfl rfl ?_
          refine KL.op (R.load rfl Try.underlying5 rfl rfl (by first | exact cell_of bx rfl | exact cell_of hg rfl | exact cell_of bx rfl | exact cell_of hb2 rfl | assumption)) rfl rfl rfl ?_
          refine KL.nil ?_
          refine KQ.seq ?_
          refine KC.block ?_
          refine KC.seq ?_
          refine KC.region ?_
          refine KL.op (R.eql rfl rfl rfl) rfl rfl rfl ?_
          refine KL.op (R.assign rfl rfl) rfl rfl rfl ?_
          refine KL.nil ?_
          refine KQ.seq ?_
          refine KC.iteL rfl ?_ ?_
          · intro hc56
            try simp only [decide_eq_true_eq, decide_eq_false_iff_not, Bool.not_eq_true', Bool.not_eq_false', Bool.and_eq_true, Bool.or_eq_false_iff] at hc56
            refine KC.seq ?_
            refine KC.region ?_
            refine KL.op (R.move rfl rfl) rfl rfl rfl ?_
            refine KL.op ((by first | exact R.fieldAddr rfl Try.underlying56 rfl rfl sz5 rfl | exact R.fieldAddrP rfl Try.underlying56 rfl rfl sz5 rfl)) rfl rfl rfl ?_
            refine KL.op (R.load rfl Try.underlying5 rfl rfl (by first | exact cell_of bx rfl | exact cell_of hg rfl | exact cell_of bx rfl | exact cell_of hb2 rfl | assumption)) rfl rfl rfl ?_
            refine KL.op ((by first | exact R.fieldAddr rfl Try.underlying56 rfl rfl sz23 rfl | exact R.fieldAddrP rfl Try.underlying56 rfl rfl sz23 rfl)) rfl rfl rfl ?_
            refine KL.op (R.load rfl Try.underlying23 rfl rfl (by first | exact cell_of bx rfl | exact cell_of hg rfl | exact cell_of bx rfl | exact cell_of hb2 rfl | assumption)) rfl rfl rfl ?_
            refine KL.op ((by first | exact R.fieldAddr rfl Try.underlying56 rfl rfl sz23 rfl | exact R.fieldAddrP rfl Try.underlying56 rfl rfl sz23 rfl)) rfl rfl rfl ?_
            refine KL.op (R.load rfl Try.underlying23 rfl rfl (by first | exact cell_of bx rfl | exact cell_of hg rfl | exact cell_of bx rfl | exact cell_of hb2 rfl | assumption)) rfl rfl rfl ?_
            refine KL.call rfl rfl rfl rfl Try.call12 rfl rfl rfl (Load_any _ _ _ _ hm1 _ _ _ q1 q2 q3) ?_
            rintro _ H9 ⟨rfl, ox⟩
            have o0 := o0.trans ox
            have bx := (ox).blk bx
            have hm1 := hm1.old ox
            have hm2 := hm2.old ox
            refine KL.op (R.move rfl rfl) rfl rfl rfl ?_
            refine KL.op (R.extract rfl rfl rfl) rfl rfl rfl ?_
            refine KL.op (R.extract rfl rfl rfl) rfl rfl rfl ?_
            refine KL.op (R.assign rfl rfl) rfl rfl rfl ?_
            refine KL.op (R.assign rfl rfl) rfl rfl rfl ?_
            refine KL.nil ?_
            refine KQ.seq ?_
            refine KC.seq ?_
            refine KC.region ?_
            refine KL.op (R.move rfl rfl) rfl rfl rfl ?_
            refine KL.op ((by first | exact R.fieldAddr rfl Try.underlying56 rfl rfl sz5 rfl | exact R.fieldAddrP rfl Try.underlying56 rfl rfl sz5 rfl)) rfl rfl rfl ?_
            refine KL.op (R.load rfl Try.underlying5 rfl rfl (by first | exact cell_of bx rfl | exact cell_of hg rfl | exact cell_of bx rfl | exact cell_of hb2 rfl | assumption)) rfl rfl rfl ?_
            refine KL.op ((by first | exact R.fieldAddr rfl Try.underlying56 rfl rfl sz23 rfl | exact R.fieldAddrP rfl Try.underlying56 rfl rfl sz23 rfl)) rfl rfl rfl ?_
            refine KL.op (R.load rfl Try.underlying23 rfl rfl (by first | exact cell_of bx rfl | exact cell_of hg rfl | exact cell_of bx rfl | exact cell_of hb2 rfl | assumption)) rfl rfl rfl ?_
            refine KL.op ((by first | exact R.fieldAddr rfl Try.underlying56 rfl rfl sz23 rfl | exact R.fieldAddrP rfl Try.underlying56 rfl rfl sz23 rfl)) rfl rfl rfl ?_
            refine KL.op (R.load rfl Try.underlying23 rfl rfl (by first | exact cell_of bx rfl | exact cell_of hg rfl | exact cell_of bx rfl | exact cell_of hb2 rfl | assumption)) rfl rfl rfl ?_
            refine KL.call rfl rfl rfl rfl Try.call21 rfl rfl rfl (rLoad_any _ _ _ _ hm2 _ _ _ q1 q2 q3) ?_
            rintro _ _ ⟨rfl, rfl⟩
            refine KL.op (R.move rfl rfl) rfl rfl rfl ?_
            refine KL.op (R.extract rfl rfl rfl) rfl rfl rfl ?_
            refine KL.op (R.extract rfl rfl rfl) rfl rfl rfl ?_
            refine KL.op (R.assign rfl rfl) rfl rfl rfl ?_
            refine KL.op (R.assign rfl rfl) rfl rfl rfl ?_
            refine KL.nil ?_
            refine KQ.seq ?_
            refine KC.seq ?_
            refine KC.region ?_
            refine KL.op (R.move rfl rfl) rfl rfl rfl ?_
            refine KL.op (R.move rfl rfl) rfl rfl rfl ?_
            refine KL.op ((R.neq rfl rfl rfl).val ((congrArg (fun b => Value.bool (!b)) (decide_eq_true (by rfl))))) rfl rfl rfl ?_
            refine KL.op (R.move rfl rfl) rfl rfl rfl ?_
            refine KL.op (R.move rfl rfl) rfl rfl rfl ?_
            refine KL.op (R.move rfl rfl) rfl rfl rfl ?_
            refine KL.op ((R.neqB rfl Try.underlying4 rfl rfl).val (congrArg Value.bool (show (!(_ == _)) = false from by simp))) rfl rfl rfl ?_
            refine KL.op (R.pick rfl rfl rfl) rfl rfl rfl ?_
            refine KL.nil ?_
            refine KQ.seq ?_
            refine KC.condF rfl ?_
            refine KC.skip ?_
            refine KQ.normBlock ?_
            refine KQ.seq ?_
            refine KC.seq ?_
            have hb2 := hm2.b
            have hw2 := hm2.w
            have hn2 := hm2.n
            refine KC.quiet (by kernel_rfl) (by kernel_rfl) ?_
            refine KD.op (R.move rfl rfl) rfl rfl rfl ?_
            refine KD.call rfl rfl rfl rfl Try.call17 rfl rfl rfl (Pages_any _ _ _ _ hm1) ?_
            refine KD.op (R.convI rfl Try.underlying23 Try.underlying3 rfl (by dsimp only [InR]; omega)) rfl rfl rfl ?_
            refine KD.op (R.mul rfl rfl rfl (by dsimp only [InR]; omega)) rfl rfl rfl ?_
            refine KD.op (R.move rfl rfl) rfl rfl rfl ?_
            refine KD.op (R.nilCheck rfl rfl) rfl rfl rfl ?_
            refine KD.op ((by first | exact R.fieldAddr rfl Try.underlying58 rfl rfl sz22 rfl | exact R.fieldAddrP rfl Try.underlying58 rfl rfl sz22 rfl)) rfl rfl rfl ?_
            refine KD.op (R.load rfl Try.underlying22 rfl rfl (by first | exact cell_of bx rfl | exact cell_of hg rfl | exact cell_of bx rfl | exact cell_of hb2 rfl | assumption)) rfl rfl rfl ?_
            refine KD.op (R.lenO rfl Try.underlying22 rfl hw2) rfl rfl rfl ?_
            refine KD.op ((R.neq rfl rfl rfl).val ((congrArg (fun b => Value.bool (!b)) (decide_eq_true (by omega))))) rfl rfl rfl ?_
            refine KD.nil ?_
            refine KQ.seq ?_
            refine KC.condF rfl ?_
            refine KC.skip ?_
            refine KQ.normBlock ?_
            refine KQ.seq ?_
            refine KC.region ?_
            refine KL.op (R.add rfl rfl rfl (by dsimp only [InR]; omega)) rfl rfl rfl ?_
            refine KL.op (R.move rfl rfl) rfl rfl rfl ?_
            refine KL.nil ?_
            refine KQ.again ((k + 1, g1, v1, v2, bs)) ?_ ?_ ?_
            · exact (Sub.cons rfl (Sub.cons rfl (Ext.sub (by repeat (first | exact Ext.refl _ _ | refine Ext.put rfl ?_ | refine Ext.drop rfl ?_)))))
            · show l.length - (k + 1) < l.length - k; omega
            · exact by
                refine ⟨by show k + 1 ≤ _; omega, ?_⟩
                first
                  | exact ⟨hm1, hm2, hf1, hf2, sep, o0⟩
                  | exact ⟨hmn, hm2, hfn, hf2, sepn, o0⟩
          · intro hc56
            try simp only [decide_eq_true_eq, decide_eq_false_iff_not, Bool.not_eq_true', Bool.not_eq_false', Bool.and_eq_true, Bool.or_eq_false_iff] at hc56
            refine KC.seq ?_
            refine KC.region ?_
            refine KL.op (R.eql rfl rfl rfl) rfl rfl rfl ?_
            refine KL.op (R.assign rfl rfl) rfl rfl rfl ?_
            refine KL.nil ?_
            refine KQ.seq ?_
            refine KC.iteL rfl ?_ ?_
            · intro hc88
              try simp only [decide_eq_true_eq, decide_eq_false_iff_not, Bool.not_eq_true', Bool.not_eq_false', Bool.and_eq_true, Bool.or_eq_false_iff] at hc88
              refine KC.seq ?_
              refine KC.text (clOf [(9, 2), (19, 2)]) (fun _ Hc => Hc[_]? = some _) (by kernel_rfl) (by kernel_rfl) (fun _ => bx) ?_
              refine KP.op rfl (fun Hg hg => R.move rfl rfl) rfl rfl rfl ?_
              refine KP.op rfl (fun Hg hg => (by first | exact R.fieldAddr rfl Try.underlying56 rfl rfl sz5 rfl | exact R.fieldAddrP rfl Try.underlying56 rfl rfl sz5 rfl)) rfl rfl rfl ?_
              refine KP.op rfl (fun Hg hg => R.load rfl Try.underlying5 rfl rfl (by first | exact cell_of bx rfl | exact cell_of hg rfl | exact cell_of bx rfl | exact cell_of hb2 rfl | assumption)) rfl rfl rfl ?_
              refine KP.op rfl (fun Hg hg => (by first | exact R.fieldAddr rfl Try.underlying56 rfl rfl sz23 rfl | exact R.fieldAddrP rfl Try.underlying56 rfl rfl sz23 rfl)) rfl rfl rfl ?_
              refine KP.op rfl (fun Hg hg => R.load rfl Try.underlying23 rfl rfl (by first | exact cell_of bx rfl | exact cell_of hg rfl | exact cell_of bx rfl | exact cell_of hb2 rfl | assumption)) rfl rfl rfl ?_
              refine KP.op rfl (fun Hg hg => (by first | exact R.fieldAddr rfl Try.underlying56 rfl rfl sz23 rfl | exact R.fieldAddrP rfl Try.underlying56 rfl rfl sz23 rfl)) rfl rfl rfl ?_
              refine KP.op rfl (fun Hg hg => R.load rfl Try.underlying23 rfl rfl (by first | exact cell_of bx rfl | exact cell_of hg rfl | exact cell_of bx rfl | exact cell_of hb2 rfl | assumption)) rfl rfl rfl ?_
              refine KP.op rfl (fun Hg hg => (by first | exact R.fieldAddr rfl Try.underlying56 rfl rfl sz28 rfl | exact R.fieldAddrP rfl Try.underlying56 rfl rfl sz28 rfl)) rfl rfl rfl ?_
              refine KP.op rfl (fun Hg hg => R.load rfl Try.underlying28 rfl rfl (by first | exact cell_of bx rfl | exact cell_of hg rfl | exact cell_of bx rfl | exact cell_of hb2 rfl | assumption)) rfl rfl rfl ?_
              refine KP.call rfl rfl rfl rfl rfl Try.call14 rfl rfl rfl (Store_any _ _ _ _ hm1 _ _ _ q1 q2 q3 _ q4) (fun _ _ h _ _ _ => (h.2.2.2 _ (by have lt1 := hm1.lt; have lt2 := hm2.lt; omega) (by have lt1 := hm1.lt; have lt2 := hm2.lt; omega) (kv1.imp id (fun h => by omega))).trans bx) ?_
              have lt1 := hm1.lt
              have lt2 := hm2.lt
              have lv1 := hm1.w.lt
              have lv2 := hm2.w.lt
              rintro _ H10 ⟨rfl, hmn, f1⟩
              have bx := (f1.2 _ (by omega) (by omega) (kv1.imp id (fun h => by omega))).trans bx
              have ob := f1.ob (B := H.size) (by have := o0.1; omega) hf1
              have o0 := o0.then ob (by omega)
              have zf := f1.1
              have hmo := hm2.sep f1 sep
              have hm1 := hmn
              have hm2 := hmo
              refine KP.op rfl (fun Hg hg => R.move rfl rfl) rfl rfl rfl ?_
              refine KP.op rfl (fun Hg hg => (by first | exact R.fieldAddr rfl Try.underlying56 rfl rfl sz5 rfl | exact R.fieldAddrP rfl Try.underlying56 rfl rfl sz5 rfl)) rfl rfl rfl ?_
              refine KP.op rfl (fun Hg hg => R.load rfl Try.underlying5 rfl rfl (by first | exact cell_of bx rfl | exact cell_of hg rfl | exact cell_of bx rfl | exact cell_of hb2 rfl | assumption)) rfl rfl rfl ?_
              refine KP.op rfl (fun Hg hg => (by first | exact R.fieldAddr rfl Try.underlying56 rfl rfl sz23 rfl | exact R.fieldAddrP rfl Try.underlying56 rfl rfl sz23 rfl)) rfl rfl rfl ?_
              refine KP.op rfl (fun Hg hg => R.load rfl Try.underlying23 rfl rfl (by first | exact cell_of bx rfl | exact cell_of hg rfl | exact cell_of bx rfl | exact cell_of hb2 rfl | assumption)) rfl rfl rfl ?_
              refine KP.op rfl (fun Hg hg => (by first | exact R.fieldAddr rfl Try.underlying56 rfl rfl sz23 rfl | exact R.fieldAddrP rfl Try.underlying56 rfl rfl sz23 rfl)) rfl rfl rfl ?_
              refine KP.op rfl (fun Hg hg => R.load rfl Try.underlying23 rfl rfl (by first | exact cell_of bx rfl | exact cell_of hg rfl | exact cell_of bx rfl | exact cell_of hb2 rfl | assumption)) rfl rfl rfl ?_
              refine KP.op rfl (fun Hg hg => (by first | exact R.fieldAddr rfl Try.underlying56 rfl rfl sz28 rfl | exact R.fieldAddrP rfl Try.underlying56 rfl rfl sz28 rfl)) rfl rfl rfl ?_
              refine KP.op rfl (fun Hg hg => R.load rfl Try.underlying28 rfl rfl (by first | exact cell_of bx rfl | exact cell_of hg rfl | exact cell_of bx rfl | exact cell_of hb2 rfl | assumption)) rfl rfl rfl ?_
              refine KP.call rfl rfl rfl rfl rfl Try.call22 rfl rfl rfl (rStore_any _ _ _ _ hm2 _ _ _ q1 q2 q3 _ q4) (fun _ _ h _ _ _ => (h.2.2.2 _ (by have lt1 := hm1.lt; have lt2 := hm2.lt; omega) (by have lt1 := hm1.lt; have lt2 := hm2.lt; omega) (kv2.imp id (fun h => by omega))).trans bx) ?_
              have lt1 := hm1.lt
              have lt2 := hm2.lt
              have lv1 := hm1.w.lt
              have lv2 := hm2.w.lt
              rintro _ H11 ⟨rfl, hmn, f2⟩
              have bx := (f2.2 _ (by omega) (by omega) (kv2.imp id (fun h => by omega))).trans bx
              have ob := f2.ob (B := H.size) (by have := o0.1; omega) hf2
              have o0 := o0.then ob (by omega)
              have zf := f2.1
              have hmo := hm1.sep f2 sep.symm
              have hm2 := hmn
              have hm1 := hmo
              generalize storeB bs (l.getD k default).op ((l.getD k default).at_ + (l.getD k default).off) (l.getD k default).v = bs at hm1 hm2
              refine KP.op rfl (fun Hg hg => (R.neqB rfl Try.underlying4 rfl rfl).val (congrArg Value.bool (show (!(_ == _)) = false from by simp))) rfl rfl rfl ?_
              refine KP.nil ?_
              refine KQ.seq ?_
              refine KC.condF rfl ?_
              refine KC.skip ?_
              refine KQ.normBlock ?_
              refine KQ.seq ?_
              refine KC.seq ?_
              have hb2 := hm2.b
              have hw2 := hm2.w
              have hn2 := hm2.n
              refine KC.quiet (by kernel_rfl) (by kernel_rfl) ?_
              refine KD.op (R.move rfl rfl) rfl rfl rfl ?_
              refine KD.call rfl rfl rfl rfl Try.call17 rfl rfl rfl (Pages_any _ _ _ _ hm1) ?_
              refine KD.op (R.convI rfl Try.underlying23 Try.underlying3 rfl (by dsimp only [InR]; omega)) rfl rfl rfl ?_
              refine KD.op (R.mul rfl rfl rfl (by dsimp only [InR]; omega)) rfl rfl rfl ?_
              refine KD.op (R.move rfl rfl) rfl rfl rfl ?_
              refine KD.op (R.nilCheck rfl rfl) rfl rfl rfl ?_
              refine KD.op ((by first | exact R.fieldAddr rfl Try.underlying58 rfl rfl sz22 rfl | exact R.fieldAddrP rfl Try.underlying58 rfl rfl sz22 rfl)) rfl rfl rfl ?_
              refine KD.op (R.load rfl Try.underlying22 rfl rfl (by first | exact cell_of bx rfl | exact cell_of hg rfl | exact cell_of bx rfl | exact cell_of hb2 rfl | assumption)) rfl rfl rfl ?_
              refine KD.op (R.lenO rfl Try.underlying22 rfl hw2) rfl rfl rfl ?_
              refine KD.op ((R.neq rfl rfl rfl).val ((congrArg (fun b => Value.bool (!b)) (decide_eq_true (by omega))))) rfl rfl rfl ?_
              refine KD.nil ?_
              refine KQ.seq ?_
              refine KC.condF rfl ?_
              refine KC.skip ?_
              refine KQ.normBlock ?_
              refine KQ.seq ?_
              refine KC.region ?_
              refine KL.op (R.add rfl rfl rfl (by dsimp only [InR]; omega)) rfl rfl rfl ?_
              refine KL.op (R.move rfl rfl) rfl rfl rfl ?_
              refine KL.nil ?_
              refine KQ.again ((k + 1, g1, v1, v2, bs)) ?_ ?_ ?_
              · exact (Sub.cons rfl (Sub.cons rfl (Ext.sub (by repeat (first | exact Ext.refl _ _ | refine Ext.put rfl ?_ | refine Ext.drop rfl ?_)))))
              · show l.length - (k + 1) < l.length - k; omega
              · exact by
                  refine ⟨by show k + 1 ≤ _; omega, ?_⟩
                  first
                    | exact ⟨hm1, hm2, hf1, hf2, sep, o0⟩
                    | exact ⟨hmn, hm2, hfn, hf2, sepn, o0⟩
            · intro hc88
              try simp only [decide_eq_true_eq, decide_eq_false_iff_not, Bool.not_eq_true', Bool.not_eq_false', Bool.and_eq_true, Bool.or_eq_false_iff] at hc88
              refine KC.seq ?_
              refine KC.region ?_
              refine KL.op (R.eql rfl rfl rfl) rfl rfl rfl ?_
              refine KL.op (R.assign rfl rfl) rfl rfl rfl ?_
              refine KL.nil ?_
              refine KQ.seq ?_
              refine KC.iteL rfl ?_ ?_
              · intro hc111
                try simp only [decide_eq_true_eq, decide_eq_false_iff_not, Bool.not_eq_true', Bool.not_eq_false', Bool.and_eq_true, Bool.or_eq_false_iff] at hc111
                refine KC.seq ?_
                refine KC.text (clOf [(3, 2), (7, 2)]) (fun _ Hc => Hc[_]? = some _) (by kernel_rfl) (by kernel_rfl) (fun _ => bx) ?_
                refine KP.op rfl (fun Hg hg => R.move rfl rfl) rfl rfl rfl ?_
                refine KP.op rfl (fun Hg hg => (by first | exact R.fieldAddr rfl Try.underlying56 rfl rfl sz23 rfl | exact R.fieldAddrP rfl Try.underlying56 rfl rfl sz23 rfl)) rfl rfl rfl ?_
                refine KP.op rfl (fun Hg hg => R.load rfl Try.underlying23 rfl rfl (by first | exact cell_of bx rfl | exact cell_of hg rfl | exact cell_of bx rfl | exact cell_of hb2 rfl | assumption)) rfl rfl rfl ?_
                refine KP.call rfl rfl rfl rfl rfl Try.call16 rfl rfl rfl (Grow_one _ _ _ _ hm1 _ q5) (fun _ _ ⟨_, _, _, f, _⟩ _ _ _ => (f.2 _ (by have lt1 := hm1.lt; have lt2 := hm2.lt; omega) (by have lt1 := hm1.lt; have lt2 := hm2.lt; omega) (kv1.imp id (fun h => by omega))).trans bx) ?_
                have lt1 := hm1.lt
                have lt2 := hm2.lt
                have lv1 := hm1.w.lt
                have lv2 := hm2.w.lt
                rintro _ H12 ⟨rfl, v1, hmn, f1, nx⟩
                have bx := (f1.2 _ (by omega) (by omega) (kv1.imp id (fun h => by omega))).trans bx
                have ob := f1.ob (B := H.size) (by have := o0.1; omega) hf1
                have o0 := o0.then ob (by omega)
                have zf := f1.1
                have hmo := hm2.sep f1 sep
                have sep := sep.nx hm2 nx
                have hf1 := nx.fresh hf1 (by have := ob.1; omega)
                have hm1 := hmn
                have hm2 := hmo
                refine KP.op rfl (fun Hg hg => R.move rfl rfl) rfl rfl rfl ?_
                refine KP.op rfl (fun Hg hg => (by first | exact R.fieldAddr rfl Try.underlying56 rfl rfl sz23 rfl | exact R.fieldAddrP rfl Try.underlying56 rfl rfl sz23 rfl)) rfl rfl rfl ?_
                refine KP.op rfl (fun Hg hg => R.load rfl Try.underlying23 rfl rfl (by first | exact cell_of bx rfl | exact cell_of hg rfl | exact cell_of bx rfl | exact cell_of hb2 rfl | assumption)) rfl rfl rfl ?_
                refine KP.call rfl rfl rfl rfl rfl Try.call23 rfl rfl rfl (rGrow_one _ _ _ _ hm2 _ q5) (fun _ _ ⟨_, _, _, f, _⟩ _ _ _ => (f.2 _ (by have lt1 := hm1.lt; have lt2 := hm2.lt; omega) (by have lt1 := hm1.lt; have lt2 := hm2.lt; omega) (kv2.imp id (fun h => by omega))).trans bx) ?_
                have lt1 := hm1.lt
                have lt2 := hm2.lt
                have lv1 := hm1.w.lt
                have lv2 := hm2.w.lt
                rintro _ H13 ⟨rfl, v2, hmn, f2, nx⟩
                have bx := (f2.2 _ (by omega) (by omega) (kv2.imp id (fun h => by omega))).trans bx
                have ob := f2.ob (B := H.size) (by have := o0.1; omega) hf2
                have o0 := o0.then ob (by omega)
                have zf := f2.1
                have hmo := hm1.sep f2 sep.symm
                have sep := (sep.symm.nx hm1 nx).symm
                have hf2 := nx.fresh hf2 (by have := ob.1; omega)
                have hm2 := hmn
                have hm1 := hmo
                generalize growB bs (newM mx) (l.getD k default).n = bs at hm1 hm2
                refine KP.op rfl (fun Hg hg => (R.neq rfl rfl rfl).val ((congrArg (fun b => Value.bool (!b)) (decide_eq_true (by rfl))))) rfl rfl rfl ?_
                refine KP.nil ?_
                refine KQ.seq ?_
                refine KC.condF rfl ?_
                refine KC.skip ?_
                refine KQ.normBlock ?_
                refine KQ.seq ?_
                refine KC.seq ?_
                have hb2 := hm2.b
                have hw2 := hm2.w
                have hn2 := hm2.n
                refine KC.quiet (by kernel_rfl) (by kernel_rfl) ?_
                refine KD.op (R.move rfl rfl) rfl rfl rfl ?_
                refine KD.call rfl rfl rfl rfl Try.call17 rfl rfl rfl (Pages_any _ _ _ _ hm1) ?_
                refine KD.op (R.convI rfl Try.underlying23 Try.underlying3 rfl (by dsimp only [InR]; omega)) rfl rfl rfl ?_
                refine KD.op (R.mul rfl rfl rfl (by dsimp only [InR]; omega)) rfl rfl rfl ?_
                refine KD.op (R.move rfl rfl) rfl rfl rfl ?_
                refine KD.op (R.nilCheck rfl rfl) rfl rfl rfl ?_
                refine KD.op ((by first | exact R.fieldAddr rfl Try.underlying58 rfl rfl sz22 rfl | exact R.fieldAddrP rfl Try.underlying58 rfl rfl sz22 rfl)) rfl rfl rfl ?_
                refine KD.op (R.load rfl Try.underlying22 rfl rfl (by first | exact cell_of bx rfl | exact cell_of hg rfl | exact cell_of bx rfl | exact cell_of hb2 rfl | assumption)) rfl rfl rfl ?_
                refine KD.op (R.lenO rfl Try.underlying22 rfl hw2) rfl rfl rfl ?_
                refine KD.op ((R.neq rfl rfl rfl).val ((congrArg (fun b => Value.bool (!b)) (decide_eq_true (by omega))))) rfl rfl rfl ?_
                refine KD.nil ?_
                refine KQ.seq ?_
                refine KC.condF rfl ?_
                refine KC.skip ?_
                refine KQ.normBlock ?_
                refine KQ.seq ?_
                refine KC.region ?_
                refine KL.op (R.add rfl rfl rfl (by dsimp only [InR]; omega)) rfl rfl rfl ?_
                refine KL.op (R.move rfl rfl) rfl rfl rfl ?_
                refine KL.nil ?_
                refine KQ.again ((k + 1, g1, v1, v2, bs)) ?_ ?_ ?_
                · exact (Sub.cons rfl (Sub.cons rfl (Ext.sub (by repeat (first | exact Ext.refl _ _ | refine Ext.put rfl ?_ | refine Ext.drop rfl ?_)))))
                · show l.length - (k + 1) < l.length - k; omega
                · exact by
                    refine ⟨by show k + 1 ≤ _; omega, ?_⟩
                    first
                      | exact ⟨hm1, hm2, hf1, hf2, sep, o0⟩
                      | exact ⟨hmn, hm2, hfn, hf2, sepn, o0⟩
              · intro hc111
                try simp only [decide_eq_true_eq, decide_eq_false_iff_not, Bool.not_eq_true', Bool.not_eq_false', Bool.and_eq_true, Bool.or_eq_false_iff] at hc111
                refine KC.seq ?_
                refine KC.region ?_
                refine KL.op (R.eql rfl rfl rfl) rfl rfl rfl ?_
                refine KL.op (R.assign rfl rfl) rfl rfl rfl ?_
                refine KL.nil ?_
                refine KQ.seq ?_
                refine KC.iteL rfl ?_ ?_
                · intro hc122
                  try simp only [decide_eq_true_eq, decide_eq_false_iff_not, Bool.not_eq_true', Bool.not_eq_false', Bool.and_eq_true, Bool.or_eq_false_iff] at hc122
                  refine KC.seq ?_
                  refine KC.region ?_
                  refine KL.op (R.move rfl rfl) rfl rfl rfl ?_
                  refine KL.op ((by first | exact R.fieldAddr rfl Try.underlying56 rfl rfl sz23 rfl | exact R.fieldAddrP rfl Try.underlying56 rfl rfl sz23 rfl)) rfl rfl rfl ?_
                  refine KL.op (R.load rfl Try.underlying23 rfl rfl (by first | exact cell_of bx rfl | exact cell_of hg rfl | exact cell_of bx rfl | exact cell_of hb2 rfl | assumption)) rfl rfl rfl ?_
                  refine KL.op ((by first | exact R.fieldAddr rfl Try.underlying56 rfl rfl sz23 rfl | exact R.fieldAddrP rfl Try.underlying56 rfl rfl sz23 rfl)) rfl rfl rfl ?_
                  refine KL.op (R.load rfl Try.underlying23 rfl rfl (by first | exact cell_of bx rfl | exact cell_of hg rfl | exact cell_of bx rfl | exact cell_of hb2 rfl | assumption)) rfl rfl rfl ?_
                  refine KL.call rfl rfl rfl rfl Try.call13 rfl rfl rfl (Get_any _ _ _ _ hm1 _ _ q2 q5) ?_
                  rintro _ H14 ⟨xa, rfl, wa, ox⟩
                  have o0 := o0.trans ox
                  have bx := (ox).blk bx
                  have hm1 := hm1.old ox
                  have hm2 := hm2.old ox
                  refine KL.op (R.move rfl rfl) rfl rfl rfl ?_
                  refine KL.op (R.extract rfl rfl rfl) rfl rfl rfl ?_
                  refine KL.op (R.extract rfl rfl rfl) rfl rfl rfl ?_
                  refine KL.op (R.assign rfl rfl) rfl rfl rfl ?_
                  refine KL.op (R.assign rfl rfl) rfl rfl rfl ?_
                  refine KL.nil ?_
                  refine KQ.seq ?_
                  refine KC.seq ?_
                  refine KC.region ?_
                  refine KL.op (R.move rfl rfl) rfl rfl rfl ?_
                  refine KL.op ((by first | exact R.fieldAddr rfl Try.underlying56 rfl rfl sz23 rfl | exact R.fieldAddrP rfl Try.underlying56 rfl rfl sz23 rfl)) rfl rfl rfl ?_
                  refine KL.op (R.load rfl Try.underlying23 rfl rfl (by first | exact cell_of bx rfl | exact cell_of hg rfl | exact cell_of bx rfl | exact cell_of hb2 rfl | assumption)) rfl rfl rfl ?_
                  refine KL.op ((by first | exact R.fieldAddr rfl Try.underlying56 rfl rfl sz23 rfl | exact R.fieldAddrP rfl Try.underlying56 rfl rfl sz23 rfl)) rfl rfl rfl ?_
                  refine KL.op (R.load rfl Try.underlying23 rfl rfl (by first | exact cell_of bx rfl | exact cell_of hg rfl | exact cell_of bx rfl | exact cell_of hb2 rfl | assumption)) rfl rfl rfl ?_
                  refine KL.call rfl rfl rfl rfl Try.call24 rfl rfl rfl (rGet_any _ _ _ _ hm2 _ _ q2 q5) ?_
                  rintro _ H15 ⟨xb, rfl, wb, ox⟩
                  have o0 := o0.trans ox
                  have bx := (ox).blk bx
                  have hm1 := hm1.old ox
                  have hm2 := hm2.old ox
                  have wa := wa.old ox
                  refine KL.op (R.move rfl rfl) rfl rfl rfl ?_
                  refine KL.op (R.extract rfl rfl rfl) rfl rfl rfl ?_
                  refine KL.op (R.extract rfl rfl rfl) rfl rfl rfl ?_
                  refine KL.op (R.assign rfl rfl) rfl rfl rfl ?_
                  refine KL.op (R.assign rfl rfl) rfl rfl rfl ?_
                  refine KL.nil ?_
                  refine KQ.seq ?_
                  refine KC.seq ?_
                  refine KC.region ?_
                  refine KL.op (R.move rfl rfl) rfl rfl rfl ?_
                  refine KL.op (R.move rfl rfl) rfl rfl rfl ?_
                  refine KL.op ((R.neqB rfl Try.underlying4 rfl rfl).val (congrArg Value.bool (show (!(_ == _)) = false from by simp))) rfl rfl rfl ?_
                  refine KL.op (R.move rfl rfl) rfl rfl rfl ?_
                  refine KL.op (R.move rfl rfl) rfl rfl rfl ?_
                  refine KL.op (R.convBS rfl Try.underlying22 Try.underlying5 Try.underlying9 rfl (wa.sl (emptyOld _) (by decide))) rfl rfl rfl ?_
                  refine KL.op (R.move rfl rfl) rfl rfl rfl ?_
                  refine KL.op (R.convBS rfl Try.underlying22 Try.underlying5 Try.underlying9 rfl (wb.sl (emptyOld _) (by decide))) rfl rfl rfl ?_
                  refine KL.op ((R.neqStr rfl rfl rfl).val (congrArg Value.bool (show (!(_ == _)) = false from by simp))) rfl rfl rfl ?_
                  refine KL.op (R.pick rfl rfl rfl) rfl rfl rfl ?_
                  refine KL.nil ?_
                  refine KQ.seq ?_
                  refine KC.condF rfl ?_
                  refine KC.skip ?_
                  refine KQ.normBlock ?_
                  refine KQ.seq ?_
                  refine KC.seq ?_
                  have hb2 := hm2.b
                  have hw2 := hm2.w
                  have hn2 := hm2.n
                  refine KC.quiet (by kernel_rfl) (by kernel_rfl) ?_
                  refine KD.op (R.move rfl rfl) rfl rfl rfl ?_
                  refine KD.call rfl rfl rfl rfl Try.call17 rfl rfl rfl (Pages_any _ _ _ _ hm1) ?_
                  refine KD.op (R.convI rfl Try.underlying23 Try.underlying3 rfl (by dsimp only [InR]; omega)) rfl rfl rfl ?_
                  refine KD.op (R.mul rfl rfl rfl (by dsimp only [InR]; omega)) rfl rfl rfl ?_
                  refine KD.op (R.move rfl rfl) rfl rfl rfl ?_
                  refine KD.op (R.nilCheck rfl rfl) rfl rfl rfl ?_
                  refine KD.op ((by first | exact R.fieldAddr rfl Try.underlying58 rfl rfl sz22 rfl | exact R.fieldAddrP rfl Try.underlying58 rfl rfl sz22 rfl)) rfl rfl rfl ?_
                  refine KD.op (R.load rfl Try.underlying22 rfl rfl (by first | exact cell_of bx rfl | exact cell_of hg rfl | exact cell_of bx rfl | exact cell_of hb2 rfl | assumption)) rfl rfl rfl ?_
                  refine KD.op (R.lenO rfl Try.underlying22 rfl hw2) rfl rfl rfl ?_
                  refine KD.op ((R.neq rfl rfl rfl).val ((congrArg (fun b => Value.bool (!b)) (decide_eq_true (by omega))))) rfl rfl rfl ?_
                  refine KD.nil ?_
                  refine KQ.seq ?_
                  refine KC.condF rfl ?_
                  refine KC.skip ?_
                  refine KQ.normBlock ?_
                  refine KQ.seq ?_
                  refine KC.region ?_
                  refine KL.op (R.add rfl rfl rfl (by dsimp only [InR]; omega)) rfl rfl rfl ?_
                  refine KL.op (R.move rfl rfl) rfl rfl rfl ?_
                  refine KL.nil ?_
                  refine KQ.again ((k + 1, g1, v1, v2, bs)) ?_ ?_ ?_
                  · exact (Sub.cons rfl (Sub.cons rfl (Ext.sub (by repeat (first | exact Ext.refl _ _ | refine Ext.put rfl ?_ | refine Ext.drop rfl ?_)))))
                  · show l.length - (k + 1) < l.length - k; omega
                  · exact by
                      refine ⟨by show k + 1 ≤ _; omega, ?_⟩
                      first
                        | exact ⟨hm1, hm2, hf1, hf2, sep, o0⟩
                        | exact ⟨hmn, hm2, hfn, hf2, sepn, o0⟩
                · intro hc122
                  try simp only [decide_eq_true_eq, decide_eq_false_iff_not, Bool.not_eq_true', Bool.not_eq_false', Bool.and_eq_true, Bool.or_eq_false_iff] at hc122
                  refine KC.seq ?_
                  refine KC.region ?_
                  refine KL.op (R.eql rfl rfl rfl) rfl rfl rfl ?_
                  refine KL.op (R.assign rfl rfl) rfl rfl rfl ?_
                  refine KL.nil ?_
                  refine KQ.seq ?_
                  refine KC.iteL rfl ?_ ?_
                  · intro hc152
                    try simp only [decide_eq_true_eq, decide_eq_false_iff_not, Bool.not_eq_true', Bool.not_eq_false', Bool.and_eq_true, Bool.or_eq_false_iff] at hc152
                    refine KC.seq ?_
                    refine KC.text (clOf [(5, 2), (11, 2)]) (fun _ Hc => Hc[_]? = some _) (by kernel_rfl) (by kernel_rfl) (fun _ => bx) ?_
                    refine KP.op rfl (fun Hg hg => R.move rfl rfl) rfl rfl rfl ?_
                    refine KP.op rfl (fun Hg hg => (by first | exact R.fieldAddr rfl Try.underlying56 rfl rfl sz23 rfl | exact R.fieldAddrP rfl Try.underlying56 rfl rfl sz23 rfl)) rfl rfl rfl ?_
                    refine KP.op rfl (fun Hg hg => R.load rfl Try.underlying23 rfl rfl (by first | exact cell_of bx rfl | exact cell_of hg rfl | exact cell_of bx rfl | exact cell_of hb2 rfl | assumption)) rfl rfl rfl ?_
                    refine KP.op rfl (fun Hg hg => (by first | exact R.fieldAddr rfl Try.underlying56 rfl rfl sz22 rfl | exact R.fieldAddrP rfl Try.underlying56 rfl rfl sz22 rfl)) rfl rfl rfl ?_
                    refine KP.op rfl (fun Hg hg => R.load rfl Try.underlying22 rfl rfl (by first | exact cell_of bx rfl | exact cell_of hg rfl | exact cell_of bx rfl | exact cell_of hb2 rfl | assumption)) rfl rfl rfl ?_
                    refine KP.call rfl rfl rfl rfl rfl Try.call10 rfl rfl rfl (Put_any _ _ _ _ hm1 _ q2 _ _ (hu0.old o0) (by omega)) (fun _ _ h _ _ _ => (h.2.2.2 _ (by have lt1 := hm1.lt; have lt2 := hm2.lt; omega) (by have lt1 := hm1.lt; have lt2 := hm2.lt; omega) (kv1.imp id (fun h => by omega))).trans bx) ?_
                    have lt1 := hm1.lt
                    have lt2 := hm2.lt
                    have lv1 := hm1.w.lt
                    have lv2 := hm2.w.lt
                    rintro _ H16 ⟨rfl, hmn, f1⟩
                    have bx := (f1.2 _ (by omega) (by omega) (kv1.imp id (fun h => by omega))).trans bx
                    have ob := f1.ob (B := H.size) (by have := o0.1; omega) hf1
                    have o0 := o0.then ob (by omega)
                    have zf := f1.1
                    have hmo := hm2.sep f1 sep
                    have hm1 := hmn
                    have hm2 := hmo
                    refine KP.op rfl (fun Hg hg => R.move rfl rfl) rfl rfl rfl ?_
                    refine KP.op rfl (fun Hg hg => (by first | exact R.fieldAddr rfl Try.underlying56 rfl rfl sz23 rfl | exact R.fieldAddrP rfl Try.underlying56 rfl rfl sz23 rfl)) rfl rfl rfl ?_
                    refine KP.op rfl (fun Hg hg => R.load rfl Try.underlying23 rfl rfl (by first | exact cell_of bx rfl | exact cell_of hg rfl | exact cell_of bx rfl | exact cell_of hb2 rfl | assumption)) rfl rfl rfl ?_
                    refine KP.op rfl (fun Hg hg => (by first | exact R.fieldAddr rfl Try.underlying56 rfl rfl sz22 rfl | exact R.fieldAddrP rfl Try.underlying56 rfl rfl sz22 rfl)) rfl rfl rfl ?_
                    refine KP.op rfl (fun Hg hg => R.load rfl Try.underlying22 rfl rfl (by first | exact cell_of bx rfl | exact cell_of hg rfl | exact cell_of bx rfl | exact cell_of hb2 rfl | assumption)) rfl rfl rfl ?_
                    refine KP.call rfl rfl rfl rfl rfl Try.call25 rfl rfl rfl (rPut_any _ _ _ _ hm2 _ q2 _ _ (hu0.old o0) (by omega) huv) (fun _ _ h _ _ _ => (h.2.2.2 _ (by have lt1 := hm1.lt; have lt2 := hm2.lt; omega) (by have lt1 := hm1.lt; have lt2 := hm2.lt; omega) (kv2.imp id (fun h => by omega))).trans bx) ?_
                    have lt1 := hm1.lt
                    have lt2 := hm2.lt
                    have lv1 := hm1.w.lt
                    have lv2 := hm2.w.lt
                    rintro _ H17 ⟨rfl, hmn, f2⟩
                    have bx := (f2.2 _ (by omega) (by omega) (kv2.imp id (fun h => by omega))).trans bx
                    have ob := f2.ob (B := H.size) (by have := o0.1; omega) hf2
                    have o0 := o0.then ob (by omega)
                    have zf := f2.1
                    have hmo := hm1.sep f2 sep.symm
                    have hm2 := hmn
                    have hm1 := hmo
                    generalize putB bs (l.getD k default).at_ (l.getD k default).b = bs at hm1 hm2
                    refine KP.op rfl (fun Hg hg => (R.neqB rfl Try.underlying4 rfl rfl).val (congrArg Value.bool (show (!(_ == _)) = false from by simp))) rfl rfl rfl ?_
                    refine KP.nil ?_
                    refine KQ.seq ?_
                    refine KC.condF rfl ?_
                    refine KC.skip ?_
                    refine KQ.normBlock ?_
                    refine KQ.seq ?_
                    refine KC.seq ?_
                    have hb2 := hm2.b
                    have hw2 := hm2.w
                    have hn2 := hm2.n
                    refine KC.quiet (by kernel_rfl) (by kernel_rfl) ?_
                    refine KD.op (R.move rfl rfl) rfl rfl rfl ?_
                    refine KD.call rfl rfl rfl rfl Try.call17 rfl rfl rfl (Pages_any _ _ _ _ hm1) ?_
                    refine KD.op (R.convI rfl Try.underlying23 Try.underlying3 rfl (by dsimp only [InR]; omega)) rfl rfl rfl ?_
                    refine KD.op (R.mul rfl rfl rfl (by dsimp only [InR]; omega)) rfl rfl rfl ?_
                    refine KD.op (R.move rfl rfl) rfl rfl rfl ?_
                    refine KD.op (R.nilCheck rfl rfl) rfl rfl rfl ?_
                    refine KD.op ((by first | exact R.fieldAddr rfl Try.underlying58 rfl rfl sz22 rfl | exact R.fieldAddrP rfl Try.underlying58 rfl rfl sz22 rfl)) rfl rfl rfl ?_
                    refine KD.op (R.load rfl Try.underlying22 rfl rfl (by first | exact cell_of bx rfl | exact cell_of hg rfl | exact cell_of bx rfl | exact cell_of hb2 rfl | assumption)) rfl rfl rfl ?_
                    refine KD.op (R.lenO rfl Try.underlying22 rfl hw2) rfl rfl rfl ?_
                    refine KD.op ((R.neq rfl rfl rfl).val ((congrArg (fun b => Value.bool (!b)) (decide_eq_true (by omega))))) rfl rfl rfl ?_
                    refine KD.nil ?_
                    refine KQ.seq ?_
                    refine KC.condF rfl ?_
                    refine KC.skip ?_
                    refine KQ.normBlock ?_
                    refine KQ.seq ?_
                    refine KC.region ?_
                    refine KL.op (R.add rfl rfl rfl (by dsimp only [InR]; omega)) rfl rfl rfl ?_
                    refine KL.op (R.move rfl rfl) rfl rfl rfl ?_
                    refine KL.nil ?_
                    refine KQ.again ((k + 1, g1, v1, v2, bs)) ?_ ?_ ?_
                    · exact (Sub.cons rfl (Sub.cons rfl (Ext.sub (by repeat (first | exact Ext.refl _ _ | refine Ext.put rfl ?_ | refine Ext.drop rfl ?_)))))
                    · show l.length - (k + 1) < l.length - k; omega
                    · exact by
                        refine ⟨by show k + 1 ≤ _; omega, ?_⟩
                        first
                          | exact ⟨hm1, hm2, hf1, hf2, sep, o0⟩
                          | exact ⟨hmn, hm2, hfn, hf2, sepn, o0⟩
                  · intro hc152
                    try simp only [decide_eq_true_eq, decide_eq_false_iff_not, Bool.not_eq_true', Bool.not_eq_false', Bool.and_eq_true, Bool.or_eq_false_iff] at hc152
                    refine KC.seq ?_
                    refine KC.region ?_
                    refine KL.op (R.eql rfl rfl rfl) rfl rfl rfl ?_
                    refine KL.op (R.assign rfl rfl) rfl rfl rfl ?_
                    refine KL.nil ?_
                    refine KQ.seq ?_
                    refine KC.iteL rfl ?_ ?_
                    · intro hc167
                      try simp only [decide_eq_true_eq, decide_eq_false_iff_not, Bool.not_eq_true', Bool.not_eq_false', Bool.and_eq_true, Bool.or_eq_false_iff] at hc167
                      refine KC.seq ?_
                      refine KC.region ?_
                      refine KL.op (R.move rfl rfl) rfl rfl rfl ?_
                      refine KL.op (R.assign rfl rfl) rfl rfl rfl ?_
                      refine KL.nil ?_
                      refine KQ.seq ?_
                      refine KC.seq ?_
                      refine KC.region ?_
                      refine KL.op (R.move rfl rfl) rfl rfl rfl ?_
                      refine KL.call rfl rfl rfl rfl Try.call18 rfl rfl rfl (Copy_any _ _ _ _ hm1) ?_
                      rintro _ H18 ⟨gn, vn, rfl, hmn, hfn0, ox⟩
                      have zc := ox.1
                      have sepo : Sep gn vn g1 v1 := Sep.fresh hm1 hfn0
                      have sepn : Sep gn vn g2 v2 := Sep.fresh hm2 hfn0
                      have o0 := o0.trans ox
                      have bx := (ox).blk bx
                      have hm1 := hm1.old ox
                      have hm2 := hm2.old ox
                      have hfn := hfn0.weak (A := H.size) (by have := o0.1; omega)
                      refine KL.op (R.assign rfl rfl) rfl rfl rfl ?_
                      refine KL.nil ?_
                      refine KQ.seq ?_
                      refine KC.seq ?_
                      refine KC.region ?_
                      refine KL.op (R.move rfl rfl) rfl rfl rfl ?_
                      refine KL.call rfl rfl rfl rfl Try.call16 rfl rfl rfl (Grow_one _ _ _ _ hm1 1 (by dsimp only [InR]; omega)) ?_
                      have ltx0 := blk_lt bx
                      rintro _ H19 ⟨rfl, v1, hmg, f1, nx⟩
                      have kx1 := nx.ne (kv1.imp id (fun h => by omega)) ltx0
                      have bx := (f1.2 _ (by omega) (by omega) (kv1.imp id (fun h => by omega))).trans bx
                      have ob := f1.ob (B := H.size) (by have := o0.1; omega) hf1
                      have o0 := o0.then ob (by omega)
                      have zf := f1.1
                      have hf1 := nx.fresh hf1 (by have := ob.1; omega)
                      have sepo2 := (sepo.symm.nx hmn nx).symm
                      have hmn := hmn.sep f1 sepo.symm
                      have sep2 := sep.nx hm2 nx
                      have hm2 := hm2.sep f1 sep
                      have hm1 := hmg
                      refine KL.nil ?_
                      refine KQ.seq ?_
                      refine KC.region ?_
                      refine KL.op (R.move rfl rfl) rfl rfl rfl ?_
                      have lt1 := hm1.lt
                      have lt2 := hm2.lt
                      have ltn := hmn.lt
                      have lv1 := hm1.w.lt
                      have lv2 := hm2.w.lt
                      have lvn := hmn.w.lt
                      have zoo := o0.1
                      have ltx := blk_lt bx
                      refine KL.opM (M.lit rfl Try.underlying22 zs5 (by decide) rfl rfl rfl) rfl rfl rfl ?_
                      rintro _ H20 ⟨rfl, n20⟩
                      have z20 := n20.2.1
                      have o0 := o0.trans n20.1
                      have bx := (n20.1).blk bx
                      have hm1 := hm1.old n20.1
                      have hm2 := hm2.old n20.1
                      have hmn := hmn.old n20.1
                      have b20 := n20.2.2
                      have bo := b20
                      refine KL.opM (M.mark rfl Try.underlying22 Try.underlying5 rfl bo) rfl rfl rfl ?_
                      rintro _ H21 ⟨rfl, um, bmk⟩
                      have zum := um.1
                      have o0 := o0.upd um (by omega)
                      have hm1 := hm1.updU um (by omega) (lv1.imp id (fun h => by omega))
                      have hm2 := hm2.updU um (by omega) (lv2.imp id (fun h => by omega))
                      have hmn := hmn.updU um (by omega) (lvn.imp id (fun h => by omega))
                      have bx := (um.2 _ (by omega)).trans bx
                      have hlit : Sl 1 (EInt .u8) H21 (.slice (some ⟨_, 0, none⟩) 5 5) [111, 116, 104, 101, 114] := Sl.ofCells (l := [111, 116, 104, 101, 114]) bmk (by decide) (by decide)
                      refine KL.call rfl rfl rfl rfl Try.call10 rfl rfl rfl (Put_any _ _ _ _ hm1 0 (by dsimp only [InR]; omega) _ _ hlit (by decide)) ?_
                      rintro _ H22 ⟨rfl, hmp, f3⟩
                      have ob3 := f3.ob (B := H.size) (by have := o0.1; omega) hf1
                      have o0 := o0.then ob3 (by omega)
                      have zf3 := f3.1
                      have bx := (f3.2 _ (by omega) (by omega) kx1).trans bx
                      have hmn := hmn.sep f3 sepo2.symm
                      have hm2 := hm2.sep f3 sep2
                      refine KL.nil ?_
                      refine KQ.normBlock ?_
                      refine KQ.seq ?_
                      refine KC.seq ?_
                      have hb2 := hm2.b
                      have hw2 := hm2.w
                      have hn2 := hm2.n
                      refine KC.quiet (by kernel_rfl) (by kernel_rfl) ?_
                      refine KD.op (R.move rfl rfl) rfl rfl rfl ?_
                      refine KD.call rfl rfl rfl rfl Try.call17 rfl rfl rfl (Pages_any _ _ _ _ hmn) ?_
                      refine KD.op (R.convI rfl Try.underlying23 Try.underlying3 rfl (by dsimp only [InR]; omega)) rfl rfl rfl ?_
                      refine KD.op (R.mul rfl rfl rfl (by dsimp only [InR]; omega)) rfl rfl rfl ?_
                      refine KD.op (R.move rfl rfl) rfl rfl rfl ?_
                      refine KD.op (R.nilCheck rfl rfl) rfl rfl rfl ?_
                      refine KD.op ((by first | exact R.fieldAddr rfl Try.underlying58 rfl rfl sz22 rfl | exact R.fieldAddrP rfl Try.underlying58 rfl rfl sz22 rfl)) rfl rfl rfl ?_
                      refine KD.op (R.load rfl Try.underlying22 rfl rfl (by first | exact cell_of bx rfl | exact cell_of hg rfl | exact cell_of bx rfl | exact cell_of hb2 rfl | assumption)) rfl rfl rfl ?_
                      refine KD.op (R.lenO rfl Try.underlying22 rfl hw2) rfl rfl rfl ?_
                      refine KD.op ((R.neq rfl rfl rfl).val ((congrArg (fun b => Value.bool (!b)) (decide_eq_true (by omega))))) rfl rfl rfl ?_
                      refine KD.nil ?_
                      refine KQ.seq ?_
                      refine KC.condF rfl ?_
                      refine KC.skip ?_
                      refine KQ.normBlock ?_
                      refine KQ.seq ?_
                      refine KC.region ?_
                      refine KL.op (R.add rfl rfl rfl (by dsimp only [InR]; omega)) rfl rfl rfl ?_
                      refine KL.op (R.move rfl rfl) rfl rfl rfl ?_
                      refine KL.nil ?_
                      refine KQ.again ((k + 1, gn, vn, v2, bs)) ?_ ?_ ?_
                      · exact (Sub.cons rfl (Sub.cons rfl (Ext.sub (by repeat (first | exact Ext.refl _ _ | refine Ext.put rfl ?_ | refine Ext.drop rfl ?_)))))
                      · show l.length - (k + 1) < l.length - k; omega
                      · exact by
                          refine ⟨by show k + 1 ≤ _; omega, ?_⟩
                          first
                            | exact ⟨hm1, hm2, hf1, hf2, sep, o0⟩
                            | exact ⟨hmn, hm2, hfn, hf2, sepn, o0⟩
                    · intro hc167
                      try simp only [decide_eq_true_eq, decide_eq_false_iff_not, Bool.not_eq_true', Bool.not_eq_false', Bool.and_eq_true, Bool.or_eq_false_iff] at hc167
                      refine KC.skip ?_
                      refine KQ.normBlock ?_
                      refine KQ.seq ?_
                      refine KC.seq ?_
                      have hb2 := hm2.b
                      have hw2 := hm2.w
                      have hn2 := hm2.n
                      refine KC.quiet (by kernel_rfl) (by kernel_rfl) ?_
                      refine KD.op (R.move rfl rfl) rfl rfl rfl ?_
                      refine KD.call rfl rfl rfl rfl Try.call17 rfl rfl rfl (Pages_any _ _ _ _ hm1) ?_
                      refine KD.op (R.convI rfl Try.underlying23 Try.underlying3 rfl (by dsimp only [InR]; omega)) rfl rfl rfl ?_
                      refine KD.op (R.mul rfl rfl rfl (by dsimp only [InR]; omega)) rfl rfl rfl ?_
                      refine KD.op (R.move rfl rfl) rfl rfl rfl ?_
                      refine KD.op (R.nilCheck rfl rfl) rfl rfl rfl ?_
                      refine KD.op ((by first | exact R.fieldAddr rfl Try.underlying58 rfl rfl sz22 rfl | exact R.fieldAddrP rfl Try.underlying58 rfl rfl sz22 rfl)) rfl rfl rfl ?_
                      refine KD.op (R.load rfl Try.underlying22 rfl rfl (by first | exact cell_of bx rfl | exact cell_of hg rfl | exact cell_of bx rfl | exact cell_of hb2 rfl | assumption)) rfl rfl rfl ?_
                      refine KD.op (R.lenO rfl Try.underlying22 rfl hw2) rfl rfl rfl ?_
                      refine KD.op ((R.neq rfl rfl rfl).val ((congrArg (fun b => Value.bool (!b)) (decide_eq_true (by omega))))) rfl rfl rfl ?_
                      refine KD.nil ?_
                      refine KQ.seq ?_
                      refine KC.condF rfl ?_
                      refine KC.skip ?_
                      refine KQ.normBlock ?_
                      refine KQ.seq ?_
                      refine KC.region ?_
                      refine KL.op (R.add rfl rfl rfl (by dsimp only [InR]; omega)) rfl rfl rfl ?_
                      refine KL.op (R.move rfl rfl) rfl rfl rfl ?_
                      refine KL.nil ?_
                      refine KQ.again ((k + 1, g1, v1, v2, bs)) ?_ ?_ ?_
                      · exact (Sub.cons rfl (Sub.cons rfl (Ext.sub (by repeat (first | exact Ext.refl _ _ | refine Ext.put rfl ?_ | refine Ext.drop rfl ?_)))))
                      · show l.length - (k + 1) < l.length - k; omega
                      · exact by
                          refine ⟨by show k + 1 ≤ _; omega, ?_⟩
                          first
                            | exact ⟨hm1, hm2, hf1, hf2, sep, o0⟩
                            | exact ⟨hmn, hm2, hfn, hf2, sepn, o0⟩
        · intro hc51
          try simp only [decide_eq_true_eq, decide_eq_false_iff_not, Bool.not_eq_true', Bool.not_eq_false', Bool.and_eq_true, Bool.or_eq_false_iff] at hc51
          refine KC.exit ?_
          refine KQ.exitThen ?_
          refine KQ.exitThen ?_
          refine KQ.hit ?_
          refine KQ.seq ?_
          refine KC.seq ?_
          have hn9 := hm2.n
          refine KC.region ?_
          refine KL.op (R.move rfl rfl) rfl rfl rfl ?_
          refine KL.op (R.move rfl rfl) rfl rfl rfl ?_
          refine KL.op (R.nilCheck rfl rfl) rfl rfl rfl ?_
          refine KL.op ((by first | exact R.fieldAddr rfl Try.underlying58 rfl rfl sz22 rfl | exact R.fieldAddrP rfl Try.underlying58 rfl rfl sz22 rfl)) rfl rfl rfl ?_
          refine KL.op (R.load rfl Try.underlying22 rfl rfl (cell_of hm2.b rfl)) rfl rfl rfl ?_
          refine KL.op (R.lenO rfl Try.underlying22 rfl (hm2.w)) rfl rfl rfl ?_
          refine KL.op (R.convI rfl Try.underlying3 Try.underlying23 rfl (by dsimp only [InR]; omega)) rfl rfl rfl ?_
          refine KL.call rfl rfl rfl rfl Try.call13 rfl rfl rfl (Get_any _ _ _ _ hm1 0 (bs.length : Int) (by dsimp only [InR]; omega) (by have := hm2.n; dsimp only [InR]; omega)) ?_
          rintro _ H23 ⟨xa, rfl, wa, ox⟩
          rw [prtP_all rfl] at wa
          rw [show decide (0 + (bs.length : Int) ≤ bs.length) = true from decide_eq_true (by omega)]
          have o0 := o0.trans ox
          have hm1 := hm1.old ox
          have hm2 := hm2.old ox
          refine KL.op (R.move rfl rfl) rfl rfl rfl ?_
          refine KL.op (R.extract rfl rfl rfl) rfl rfl rfl ?_
          refine KL.op (R.extract rfl rfl rfl) rfl rfl rfl ?_
          refine KL.op (R.assign rfl rfl) rfl rfl rfl ?_
          refine KL.op (R.assign rfl rfl) rfl rfl rfl ?_
          refine KL.nil ?_
          refine KQ.seq ?_
          refine KC.seq ?_
          have hb2 := hm2.b
          refine KC.grow (by kernel_rfl) (by kernel_rfl) ?_
          refine KG.op (fun Hg og => by have hm1 := hm1.old og; have hm2 := hm2.old og; have wa := wa.old og; have o0 := o0.trans og; exact R.move rfl rfl) rfl rfl rfl ?_
          refine KG.op (fun Hg og => by have hm1 := hm1.old og; have hm2 := hm2.old og; have wa := wa.old og; have o0 := o0.trans og; exact R.move rfl rfl) rfl rfl rfl ?_
          refine KG.op (fun Hg og => by have hm1 := hm1.old og; have hm2 := hm2.old og; have wa := wa.old og; have o0 := o0.trans og; exact R.move rfl rfl) rfl rfl rfl ?_
          refine KG.op (fun Hg og => by have hm1 := hm1.old og; have hm2 := hm2.old og; have wa := wa.old og; have o0 := o0.trans og; exact R.convBS rfl Try.underlying22 Try.underlying5 Try.underlying9 rfl (wa.sl (emptyOld _) (by decide))) rfl rfl rfl ?_
          refine KG.op (fun Hg og => by have hm1 := hm1.old og; have hm2 := hm2.old og; have wa := wa.old og; have o0 := o0.trans og; exact R.move rfl rfl) rfl rfl rfl ?_
          refine KG.op (fun Hg og => by have hm1 := hm1.old og; have hm2 := hm2.old og; have wa := wa.old og; have o0 := o0.trans og; exact R.nilCheck rfl rfl) rfl rfl rfl ?_
          refine KG.op (fun Hg og => by have hm1 := hm1.old og; have hm2 := hm2.old og; have wa := wa.old og; have o0 := o0.trans og; exact (by first | exact R.fieldAddr rfl Try.underlying58 rfl rfl sz22 rfl | exact R.fieldAddrP rfl Try.underlying58 rfl rfl sz22 rfl)) rfl rfl rfl ?_
          refine KG.op (fun Hg og => by have hm1 := hm1.old og; have hm2 := hm2.old og; have wa := wa.old og; have o0 := o0.trans og; exact R.load rfl Try.underlying22 rfl rfl (cell_of (og.blk hb2) rfl)) rfl rfl rfl ?_
          refine KG.op (fun Hg og => by have hm1 := hm1.old og; have hm2 := hm2.old og; have wa := wa.old og; have o0 := o0.trans og; exact R.convBS rfl Try.underlying22 Try.underlying5 Try.underlying9 rfl (hm2.w.sl (emptyOld _) (by decide))) rfl rfl rfl ?_
          refine KG.op (fun Hg og => by have hm1 := hm1.old og; have hm2 := hm2.old og; have wa := wa.old og; have o0 := o0.trans og; exact (R.eqlStr rfl rfl rfl).val (congrArg Value.bool (show (_ == _) = true from by simp))) rfl rfl rfl ?_
          refine KG.op (fun Hg og => by have hm1 := hm1.old og; have hm2 := hm2.old og; have wa := wa.old og; have o0 := o0.trans og; exact R.pick rfl rfl rfl) rfl rfl rfl ?_
          refine KG.op (fun Hg og => by have hm1 := hm1.old og; have hm2 := hm2.old og; have wa := wa.old og; have o0 := o0.trans og; exact R.move rfl rfl) rfl rfl rfl ?_
          refine KG.call rfl rfl rfl rfl Try.call8 rfl rfl rfl (fun Hg og => works_any) ?_
          refine KG.op (fun Hg og => by have hm1 := hm1.old og; have hm2 := hm2.old og; have wa := wa.old og; have o0 := o0.trans og; exact R.pick rfl rfl rfl) rfl rfl rfl ?_
          refine KG.op (fun Hg og => by have hm1 := hm1.old og; have hm2 := hm2.old og; have wa := wa.old og; have o0 := o0.trans og; exact R.assign rfl rfl) rfl rfl rfl ?_
          refine KG.nil ?_
          intro H24 ogH24
          have o0 := o0.trans ogH24
          have hm1 := hm1.old ogH24
          have hm2 := hm2.old ogH24
          have wa := wa.old ogH24
          have zH24 := ogH24.1
          refine KQ.seq ?_
          refine KC.ret ?_
          refine KQ.ofRet ?_
          refine KQ.fin1 Try.results7 rfl ?_
          exact ⟨rfl, o0⟩
    · skip
      refine KL.op (R.move rfl rfl) rfl rfl rfl ?_
      refine KL.op (R.extract rfl rfl rfl) rfl rfl rfl ?_
      refine KL.op (R.extract rfl rfl rfl) rfl rfl rfl ?_
      refine KL.op (R.assign rfl rfl) rfl rfl rfl ?_
      refine KL.op (R.assign rfl rfl) rfl rfl rfl ?_
      refine KL.nil ?_
      refine KQ.seq ?_
      refine KC.seq ?_
      refine KC.region ?_
      refine KL.op (R.loadAgg rfl Try.underlying42 rfl sz42 rfl (by first | exact cells_of bl | assumption) rfl) rfl rfl rfl ?_
      refine KL.call rfl rfl rfl rfl Try.call20 rfl rfl rfl (rNew_any mn mx r1 r2) ?_
      rintro u H25 ⟨ox, hR⟩
      rcases hR with ⟨h, -⟩ | ⟨-, rfl⟩
      · exact absurd h hno
      have o0 := o0.trans ox
      have bl := (ox).blk bl
      refine KL.op (R.move rfl rfl) rfl rfl rfl ?_
      refine KL.op (R.extract rfl rfl rfl) rfl rfl rfl ?_
      refine KL.op (R.extract rfl rfl rfl) rfl rfl rfl ?_
      refine KL.op (R.assign rfl rfl) rfl rfl rfl ?_
      refine KL.op (R.assign rfl rfl) rfl rfl rfl ?_
      refine KL.nil ?_
      refine KQ.seq ?_
      refine KC.seq ?_
      refine KC.seq ?_
      refine KC.region ?_
      refine KL.op (R.move rfl rfl) rfl rfl rfl ?_
      refine KL.op (R.not rfl rfl) rfl rfl rfl ?_
      refine KL.nil ?_
      refine KQ.seq ?_
      refine KC.condT rfl ?_
      refine KC.seq ?_
      refine KC.region ?_
      refine KL.op (R.move rfl rfl) rfl rfl rfl ?_
      refine KL.op (R.eqlP rfl Try.underlying25 rfl rfl) rfl rfl rfl ?_
      refine KL.op (R.move rfl rfl) rfl rfl rfl ?_
      refine KL.op (R.move rfl rfl) rfl rfl rfl ?_
      refine KL.op ((R.eql rfl rfl rfl).val (congrArg Value.bool (decide_eq_true (by rfl)))) rfl rfl rfl ?_
      refine KL.op (R.pick rfl rfl rfl) rfl rfl rfl ?_
      refine KL.op (R.move rfl rfl) rfl rfl rfl ?_
      refine KL.call rfl rfl rfl rfl Try.call8 rfl rfl rfl (works_any) ?_
      rintro _ H26 ⟨rfl, ox⟩
      have o0 := o0.trans ox
      have bl := (ox).blk bl
      refine KL.op (R.pick rfl rfl rfl) rfl rfl rfl ?_
      refine KL.op (R.assign rfl rfl) rfl rfl rfl ?_
      refine KL.nil ?_
      refine KQ.seq ?_
      refine KC.ret ?_
      refine KQ.retThen ?_
      refine KQ.ofRet ?_
      refine KQ.fin1 Try.results7 rfl ?_
      exact ⟨rfl, o0⟩

theorem MemPlays_c {H : Heap} (c : List Value) (x : Int × Int) (e : ELim H c x) (c0 : Value) (l : List Dox) (hs : Sl 7 EDo H c0 l) : Ct Try.prog 7 [.agg c.toArray, c0] H (fun u H' => u = .bool true ∧ Old H H') := by
  obtain ⟨rfl, r1, r2⟩ := e
  exact MemPlays_any x.1 x.2 r1 r2 c0 l hs

end Go.Proofs.Ytdefjpakpgchhaa
