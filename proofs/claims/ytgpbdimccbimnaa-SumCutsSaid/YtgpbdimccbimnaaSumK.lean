/- gabellelaw33.SumCuts, walked. No condition. -/
import Derived.Test.YtgpbdimccbimnaaSumL
namespace Go.Proofs.Ytgpbdimccbimnaa
open Go Go.RowKit
set_option linter.unusedVariables false
set_option linter.unusedSimpArgs false
set_option linter.unnecessarySimpa false

theorem getD_mem {l : List Int} {k : Nat} (h : k < l.length) : l.getD k default ∈ l := by
  rw [List.getD_eq_getElem?_getD, List.getElem?_eq_getElem h]; exact List.getElem_mem h

set_option maxRecDepth 100000 in
set_option maxHeartbeats 4000000 in
theorem SumCuts_any {H : Heap} (vb vc : Value) (b cs : List Int) (a : Int) (sb : Sl 1 (EInt .u8) H vb b) (sc : Sl 1 (EInt .u16) H vc cs) (ra : InR .u8 a) : Ct Try.prog 4 [vb, vc, .int .u8 a] H (fun u H' => u = .bool true ∧ Old H H') := by
  refine Ct.mk Try.func4 rfl Try.ntmps4 rfl ?_
  intro W0 hW0
  have o0 : Old H H := Old.refl H
  dsimp only [InR] at ra
  obtain ⟨a0, cap0, rfl⟩ := sb.val
  refine KC.seq ?_
  refine KC.region ?_
  refine KL.op (R.assign rfl rfl) rfl rfl rfl ?_
  refine KL.nil ?_
  refine KQ.seq ?_
  refine KC.seq ?_
  refine KC.seq ?_
  refine KC.region ?_
  refine KL.call rfl rfl rfl rfl Try.call7 rfl rfl rfl (known_any) ?_
  rintro _ H1 ⟨rfl, ox⟩
  have zc_H1 := (ox).1
  have o0 := o0.trans ox
  refine KL.op (R.not rfl rfl) rfl rfl rfl ?_
  refine KL.nil ?_
  refine KQ.seq ?_
  refine KC.condF rfl ?_
  refine KC.skip ?_
  refine KQ.seq ?_
  refine KC.seq ?_
  refine KC.seq ?_
  refine KC.region ?_
  refine KL.op (R.move rfl rfl) rfl rfl rfl ?_
  refine KL.op (R.lenS rfl Try.underlying24 rfl sb) rfl rfl rfl ?_
  refine KL.op (R.gtr rfl rfl rfl) rfl rfl rfl ?_
  refine KL.op (R.move rfl rfl) rfl rfl rfl ?_
  refine KL.case (d := 20) rfl ?_ ?_
  · intro hg20
    try simp only [decide_eq_true_eq, decide_eq_false_iff_not, Bool.not_eq_true', Bool.not_eq_false', Bool.and_eq_true, Bool.or_eq_false_iff] at hg20
    refine KL.skip rfl rfl rfl ?_
    refine KL.skip rfl rfl rfl ?_
    refine KL.skip rfl rfl rfl ?_
    refine KL.op (R.pick rfl rfl rfl) rfl rfl rfl ?_
    refine KL.nil ?_
    refine KQ.seq ?_
    refine KC.condT rfl ?_
    refine KC.seq ?_
    refine KC.region ?_
    refine KL.op (R.assign rfl rfl) rfl rfl rfl ?_
    refine KL.nil ?_
    refine KQ.seq ?_
    refine KC.ret ?_
    refine KQ.retThen ?_
    refine KQ.ofRet ?_
    refine KQ.fin1 Try.results4 rfl ?_
    exact ⟨rfl, o0⟩
  · intro hg20
    try simp only [decide_eq_true_eq, decide_eq_false_iff_not, Bool.not_eq_true', Bool.not_eq_false', Bool.and_eq_true, Bool.or_eq_false_iff] at hg20
    refine KL.op (R.move rfl rfl) rfl rfl rfl ?_
    refine KL.op (R.lenS rfl Try.underlying39 rfl sc) rfl rfl rfl ?_
    refine KL.op (R.gtr rfl rfl rfl) rfl rfl rfl ?_
    refine KL.op (R.pick rfl rfl rfl) rfl rfl rfl ?_
    refine KL.nil ?_
    refine KQ.seq ?_
    refine KC.iteL rfl ?_ ?_
    · intro hc24
      try simp only [decide_eq_true_eq, decide_eq_false_iff_not, Bool.not_eq_true', Bool.not_eq_false', Bool.and_eq_true, Bool.or_eq_false_iff] at hc24
      refine KC.seq ?_
      refine KC.region ?_
      refine KL.op (R.assign rfl rfl) rfl rfl rfl ?_
      refine KL.nil ?_
      refine KQ.seq ?_
      refine KC.ret ?_
      refine KQ.retThen ?_
      refine KQ.ofRet ?_
      refine KQ.fin1 Try.results4 rfl ?_
      exact ⟨rfl, o0⟩
    · intro hc24
      try simp only [decide_eq_true_eq, decide_eq_false_iff_not, Bool.not_eq_true', Bool.not_eq_false', Bool.and_eq_true, Bool.or_eq_false_iff] at hc24
      refine KC.skip ?_
      refine KQ.seq ?_
      refine KC.seq ?_
      refine KC.region ?_
      refine KL.op (R.move rfl rfl) rfl rfl rfl ?_
      refine KL.op (R.convBS rfl Try.underlying24 Try.underlying5 Try.underlying9 rfl (sb.old o0)) rfl rfl rfl ?_
      refine KL.op (R.assign rfl rfl) rfl rfl rfl ?_
      refine KL.nil ?_
      refine KQ.seq ?_
      refine KC.seq ?_
      refine KC.region ?_
      refine KL.op (R.move rfl rfl) rfl rfl rfl ?_
      refine KL.opM (M.lit rfl Try.underlying50 zs24 (by decide) rfl rfl rfl) rfl rfl rfl ?_
      rintro _ H2 ⟨rfl, n2⟩
      have z2 := n2.2.1
      have o0 := o0.trans n2.1
      have b2 := n2.2.2
      have hls : Sl 1 (ESl 1 (EInt .u8)) H2 _ [b] := (Own.lit (E := ESl 1 (EInt .u8)) (H0 := H2) (B := 0) (l := [b]) n2 (Nat.zero_le _) rfl (by simp [maxLen]) rfl (by intro j x2 u hj hu; match j, hj, hu with | 0, hj, hu => cases hj; cases hu; exact ⟨_, rfl, (sb.old o0)⟩)).sl (Old.refl _) (by omega)
      refine KL.call rfl rfl rfl rfl Try.call14 rfl rfl rfl (Of_any _ _ hls (by rw [flat1]; omega)) ?_
      rintro _ H3 ⟨rfl, ox⟩
      have zc_H3 := (ox).1
      have o0 := o0.trans ox
      rw [flat1]
      have hdg := Sha.digest_length b
      refine KL.opM (M.alloc (cs := ((List.replicate 32 (0 : Int)).map (Value.int .u8))) rfl zr33 rfl) rfl rfl rfl ?_
      rintro _ H4 ⟨rfl, n4⟩
      have z4 := n4.2.1
      have o0 := o0.trans n4.1
      have b4 := n4.2.2
      have bo := b4
      refine KL.opS (S.storeAgg (us := ((Sha.digest b).map (Value.int .u8))) rfl sz33 rfl rfl (by simp [hdg]) (by intro u hu; exact ints_one u hu) bo (by simp [hdg])) rfl rfl ?_
      rintro H5 ⟨u5, b5⟩
      have o0 := o0.upd u5 (by omega)
      have zu5 := u5.1
      have bo := b5
      rw [Sha.put_all (by simp [hdg])] at bo
      have zW := o0.1
      have gW := blk_lt bo
      refine KL.nil ?_
      refine KQ.seq ?_
      refine KC.seq ?_
      refine KC.region ?_
      have zN := o0.1
      refine KL.call rfl rfl rfl rfl Try.call8 rfl rfl rfl (New_any) ?_
      rintro _ H6 ⟨rfl, hm0, ox, zx⟩
      have zc_H6 := (ox).1
      have o0 := o0.trans ox
      have bo := (ox).blk bo
      refine KL.op (R.assign rfl rfl) rfl rfl rfl ?_
      refine KL.nil ?_
      refine KQ.seq ?_
      refine KC.seq ?_
      refine KC.region ?_
      have oB : Old H6 H6 := Old.refl _
      have zB := o0.1
      refine KL.opM (M.lit rfl Try.underlying24 zs5 (by decide) rfl rfl rfl) rfl rfl rfl ?_
      rintro _ H7 ⟨rfl, n7⟩
      have z7 := n7.2.1
      have o0 := o0.trans n7.1
      have bo := (n7.1).blk bo
      have hm0 := hm0.old n7.1
      have b7 := n7.2.2
      have oB := oB.trans n7.1
      have wl : Own 1 (EInt .u8) 5 #[] (Array.size H6) H7 (.slice (some ⟨Array.size H6, 0, none⟩) 0 0) [] := Own.lits (l := []) n7 (Nat.le_refl _) rfl (by decide) (by decide)
      refine KL.op (R.move rfl rfl) rfl rfl rfl ?_
      have hm0B := hm0
      have lt8 := wl.lt
      refine KL.opM (M.append rfl Try.underlying24 inf5 rfl (by decide) rfl rfl wl (by exact (sb.old o0)) (fun _ _ h _ => h) (by omega) (by simp; omega) (by unfold maxLen; simp; omega)) rfl rfl rfl ?_
      rintro v10 H8 ⟨w8, g8⟩
      try dsimp only at g8
      have ob8 := g8.oldB wl (by omega)
      have o0 := o0.then ob8 (by omega)
      have z8 := ob8.1
      have bo := (g8.2 _ (blk_lt bo) (by first | exact .inr (by omega) | exact .inl rfl | exact lt8.imp id (fun h => by omega))).trans bo
      have oB := oB.then ob8 (by omega)
      have wl := w8
      have wl : Own 1 (EInt .u8) 5 #[] _ H8 v10 b := wl
      have hm0 := hm0B.grown g8 (lt8.imp id (fun h => by omega)) (.inl rfl)
      refine KL.op (R.assign rfl rfl) rfl rfl rfl ?_
      refine KL.nil ?_
      refine KQ.seq ?_
      refine KC.seq ?_
      refine KC.seq ?_
      refine KC.region ?_
      refine KL.op (R.move rfl rfl) rfl rfl rfl ?_
      refine KL.op (R.lenS rfl Try.underlying39 rfl sc) rfl rfl rfl ?_
      refine KL.op (R.move rfl rfl) rfl rfl rfl ?_
      refine KL.nil ?_
      refine KQ.seq ?_
      refine KC.block ?_
      have lent := Lent.start wl
      have zBD : Array.size H6 ≤ Array.size H8 := oB.1
      have gNB : Array.size H5 < Array.size H6 := by omega
      have zN2 : H.size ≤ Array.size H5 := zN
      refine KC.loopD (κ := Nat × Nat × Value × Value) [37, 38, 39, 40, 11, 12, 41, 42, 43, 44, 45, 46, 13, 47, 48, 49, 50, 14, 51, 52, 53, 54, 55, 56, 57, 58, 59, 60, 61, 62, 63, 64, 65, 66, 67, 68, 69, 70, 71, 72, 73, 74, 75, 76, 77, 78, 79, 6, 80, 81, 82, 83, 10, 84, 36] (fun k => [(36, .int .i64 (k.1 : Nat)), (10, k.2.2.1)]) (fun k Hl => k.1 ≤ cs.length ∧ Lent Hl (Array.size H6) (Array.size H8) k.2.2.1 k.2.1 b ∧ HMn Hl (Array.size H5) k.2.2.2 (b.take k.2.1) (k.2.1 : Nat) ∧ (k.2.2.2 = .slice none 0 0 ∨ Array.size H8 ≤ vblock k.2.2.2) ∧ Hl[Array.size H3]? = some (.cells ((Sha.digest b).map (Value.int .u8)).toArray 33 (0, 0)) ∧ Old H Hl ∧ Array.size H8 ≤ Hl.size) (fun k => cs.length - k.1) (0, 0, v10, .slice none 0 0) ?_ ?_ ?_
      · exact (Sub.cons rfl (Sub.cons rfl (Ext.sub (Ext.refl _ _))))
      · exact ⟨Nat.zero_le _, lent, hm0, .inl rfl, bo, o0, Nat.le_refl _⟩
      · rintro ⟨k, q, vl, vr⟩ H9 ⟨hk, lent, hm, hvD, bo, o0, hD⟩
        have zl_H9 := o0.1
        dsimp only at hk lent hm hvD
        have zl := o0.1
        have hq := lent.le
        have hdl : (b.drop q).length = b.length - q := List.length_drop
        have hvr := hm.wr.lt
        have hgl := blk_lt hm.bg
        have hbl := blk_lt bo
        have htl : (b.take q).length = q := by rw [List.length_take]; omega
        refine KC.seq ?_
        refine KC.region ?_
        refine KL.op (R.lss rfl rfl rfl) rfl rfl rfl ?_
        refine KL.nil ?_
        refine KQ.seq ?_
        refine KC.seq ?_
        refine KC.iteL rfl ?_ ?_
        · intro hc37
          try simp only [decide_eq_true_eq, decide_eq_false_iff_not, Bool.not_eq_true', Bool.not_eq_false', Bool.and_eq_true, Bool.or_eq_false_iff] at hc37
          have hcc := sc.int_range _ (getD_mem (l := cs) (k := k) (by omega))
          dsimp only [InR] at hcc
          refine KC.skip ?_
          refine KQ.seq ?_
          refine KC.seq ?_
          refine KC.block ?_
          refine KC.seq ?_
          refine KC.region ?_
          refine KL.op (R.move rfl rfl) rfl rfl rfl ?_
          refine KL.op (R.index1 (j := k) rfl Try.underlying39 sz41 rfl rfl (sc.old o0) rfl (by omega)) rfl rfl rfl ?_
          refine KL.op (R.load rfl Try.underlying41 rfl rfl ((sc.old o0).int k (by omega)).1) rfl rfl rfl ?_
          refine KL.op (R.assign rfl rfl) rfl rfl rfl ?_
          refine KL.op (R.assign rfl rfl) rfl rfl rfl ?_
          refine KL.nil ?_
          refine KQ.seq ?_
          refine KC.seq ?_
          refine KC.region ?_
          refine KL.op (R.move rfl rfl) rfl rfl rfl ?_
          refine KL.op (R.convI rfl Try.underlying41 Try.underlying3 rfl (by dsimp only [InR]; omega)) rfl rfl rfl ?_
          refine KL.op (R.move rfl rfl) rfl rfl rfl ?_
          refine KL.op (R.lenS rfl Try.underlying24 rfl lent.sl) rfl rfl rfl ?_
          refine KL.op ((R.add rfl rfl rfl (by dsimp only [InR]; omega)).val (congrArg (Value.int .i64) (show ((b.drop q).length : Int) + 1 = (((b.drop q).length + 1 : Nat) : Int) by omega))) rfl rfl rfl ?_
          obtain ⟨n, hnn, hnq⟩ : ∃ n : Nat, cs.getD k default % (((b.drop q).length + 1 : Nat) : Int) = (n : Int) ∧ n ≤ (b.drop q).length := ⟨(cs.getD k default % (((b.drop q).length + 1 : Nat) : Int)).toNat, by have := Int.emod_nonneg (cs.getD k default) (b := (((b.drop q).length + 1 : Nat) : Int)) (by omega); omega, by have := Int.emod_lt_of_pos (cs.getD k default) (b := (((b.drop q).length + 1 : Nat) : Int)) (by omega); omega⟩
          refine KL.op ((R.rem rfl rfl rfl (by omega) (by omega)).val (congrArg (Value.int .i64) hnn)) rfl rfl rfl ?_
          refine KL.op (R.assign rfl rfl) rfl rfl rfl ?_
          refine KL.nil ?_
          refine KQ.seq ?_
          refine KC.seq ?_
          refine KC.region ?_
          refine KL.op (R.move rfl rfl) rfl rfl rfl ?_
          refine KL.op (R.move rfl rfl) rfl rfl rfl ?_
          refine KL.op (R.move rfl rfl) rfl rfl rfl ?_
          refine KL.op (R.slice3 (i := 0) (j := n) rfl Try.underlying24 sz5 rfl lent.sl bnd.no rfl rfl rfl rfl (Nat.zero_le _) hnq) rfl rfl rfl ?_
          refine KL.op (R.assign rfl rfl) rfl rfl rfl ?_
          refine KL.nil ?_
          refine KQ.seq ?_
          refine KC.seq ?_
          refine KC.seq ?_
          refine KC.region ?_
          refine KL.op (R.move rfl rfl) rfl rfl rfl ?_
          refine KL.op (R.move rfl rfl) rfl rfl rfl ?_
          obtain ⟨spart, hpart⟩ := lent.part hnq
          have hfl : flatV [sub3 1 vl 0 n n] = [sub3 1 vl 0 n n] := by obtain ⟨a9, c9, hv9⟩ := lent.sl.val; subst hv9; rfl
          refine KL.opM (M.lit rfl Try.underlying50 zs24 (by decide) rfl rfl (by obtain ⟨a9, c9, hv9⟩ := lent.sl.val; subst hv9; rfl)) rfl rfl rfl ?_
          rintro _ H10 ⟨rfl, n10⟩
          have z10 := n10.2.1
          have o0 := o0.trans n10.1
          have hm := hm.old n10.1
          have bo := (n10.1).blk bo
          have b10 := n10.2.2
          have bb := b10
          dsimp only at bb
          rw [hfl] at bb
          have hst1 := stab_lit (Hx := H10) (lit := Array.size H9) (g := Array.size H5) (vr := vr) (ls := [(b.drop q).take n]) (vs := [sub3 1 vl 0 n n]) bb rfl (by simp [maxLen]) (by intro j v l hj hl; match j, hj, hl with | 0, hj, hl => cases hj; cases hl; exact ⟨spart.old n10.1, hpart.imp id (fun h => ⟨by omega, by omega, hvD.imp id (fun h2 => by omega)⟩)⟩) (by omega) (hvr.imp id (fun h => by omega))
          have lent := lent.old n10.1 (by omega)
          refine KL.call rfl rfl rfl rfl Try.call9 rfl rfl rfl (Write_any (Array.size H5) vr (b.take q) _ [(b.drop q).take n] (by rw [htl]; exact hm) hst1 (by rw [flat1, htl, List.length_take]; omega)) ?_
          rintro _ H11 ⟨rfl, vr2, hm2, f2, nx2⟩
          have ob2 := f2.oldB (B := Array.size H5) (by omega) (Nat.le_refl _) (hvD.imp id (fun h => by omega))
          have hvD2 := nx_far nx2 (D := Array.size H8) (by omega) hvD
          have lent := lent.keep (H' := H11) (fun g h1 h2 => f2.2 g (by omega) (by omega) (hvD.imp id (fun h => by omega)))
          rw [flat1, ← List.take_add] at hm2
          have hm2l : (b.take (q + n)).length = q + n := by rw [List.length_take]; omega
          rw [hm2l] at hm2
          have hvr2 := hm2.wr.lt
          have z_ob2 := ob2.1
          have o0 := o0.then ob2 (by omega)
          have bo := (ob2.2 _ (by omega)).trans bo
          have zw := f2.1
          refine KL.nil ?_
          refine KQ.seq ?_
          refine KC.seq ?_
          refine KC.region ?_
          refine KL.op (R.move rfl rfl) rfl rfl rfl ?_
          refine KL.op (R.rem rfl rfl rfl (by omega) (by omega)) rfl rfl rfl ?_
          refine KL.op (R.move rfl rfl) rfl rfl rfl ?_
          refine KL.op (R.rem rfl rfl rfl (by omega) (by omega)) rfl rfl rfl ?_
          refine KL.op (R.convI rfl Try.underlying5 Try.underlying3 rfl (by dsimp only [InR]; omega)) rfl rfl rfl ?_
          refine KL.op (R.eql rfl rfl rfl) rfl rfl rfl ?_
          refine KL.nil ?_
          refine KQ.seq ?_
          refine KC.iteL rfl ?_ ?_
          · intro hc60
            try simp only [decide_eq_true_eq, decide_eq_false_iff_not, Bool.not_eq_true', Bool.not_eq_false', Bool.and_eq_true, Bool.or_eq_false_iff] at hc60
            refine KC.region ?_
            refine KL.op (R.move rfl rfl) rfl rfl rfl ?_
            refine KL.call rfl rfl rfl rfl Try.call11 rfl rfl rfl (Sum_any _ _ (b.take (q + n)) (by rw [hm2l]; exact hm2) (by omega)) ?_
            rintro _ H12 ⟨rfl, ox⟩
            have zc_H12 := (ox).1
            have o0 := o0.trans ox
            have bo := (ox).blk bo
            have hm2 := hm2.old ox
            have lent := lent.old ox (by omega)
            refine KL.nil ?_
            refine KQ.seq ?_
            refine KC.seq ?_
            refine KC.seq ?_
            refine KC.quiet (by kernel_rfl) (by kernel_rfl) ?_
            refine KD.op (R.move rfl rfl) rfl rfl rfl ?_
            obtain ⟨spart2, -⟩ := lent.part hnq
            refine KD.op (R.convBS rfl Try.underlying24 Try.underlying5 Try.underlying9 rfl spart2) rfl rfl rfl ?_
            refine KD.op (R.move rfl rfl) rfl rfl rfl ?_
            refine KD.op (R.move rfl rfl) rfl rfl rfl ?_
            refine KD.op (R.lenS rfl Try.underlying24 rfl sb) rfl rfl rfl ?_
            refine KD.op (R.move rfl rfl) rfl rfl rfl ?_
            refine KD.op (R.lenS rfl Try.underlying24 rfl lent.sl) rfl rfl rfl ?_
            refine KD.op ((R.sub rfl rfl rfl (by dsimp only [InR]; omega)).val (congrArg (Value.int .i64) (show _ = ((q : Nat) : Int) from by omega))) rfl rfl rfl ?_
            refine KD.op (R.move rfl rfl) rfl rfl rfl ?_
            refine KD.op (R.lenS rfl Try.underlying24 rfl sb) rfl rfl rfl ?_
            refine KD.op (R.move rfl rfl) rfl rfl rfl ?_
            refine KD.op (R.lenS rfl Try.underlying24 rfl lent.sl) rfl rfl rfl ?_
            refine KD.op ((R.sub rfl rfl rfl (by dsimp only [InR]; omega)).val (congrArg (Value.int .i64) (show _ = ((q : Nat) : Int) from by omega))) rfl rfl rfl ?_
            refine KD.op (R.move rfl rfl) rfl rfl rfl ?_
            refine KD.op ((R.add rfl rfl rfl (by dsimp only [InR]; omega)).val (congrArg (Value.int .i64) (show _ = ((q + n : Nat) : Int) from by omega))) rfl rfl rfl ?_
            refine KD.op (R.sliceStr (i := q) (j := q + n) rfl Try.underlying9 rfl (bnd.mk rfl rfl) (bnd.mk rfl rfl) (by omega) (by rw [bstr_size sb.int_range]; omega)) rfl rfl rfl ?_
            refine KD.op ((R.neqStr rfl rfl rfl).val (congrArg (fun b => Value.bool (!b)) (cut_str sb.int_range q n))) rfl rfl rfl ?_
            refine KD.nil ?_
            refine KQ.seq ?_
            refine KC.condF rfl ?_
            refine KC.skip ?_
            refine KQ.seq ?_
            refine KC.seq ?_
            refine KC.region ?_
            refine KL.op (R.move rfl rfl) rfl rfl rfl ?_
            have lsl := lent.sl
            refine KL.opM0 (M.clearL rfl Try.underlying24 zr5 rfl lent sb.int_range hnq) rfl rfl ?_
            rintro _ H14 ⟨zc13, kc13, lent2⟩
            have obc : OldB (Array.size H5) H12 H14 := ⟨by omega, fun i hi => kc13 i (.inl (by omega))⟩
            have o0 := o0.then obc (by omega)
            have bo := (kc13 _ (.inl (by omega))).trans bo
            have hm3 := hm2.keep (kc13 _ (.inl (by omega))) (hvD2.imp id (fun h => kc13 _ (.inr h)))
            refine KL.nil ?_
            refine KQ.seq ?_
            refine KC.region ?_
            refine KL.op (R.move rfl rfl) rfl rfl rfl ?_
            refine KL.op (R.move rfl rfl) rfl rfl rfl ?_
            refine KL.op (R.slice rfl Try.underlying24 sz5 rfl lsl (bnd.mk (r := n) rfl rfl) bnd.no (by omega) (Nat.le_refl _)) rfl rfl rfl ?_
            refine KL.op (R.assign rfl rfl) rfl rfl rfl ?_
            refine KL.nil ?_
            refine KQ.normBlock ?_
            refine KQ.seq ?_
            refine KC.region ?_
            refine KL.op ((R.add rfl rfl rfl (by dsimp only [InR]; omega)).val (congrArg (Value.int .i64) (show (k : Int) + 1 = ((k + 1 : Nat) : Int) by omega))) rfl rfl rfl ?_
            refine KL.op (R.move rfl rfl) rfl rfl rfl ?_
            refine KL.nil ?_
            refine KQ.again ((k + 1, q + n, subV 1 vl n (b.drop q).length, vr2)) ?_ ?_ ?_
            · exact (Sub.cons rfl (Sub.cons rfl (Ext.sub (by repeat (first | exact Ext.refl _ _ | refine Ext.put rfl ?_ | refine Ext.drop rfl ?_)))))
            · show cs.length - (k + 1) < cs.length - k; omega
            · exact ⟨by show k + 1 ≤ _; omega, lent2, hm3, hvD2, bo, o0, by omega⟩
          · intro hc60
            try simp only [decide_eq_true_eq, decide_eq_false_iff_not, Bool.not_eq_true', Bool.not_eq_false', Bool.and_eq_true, Bool.or_eq_false_iff] at hc60
            refine KC.skip ?_
            refine KQ.seq ?_
            refine KC.seq ?_
            refine KC.seq ?_
            refine KC.quiet (by kernel_rfl) (by kernel_rfl) ?_
            refine KD.op (R.move rfl rfl) rfl rfl rfl ?_
            obtain ⟨spart2, -⟩ := lent.part hnq
            refine KD.op (R.convBS rfl Try.underlying24 Try.underlying5 Try.underlying9 rfl spart2) rfl rfl rfl ?_
            refine KD.op (R.move rfl rfl) rfl rfl rfl ?_
            refine KD.op (R.move rfl rfl) rfl rfl rfl ?_
            refine KD.op (R.lenS rfl Try.underlying24 rfl sb) rfl rfl rfl ?_
            refine KD.op (R.move rfl rfl) rfl rfl rfl ?_
            refine KD.op (R.lenS rfl Try.underlying24 rfl lent.sl) rfl rfl rfl ?_
            refine KD.op ((R.sub rfl rfl rfl (by dsimp only [InR]; omega)).val (congrArg (Value.int .i64) (show _ = ((q : Nat) : Int) from by omega))) rfl rfl rfl ?_
            refine KD.op (R.move rfl rfl) rfl rfl rfl ?_
            refine KD.op (R.lenS rfl Try.underlying24 rfl sb) rfl rfl rfl ?_
            refine KD.op (R.move rfl rfl) rfl rfl rfl ?_
            refine KD.op (R.lenS rfl Try.underlying24 rfl lent.sl) rfl rfl rfl ?_
            refine KD.op ((R.sub rfl rfl rfl (by dsimp only [InR]; omega)).val (congrArg (Value.int .i64) (show _ = ((q : Nat) : Int) from by omega))) rfl rfl rfl ?_
            refine KD.op (R.move rfl rfl) rfl rfl rfl ?_
            refine KD.op ((R.add rfl rfl rfl (by dsimp only [InR]; omega)).val (congrArg (Value.int .i64) (show _ = ((q + n : Nat) : Int) from by omega))) rfl rfl rfl ?_
            refine KD.op (R.sliceStr (i := q) (j := q + n) rfl Try.underlying9 rfl (bnd.mk rfl rfl) (bnd.mk rfl rfl) (by omega) (by rw [bstr_size sb.int_range]; omega)) rfl rfl rfl ?_
            refine KD.op ((R.neqStr rfl rfl rfl).val (congrArg (fun b => Value.bool (!b)) (cut_str sb.int_range q n))) rfl rfl rfl ?_
            refine KD.nil ?_
            refine KQ.seq ?_
            refine KC.condF rfl ?_
            refine KC.skip ?_
            refine KQ.seq ?_
            refine KC.seq ?_
            refine KC.region ?_
            refine KL.op (R.move rfl rfl) rfl rfl rfl ?_
            have lsl := lent.sl
            refine KL.opM0 (M.clearL rfl Try.underlying24 zr5 rfl lent sb.int_range hnq) rfl rfl ?_
            rintro _ H16 ⟨zc15, kc15, lent2⟩
            have obc : OldB (Array.size H5) H11 H16 := ⟨by omega, fun i hi => kc15 i (.inl (by omega))⟩
            have o0 := o0.then obc (by omega)
            have bo := (kc15 _ (.inl (by omega))).trans bo
            have hm3 := hm2.keep (kc15 _ (.inl (by omega))) (hvD2.imp id (fun h => kc15 _ (.inr h)))
            refine KL.nil ?_
            refine KQ.seq ?_
            refine KC.region ?_
            refine KL.op (R.move rfl rfl) rfl rfl rfl ?_
            refine KL.op (R.move rfl rfl) rfl rfl rfl ?_
            refine KL.op (R.slice rfl Try.underlying24 sz5 rfl lsl (bnd.mk (r := n) rfl rfl) bnd.no (by omega) (Nat.le_refl _)) rfl rfl rfl ?_
            refine KL.op (R.assign rfl rfl) rfl rfl rfl ?_
            refine KL.nil ?_
            refine KQ.normBlock ?_
            refine KQ.seq ?_
            refine KC.region ?_
            refine KL.op ((R.add rfl rfl rfl (by dsimp only [InR]; omega)).val (congrArg (Value.int .i64) (show (k : Int) + 1 = ((k + 1 : Nat) : Int) by omega))) rfl rfl rfl ?_
            refine KL.op (R.move rfl rfl) rfl rfl rfl ?_
            refine KL.nil ?_
            refine KQ.again ((k + 1, q + n, subV 1 vl n (b.drop q).length, vr2)) ?_ ?_ ?_
            · exact (Sub.cons rfl (Sub.cons rfl (Ext.sub (by repeat (first | exact Ext.refl _ _ | refine Ext.put rfl ?_ | refine Ext.drop rfl ?_)))))
            · show cs.length - (k + 1) < cs.length - k; omega
            · exact ⟨by show k + 1 ≤ _; omega, lent2, hm3, hvD2, bo, o0, by omega⟩
        · intro hc37
          try simp only [decide_eq_true_eq, decide_eq_false_iff_not, Bool.not_eq_true', Bool.not_eq_false', Bool.and_eq_true, Bool.or_eq_false_iff] at hc37
          refine KC.exit ?_
          refine KQ.exitThen ?_
          refine KQ.exitThen ?_
          refine KQ.hit ?_
          refine KQ.seq ?_
          refine KC.seq ?_
          refine KC.region ?_
          refine KL.op (R.move rfl rfl) rfl rfl rfl ?_
          refine KL.op (R.move rfl rfl) rfl rfl rfl ?_
          have hwh := lent.whole
          have hfl : flatV [vl] = [vl] := by obtain ⟨a9, c9, hv9⟩ := lent.sl.val; subst hv9; rfl
          refine KL.opM (M.lit rfl Try.underlying50 zs24 (by decide) rfl rfl (by obtain ⟨a9, c9, hv9⟩ := lent.sl.val; subst hv9; rfl)) rfl rfl rfl ?_
          rintro _ H17 ⟨rfl, n17⟩
          have z17 := n17.2.1
          have o0 := o0.trans n17.1
          have hm := hm.old n17.1
          have bo := (n17.1).blk bo
          have b17 := n17.2.2
          have bb := b17
          dsimp only at bb
          rw [hfl] at bb
          have hst1 := stab_lit (Hx := H17) (lit := Array.size H9) (g := Array.size H5) (vr := vr) (ls := [b.drop q]) (vs := [vl]) bb rfl (by simp [maxLen]) (by intro j v l hj hl; match j, hj, hl with | 0, hj, hl => cases hj; cases hl; exact ⟨lent.sl.old n17.1, hwh.imp id (fun h => ⟨by omega, by omega, hvD.imp id (fun h2 => by omega)⟩)⟩) (by omega) (hvr.imp id (fun h => by omega))
          refine KL.call rfl rfl rfl rfl Try.call9 rfl rfl rfl (Write_any (Array.size H5) vr (b.take q) _ [b.drop q] (by rw [htl]; exact hm) hst1 (by rw [flat1, htl]; omega)) ?_
          rintro _ H18 ⟨rfl, vr2, hm2, f2, nx2⟩
          have ob2 := f2.oldB (B := Array.size H5) (by omega) (Nat.le_refl _) (hvD.imp id (fun h => by omega))
          rw [flat1, List.take_append_drop] at hm2
          have z_ob2 := ob2.1
          have o0 := o0.then ob2 (by omega)
          have bo := (ob2.2 _ (by omega)).trans bo
          have sbF := sb.old o0
          refine KL.nil ?_
          refine KQ.seq ?_
          refine KC.seq ?_
          have os : Old H18 H18 := Old.refl _
          have ob := o0
          have boS := bo
          have hm2S := hm2
          have sbFS := sbF
          refine KC.text (clOf [(1, 2), (6, 2), (18, 2)]) (fun _ Hc => Old H18 Hc) (by kernel_rfl) (by kernel_rfl) (fun _ => Old.refl _) ?_
          refine KP.op rfl (fun Hg og => by have bo := og.blk boS; have hm2 := hm2S.old og; have sbF := sbFS.old og; have o0 := ob.trans og; exact R.move rfl rfl) rfl rfl rfl ?_
          refine KP.call rfl rfl rfl rfl rfl Try.call11 rfl rfl rfl (Sum_any _ _ b hm2 (by omega)) (fun _ _ h _ _ _ => os.trans h.2) ?_
          rintro _ H19 ⟨rfl, ox⟩
          have zc_H19 := (ox).1
          have o0 := o0.trans ox
          have os := os.trans ox
          have bo := (ox).blk bo
          have hm2 := hm2.old ox
          have sbF := sbF.old ox
          refine KP.op rfl (fun Hg og => by have bo := og.blk boS; have hm2 := hm2S.old og; have sbF := sbFS.old og; have o0 := ob.trans og; exact R.loadAgg rfl Try.underlying33 rfl sz33 rfl (cells_of bo) (by simp [hdg])) rfl rfl rfl ?_
          refine KP.op rfl (fun Hg og => by have bo := og.blk boS; have hm2 := hm2S.old og; have sbF := sbFS.old og; have o0 := ob.trans og; exact (R.eqlA rfl Try.underlying33 Try.underlying5 sz5 (by kernel_rfl) rfl rfl (Sha.digest_length _) (Sha.digest_length _)).val (congrArg Value.bool (decide_eq_true rfl))) rfl rfl rfl ?_
          refine KP.op rfl (fun Hg og => by have bo := og.blk boS; have hm2 := hm2S.old og; have sbF := sbFS.old og; have o0 := ob.trans og; exact R.move rfl rfl) rfl rfl rfl ?_
          refine KP.op rfl (fun Hg og => by have bo := og.blk boS; have hm2 := hm2S.old og; have sbF := sbFS.old og; have o0 := ob.trans og; exact R.move rfl rfl) rfl rfl rfl ?_
          refine KP.call rfl rfl rfl rfl rfl Try.call11 rfl rfl rfl (Sum_any _ _ b hm2 (by omega)) (fun _ _ h _ _ _ => os.trans h.2) ?_
          rintro _ H20 ⟨rfl, ox⟩
          have zc_H20 := (ox).1
          have o0 := o0.trans ox
          have os := os.trans ox
          have bo := (ox).blk bo
          have hm2 := hm2.old ox
          have sbF := sbF.old ox
          refine KP.op rfl (fun Hg og => by have bo := og.blk boS; have hm2 := hm2S.old og; have sbF := sbFS.old og; have o0 := ob.trans og; exact R.loadAgg rfl Try.underlying33 rfl sz33 rfl (cells_of bo) (by simp [hdg])) rfl rfl rfl ?_
          refine KP.op rfl (fun Hg og => by have bo := og.blk boS; have hm2 := hm2S.old og; have sbF := sbFS.old og; have o0 := ob.trans og; exact (R.eqlA rfl Try.underlying33 Try.underlying5 sz5 (by kernel_rfl) rfl rfl (Sha.digest_length _) (Sha.digest_length _)).val (congrArg Value.bool (decide_eq_true rfl))) rfl rfl rfl ?_
          refine KP.op rfl (fun Hg og => by have bo := og.blk boS; have hm2 := hm2S.old og; have sbF := sbFS.old og; have o0 := ob.trans og; exact R.pick rfl rfl rfl) rfl rfl rfl ?_
          refine KP.op rfl (fun Hg og => by have bo := og.blk boS; have hm2 := hm2S.old og; have sbF := sbFS.old og; have o0 := ob.trans og; exact R.move rfl rfl) rfl rfl rfl ?_
          refine KP.op rfl (fun Hg og => by have bo := og.blk boS; have hm2 := hm2S.old og; have sbF := sbFS.old og; have o0 := ob.trans og; exact R.move rfl rfl) rfl rfl rfl ?_
          refine KP.op rfl (fun Hg og => by have bo := og.blk boS; have hm2 := hm2S.old og; have sbF := sbFS.old og; have o0 := ob.trans og; exact R.convBS rfl Try.underlying24 Try.underlying5 Try.underlying9 rfl sbF) rfl rfl rfl ?_
          refine KP.op rfl (fun Hg og => by have bo := og.blk boS; have hm2 := hm2S.old og; have sbF := sbFS.old og; have o0 := ob.trans og; exact R.move rfl rfl) rfl rfl rfl ?_
          refine KP.op rfl (fun Hg og => by have bo := og.blk boS; have hm2 := hm2S.old og; have sbF := sbFS.old og; have o0 := ob.trans og; exact (R.eqlStr rfl rfl rfl).val (congrArg Value.bool (beq_self_eq_true _))) rfl rfl rfl ?_
          refine KP.op rfl (fun Hg og => by have bo := og.blk boS; have hm2 := hm2S.old og; have sbF := sbFS.old og; have o0 := ob.trans og; exact R.pick rfl rfl rfl) rfl rfl rfl ?_
          refine KP.op rfl (fun Hg og => by have bo := og.blk boS; have hm2 := hm2S.old og; have sbF := sbFS.old og; have o0 := ob.trans og; exact R.move rfl rfl) rfl rfl rfl ?_
          refine KP.op rfl (fun Hg og => by have bo := og.blk boS; have hm2 := hm2S.old og; have sbF := sbFS.old og; have o0 := ob.trans og; exact R.move rfl rfl) rfl rfl rfl ?_
          refine KP.call rfl rfl rfl rfl rfl Try.call13 rfl rfl rfl (Len_any _ _ _ _ hm2) (fun _ _ h _ _ _ => h.2 ▸ os) ?_
          rintro _ _ ⟨rfl, rfl⟩
          refine KP.op rfl (fun Hg og => by have bo := og.blk boS; have hm2 := hm2S.old og; have sbF := sbFS.old og; have o0 := ob.trans og; exact R.move rfl rfl) rfl rfl rfl ?_
          refine KP.op rfl (fun Hg og => by have bo := og.blk boS; have hm2 := hm2S.old og; have sbF := sbFS.old og; have o0 := ob.trans og; exact R.lenS rfl Try.underlying24 rfl sb) rfl rfl rfl ?_
          refine KP.op rfl (fun Hg og => by have bo := og.blk boS; have hm2 := hm2S.old og; have sbF := sbFS.old og; have o0 := ob.trans og; exact R.convI rfl Try.underlying3 Try.underlying36 rfl (by dsimp only [InR]; omega)) rfl rfl rfl ?_
          refine KP.op rfl (fun Hg og => by have bo := og.blk boS; have hm2 := hm2S.old og; have sbF := sbFS.old og; have o0 := ob.trans og; exact (R.eql rfl rfl rfl).val (congrArg Value.bool (decide_eq_true (by rfl)))) rfl rfl rfl ?_
          refine KP.op rfl (fun Hg og => by have bo := og.blk boS; have hm2 := hm2S.old og; have sbF := sbFS.old og; have o0 := ob.trans og; exact R.pick rfl rfl rfl) rfl rfl rfl ?_
          refine KP.op rfl (fun Hg og => by have bo := og.blk boS; have hm2 := hm2S.old og; have sbF := sbFS.old og; have o0 := ob.trans og; exact R.assign rfl rfl) rfl rfl rfl ?_
          refine KP.nil ?_
          refine KQ.seq ?_
          refine KC.ret ?_
          refine KQ.ofRet ?_
          refine KQ.fin1 Try.results4 rfl ?_
          exact ⟨rfl, o0⟩

end Go.Proofs.Ytgpbdimccbimnaa
