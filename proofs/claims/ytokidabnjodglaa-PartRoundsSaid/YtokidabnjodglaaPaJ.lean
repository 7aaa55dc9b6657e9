/- PartRounds walked. No condition. -/
import Derived.Test.YtokidabnjodglaaPaI
namespace Go.Proofs.Ytokidabnjodglaa
open Go Go.RowKit
set_option linter.unusedVariables false
set_option linter.unusedSimpArgs false
set_option linter.unnecessarySimpa false
theorem getD_replicate {α : Type} [Inhabited α] {n : Nat} (h : True) (x : Nat) : (List.replicate n (default : α)).getD x default = default := by
  rw [List.getD_eq_getElem?_getD, List.getElem?_replicate]
  split <;> rfl

set_option maxRecDepth 100000 in
set_option maxHeartbeats 4000000 in
theorem PartRounds_k {H : Heap} {v : Value} {l : List Ins} (hs : Sl 5 EIns H v l) : Ct Try.prog 5 [v] H (fun u H' => u = .bool true ∧ Old H H') := by
  refine Ct.mk Try.func5 rfl Try.ntmps5 rfl ?_
  intro W0 hW0
  have o0 : Old H H := Old.refl H
  have hlm := hs.lenM
  unfold maxLen at hlm
  refine KC.seq ?_
  refine KC.region ?_
  refine KL.op (R.assign rfl rfl) rfl rfl rfl ?_
  refine KL.nil ?_
  refine KQ.seq ?_
  refine KC.seq ?_
  refine KC.seq ?_
  refine KC.region ?_
  refine KL.call rfl rfl rfl rfl Try.call6 rfl rfl rfl (known_k) ?_
  rintro _ H1 ⟨rfl, ox⟩
  have zc_H1 := (ox).1
  have o0 := o0.trans ox
  refine KL.op (R.not rfl rfl) rfl rfl rfl ?_
  refine KL.nil ?_
  refine KQ.seq ?_
  refine KC.condF rfl ?_
  refine KC.skip ?_
  refine KQ.seq ?_
  refine KC.seq ?_
  refine KC.seq ?_
  refine KC.region ?_
  refine KL.op (R.move rfl rfl) rfl rfl rfl ?_
  refine KL.op (R.lenS rfl Try.underlying22 rfl hs) rfl rfl rfl ?_
  refine KL.op (R.gtr rfl rfl rfl) rfl rfl rfl ?_
  refine KL.nil ?_
  refine KQ.seq ?_
  refine KC.iteL rfl ?_ ?_
  · intro hc18
    try simp only [decide_eq_true_eq, decide_eq_false_iff_not, Bool.not_eq_true', Bool.not_eq_false', Bool.and_eq_true, Bool.or_eq_false_iff] at hc18
    refine KC.seq ?_
    refine KC.region ?_
    refine KL.op (R.assign rfl rfl) rfl rfl rfl ?_
    refine KL.nil ?_
    refine KQ.seq ?_
    refine KC.ret ?_
    refine KQ.retThen ?_
    refine KQ.ofRet ?_
    refine KQ.fin1 Try.results5 rfl ?_
    exact ⟨rfl, o0⟩
  · intro hc18
    try simp only [decide_eq_true_eq, decide_eq_false_iff_not, Bool.not_eq_true', Bool.not_eq_false', Bool.and_eq_true, Bool.or_eq_false_iff] at hc18
    have hl : l.length ≤ 2000 := by omega
    have hpll := parts_len l
    refine KC.skip ?_
    refine KQ.seq ?_
    refine KC.seq ?_
    refine KC.region ?_
    refine KL.op (R.move rfl rfl) rfl rfl rfl ?_
    refine KL.op (R.lenS rfl Try.underlying22 rfl hs) rfl rfl rfl ?_
    refine KL.op ((R.add rfl rfl rfl (by dsimp only [InR]; omega)).val (congrArg (Value.int .i64) (show (l.length : Int) + 1 = ((l.length + 1 : Nat) : Int) by omega))) rfl rfl rfl ?_
    have zrb := o0.1
    refine KL.opM (M.make rfl Try.underlying43 inf4 rfl rfl rfl (by omega) (by omega) (by omega) (by omega)) rfl rfl rfl ?_
    rintro _ H2 ⟨rfl, n2⟩
    have z2 := n2.2.1
    have o0 := o0.trans n2.1
    have b2 := n2.2.2
    have wb := Own.made (E := EBool) (H0 := #[]) (B := H.size) (x := false) n2 (by omega) (by unfold maxLen; simp; omega) rfl
    obtain ⟨b0, bl, bv, wb⟩ : ∃ r : List Bool, r.length = l.length + 1 ∧ (∀ x, r.getD x default = false) ∧ Own 1 (EBool) 4 #[] H.size H2 (.slice (some ⟨Array.size H1, 0, none⟩) ((l.length + 1 : Nat) : Int).toNat ((l.length + 1 : Nat) : Int).toNat) r := ⟨_, List.length_replicate, fun x => getD_replicate trivial x, wb⟩
    have hvb : vblock (.slice (some ⟨Array.size H1, 0, none⟩) ((l.length + 1 : Nat) : Int).toNat ((l.length + 1 : Nat) : Int).toNat) = Array.size H1 := rfl
    have htb : vblock (.slice (some ⟨Array.size H1, 0, none⟩) ((l.length + 1 : Nat) : Int).toNat ((l.length + 1 : Nat) : Int).toNat) < Array.size H2 := (wb.lt.resolve_left (by simp)).2
    refine KL.op (R.assign rfl rfl) rfl rfl rfl ?_
    refine KL.nil ?_
    refine KQ.seq ?_
    refine KC.seq ?_
    refine KC.region ?_
    refine KL.op (R.move rfl rfl) rfl rfl rfl ?_
    refine KL.op (R.indexO1 (j := 0) rfl Try.underlying43 sz4 rfl rfl wb (by omega) (by omega)) rfl rfl rfl ?_
    refine KL.opS (S.own1 rfl sz4 rfl rfl rfl rfl wb (by omega) rfl) rfl rfl ?_
    rintro H3 ⟨u3, w3⟩
    have o0 := o0.upd u3 (by omega)
    have zu3 := u3.1
    have wb := w3
    refine KL.nil ?_
    refine KQ.seq ?_
    refine KC.seq ?_
    refine KC.seq ?_
    refine KC.region ?_
    refine KL.op (R.move rfl rfl) rfl rfl rfl ?_
    refine KL.op (R.lenS rfl Try.underlying22 rfl hs) rfl rfl rfl ?_
    refine KL.op (R.move rfl rfl) rfl rfl rfl ?_
    refine KL.nil ?_
    refine KQ.seq ?_
    refine KC.block ?_
    refine KC.loopD (κ := Nat × List Bool) [28, 29, 30, 31, 5, 4, 32, 33, 34, 35, 36, 37, 38, 39, 27] (fun k => [(27, .int .i64 (k.1 : Nat))]) (fun k Hl => k.1 ≤ l.length ∧ k.2.length = l.length + 1 ∧ (∀ j, j < k.1 → k.2.getD (j + 1) default = ends (l.getD j default).op) ∧ Own 1 EBool 4 #[] H.size Hl (.slice (some ⟨Array.size H1, 0, none⟩) ((l.length + 1 : Nat) : Int).toNat ((l.length + 1 : Nat) : Int).toNat) k.2 ∧ Old H Hl) (fun k => l.length - k.1) (0, b0.set 0 true) ?_ ?_ ?_
    · exact (Sub.cons rfl (Ext.sub (Ext.refl _ _)))
    · exact ⟨Nat.zero_le _, by rw [List.length_set]; exact bl, fun j hj => by omega, wb, o0⟩
    · rintro ⟨k, bs⟩ H4 ⟨hk, hbl, hbv, wb, o0⟩
      have zl_H4 := o0.1
      dsimp only at hk hbl hbv wb
      have zl := o0.1
      have hvb := hvb
      have htb2 := (wb.lt.resolve_left (by simp)).2
      refine KC.seq ?_
      refine KC.region ?_
      refine KL.op (R.lss rfl rfl rfl) rfl rfl rfl ?_
      refine KL.nil ?_
      refine KQ.seq ?_
      refine KC.seq ?_
      refine KC.iteL rfl ?_ ?_
      · intro hc28
        try simp only [decide_eq_true_eq, decide_eq_false_iff_not, Bool.not_eq_true', Bool.not_eq_false', Bool.and_eq_true, Bool.or_eq_false_iff] at hc28
        obtain ⟨u, hcx, hu, hx1, hx2, hx3, hx4⟩ := hs.insAt k (by omega)
        refine KC.skip ?_
        refine KQ.seq ?_
        refine KC.seq ?_
        refine KC.block ?_
        refine KC.seq ?_
        refine KC.region ?_
        refine KL.op (R.move rfl rfl) rfl rfl rfl ?_
        refine KL.op (R.index (j := k) rfl Try.underlying22 sz41 rfl rfl hs rfl (by omega)) rfl rfl rfl ?_
        refine KL.op (R.loadAgg rfl Try.underlying41 rfl sz41 rfl (o0.cells hcx) rfl) rfl rfl rfl ?_
        refine KL.opM (M.alloc rfl zr41 rfl) rfl rfl rfl ?_
        rintro _ H5 ⟨rfl, n5⟩
        have z5 := n5.2.1
        have o0 := o0.trans n5.1
        have wb := wb.old n5.1
        have b5 := n5.2.2
        have bx := b5
        refine KL.op (R.assign rfl rfl) rfl rfl rfl ?_
        have hu1 := hu.one
        refine KL.opS (S.storeAgg rfl sz41 rfl rfl (rfl) (by intro u hu; simp only [List.mem_cons, List.not_mem_nil, or_false] at hu; rcases hu with rfl | rfl | rfl | rfl | rfl <;> first | rfl | exact hu1) bx (by simp)) rfl rfl ?_
        rintro H6 ⟨u6, b6⟩
        have o0 := o0.upd u6 (by omega)
        have zu6 := u6.1
        have wb := wb.upd u6 (by first | exact .inl rfl | exact .inr (by omega) | exact wplt.imp id (fun h => by omega) | exact wlt.imp id (fun h => by omega) | exact wb.lt.imp id (fun h => by omega))
        have bx := b6
        rw [over_all (by rfl)] at bx
        refine KL.nil ?_
        refine KQ.seq ?_
        refine KC.region ?_
        refine KL.op (R.move rfl rfl) rfl rfl rfl ?_
        refine KL.op (R.move rfl rfl) rfl rfl rfl ?_
        refine KL.op ((R.add rfl rfl rfl (by dsimp only [InR]; omega)).val (congrArg (Value.int .i64) (show (k : Int) + 1 = ((k + 1 : Nat) : Int) by omega))) rfl rfl rfl ?_
        refine KL.op ((by first | exact R.fieldAddr rfl Try.underlying41 rfl rfl sz5 rfl | exact R.fieldAddrP rfl Try.underlying41 rfl rfl sz5 rfl)) rfl rfl rfl ?_
        refine KL.op (R.load rfl Try.underlying5 rfl rfl (cell_of bx rfl)) rfl rfl rfl ?_
        refine KL.call rfl rfl rfl rfl Try.call9 rfl rfl rfl (Ends_k _) ?_
        rintro _ _ ⟨rfl, rfl⟩
        refine KL.op (R.indexO1 (j := k + 1) rfl Try.underlying43 sz4 rfl rfl wb (by omega) (by omega)) rfl rfl rfl ?_
        refine KL.opS (S.own1 rfl sz4 rfl rfl rfl rfl wb (by omega) rfl) rfl rfl ?_
        rintro H7 ⟨u7, w7⟩
        have o0 := o0.upd u7 (by omega)
        have zu7 := u7.1
        have bx := ((u7).2 _ (by omega)).trans bx
        have wb := w7
        refine KL.nil ?_
        refine KQ.normBlock ?_
        refine KQ.seq ?_
        refine KC.region ?_
        refine KL.op ((R.add rfl rfl rfl (by dsimp only [InR]; omega)).val (congrArg (Value.int .i64) (show (k : Int) + 1 = ((k + 1 : Nat) : Int) by omega))) rfl rfl rfl ?_
        refine KL.op (R.move rfl rfl) rfl rfl rfl ?_
        refine KL.nil ?_
        refine KQ.again ((k + 1, bs.set (k + 1) (ends (l.getD k default).op))) ?_ ?_ ?_
        · exact (Sub.cons rfl (Ext.sub (by repeat (first | exact Ext.refl _ _ | refine Ext.put rfl ?_ | refine Ext.drop rfl ?_))))
        · show l.length - (k + 1) < l.length - k; omega
        · exact ⟨by show k + 1 ≤ _; omega, by show (bs.set _ _).length = _; rw [List.length_set]; exact hbl, fun j hj => by
              show (bs.set _ _).getD (j + 1) default = _
              have hj : j < k + 1 := hj
              rw [getD_set (by omega)]
              split
              · next e => have : j = k := by omega
                          subst this; rfl
              · exact hbv j (by omega), wb, o0⟩
      · intro hc28
        try simp only [decide_eq_true_eq, decide_eq_false_iff_not, Bool.not_eq_true', Bool.not_eq_false', Bool.and_eq_true, Bool.or_eq_false_iff] at hc28
        have hkl : k = l.length := by omega
        subst hkl
        refine KC.exit ?_
        refine KQ.exitThen ?_
        refine KQ.exitThen ?_
        refine KQ.hit ?_
        refine KQ.seq ?_
        refine KC.seq ?_
        refine KC.region ?_
        refine KL.op (R.move rfl rfl) rfl rfl rfl ?_
        refine KL.op (R.lenS rfl Try.underlying22 rfl hs) rfl rfl rfl ?_
        refine KL.op ((R.add rfl rfl rfl (by dsimp only [InR]; omega)).val (congrArg (Value.int .i64) (show (l.length : Int) + 1 = ((l.length + 1 : Nat) : Int) by omega))) rfl rfl rfl ?_
        have zrc := o0.1
        refine KL.opM (M.make rfl Try.underlying44 inf29 rfl rfl rfl (by omega) (by omega) (by omega) (by omega)) rfl rfl rfl ?_
        rintro _ H8 ⟨rfl, n8⟩
        have z8 := n8.2.1
        have o0 := o0.trans n8.1
        have wb := wb.old n8.1
        have b8 := n8.2.2
        have wc := Own.made (E := EInt .u64) (H0 := #[]) (B := H.size) (x := 0) n8 (by omega) (by unfold maxLen; simp; omega) ⟨rfl, by dsimp only [InR]; omega⟩
        obtain ⟨c0, cl, cv, wc⟩ : ∃ r : List Int, r.length = l.length + 1 ∧ (∀ x, r.getD x default = 0) ∧ Own 1 (EInt .u64) 29 #[] H.size H8 (.slice (some ⟨Array.size H4, 0, none⟩) ((l.length + 1 : Nat) : Int).toNat ((l.length + 1 : Nat) : Int).toNat) r := ⟨_, List.length_replicate, fun x => getD_replicate trivial x, wc⟩
        have hvc : vblock (.slice (some ⟨Array.size H4, 0, none⟩) ((l.length + 1 : Nat) : Int).toNat ((l.length + 1 : Nat) : Int).toNat) = Array.size H4 := rfl
        have htc : vblock (.slice (some ⟨Array.size H4, 0, none⟩) ((l.length + 1 : Nat) : Int).toNat ((l.length + 1 : Nat) : Int).toNat) < Array.size H8 := (wc.lt.resolve_left (by simp)).2
        refine KL.op (R.assign rfl rfl) rfl rfl rfl ?_
        refine KL.nil ?_
        refine KQ.seq ?_
        refine KC.seq ?_
        refine KC.seq ?_
        refine KC.region ?_
        refine KL.op (R.move rfl rfl) rfl rfl rfl ?_
        have zP := o0.1
        refine KL.call rfl rfl rfl rfl Try.call7 rfl rfl rfl (Parts_k (hs.old o0) (by omega)) ?_
        rintro vp H9 ⟨wp, ox⟩
        have zc_H9 := (ox).1
        have o0 := o0.trans ox
        have wb := wb.old ox
        have wc := wc.old ox
        have wplt := wp.lt
        refine KL.op (R.lenO rfl Try.underlying24 rfl wp) rfl rfl rfl ?_
        refine KL.op (R.move rfl rfl) rfl rfl rfl ?_
        refine KL.nil ?_
        refine KQ.seq ?_
        refine KC.block ?_
        refine KC.loopD (κ := Nat × List Int) [48, 49, 50, 8, 51, 52, 53, 54, 55, 56, 57, 58, 59, 60, 47] (fun k => [(47, .int .i64 (k.1 : Nat))]) (fun k Hl => k.1 ≤ (parts l).length ∧ k.2.length = l.length + 1 ∧ (∀ x, x ≤ l.length → k.2.getD x default = at1 ((parts l).take k.1) x) ∧ Own 1 EBool 4 #[] H.size Hl (.slice (some ⟨Array.size H1, 0, none⟩) ((l.length + 1 : Nat) : Int).toNat ((l.length + 1 : Nat) : Int).toNat) bs ∧ Own 1 (EInt .u64) 29 #[] H.size Hl (.slice (some ⟨Array.size H4, 0, none⟩) ((l.length + 1 : Nat) : Int).toNat ((l.length + 1 : Nat) : Int).toNat) k.2 ∧ Own 3 EPt 31 #[] (Array.size H8) Hl vp (parts l) ∧ Old H Hl ∧ Array.size H8 ≤ Hl.size) (fun k => (parts l).length - k.1) (0, c0) ?_ ?_ ?_
        · exact (Sub.cons rfl (Ext.sub (Ext.refl _ _)))
        · exact ⟨Nat.zero_le _, cl, fun x _ => cv x, wb, wc, wp, o0, by omega⟩
        · rintro ⟨k, cs⟩ H10 ⟨hk, hcl, hcv, wb, wc, wp, o0, zPl⟩
          have zl_H10 := o0.1
          dsimp only at hk hcl hcv wc
          have zl := o0.1
          have hvb := hvb
          have hvc := hvc
          have wplt := wp.lt
          refine KC.seq ?_
          refine KC.region ?_
          refine KL.op (R.lss rfl rfl rfl) rfl rfl rfl ?_
          refine KL.nil ?_
          refine KQ.seq ?_
          refine KC.seq ?_
          refine KC.iteL rfl ?_ ?_
          · intro hc48
            try simp only [decide_eq_true_eq, decide_eq_false_iff_not, Bool.not_eq_true', Bool.not_eq_false', Bool.and_eq_true, Bool.or_eq_false_iff] at hc48
            have sp := wp.sl (emptyOld _) (by decide)
            obtain ⟨hcp, hpr⟩ := sp.ptAt k (by omega)
            obtain ⟨g1, g2, g3, g4⟩ := at1_room (x := ((parts l).getD k default).a) (show k < (parts l).length by omega)
            have hcva := hcv ((parts l).getD k default).a (by omega)
            rw [← hcva] at g1 g3
            refine KC.skip ?_
            refine KQ.seq ?_
            refine KC.seq ?_
            refine KC.block ?_
            refine KC.seq ?_
            refine KC.region ?_
            refine KL.op (R.index (j := k) rfl Try.underlying24 sz31 rfl rfl sp rfl (by omega)) rfl rfl rfl ?_
            refine KL.op (R.loadAgg rfl Try.underlying31 rfl sz31 rfl hcp rfl) rfl rfl rfl ?_
            refine KL.opM (M.alloc rfl zr31 rfl) rfl rfl rfl ?_
            rintro _ H11 ⟨rfl, n11⟩
            have z11 := n11.2.1
            have o0 := o0.trans n11.1
            have wb := wb.old n11.1
            have wc := wc.old n11.1
            have wp := wp.old n11.1
            have b11 := n11.2.2
            have bp := b11
            refine KL.opS (S.storeAgg (us := ((parts l).getD k default).cells) rfl sz31 rfl rfl (rfl) (by exact pt_one) bp (by simp [Pt.cells])) rfl rfl ?_
            rintro H12 ⟨u12, b12⟩
            have o0 := o0.upd u12 (by omega)
            have zu12 := u12.1
            have wb := wb.upd u12 (by first | exact .inl rfl | exact .inr (by omega) | exact wplt.imp id (fun h => by omega) | exact wlt.imp id (fun h => by omega) | exact wb.lt.imp id (fun h => by omega))
            have wc := wc.upd u12 (by first | exact .inl rfl | exact .inr (by omega) | exact wplt.imp id (fun h => by omega) | exact wlt.imp id (fun h => by omega) | exact wc.lt.imp id (fun h => by omega))
            have wp := wp.upd u12 (by first | exact .inl rfl | exact .inr (by omega) | exact wplt.imp id (fun h => by omega) | exact wlt.imp id (fun h => by omega) | exact wp.lt.imp id (fun h => by omega))
            have bp := b12
            rw [over_all (by rfl)] at bp
            refine KL.nil ?_
            refine KQ.seq ?_
            refine KC.text (clOf [(2, 1), (4, 1), (6, 1), (9, 2)]) (fun _ _ => True) (by kernel_rfl) (by kernel_rfl) (fun _ => trivial) ?_
            refine KP.op rfl (fun Hg hg => R.move rfl rfl) rfl rfl rfl ?_
            refine KP.op rfl (fun Hg hg => (by first | exact R.fieldAddr rfl Try.underlying31 rfl rfl sz3 rfl | exact R.fieldAddrP rfl Try.underlying31 rfl rfl sz3 rfl)) rfl rfl rfl ?_
            refine KP.now rfl (R.load rfl Try.underlying3 rfl rfl (by first | exact cell_of bp rfl | assumption)) rfl rfl rfl ?_
            refine KP.op rfl (fun Hg hg => R.indexO1 (j := ((parts l).getD k default).a) rfl Try.underlying44 sz29 rfl rfl wc (by omega) (by omega)) rfl rfl rfl ?_
            refine KP.now rfl (R.load rfl Try.underlying29 rfl rfl (wc.int (((parts l).getD k default).a) (by omega)).1) rfl rfl rfl ?_
            refine KP.op rfl (fun Hg hg => (by first | exact R.fieldAddr rfl Try.underlying31 rfl rfl sz29 rfl | exact R.fieldAddrP rfl Try.underlying31 rfl rfl sz29 rfl)) rfl rfl rfl ?_
            refine KP.now rfl (R.load rfl Try.underlying29 rfl rfl (by first | exact cell_of bp rfl | assumption)) rfl rfl rfl ?_
            refine KP.op rfl (fun Hg hg => R.add rfl rfl rfl (by dsimp only [InR]; omega)) rfl rfl rfl ?_
            refine KP.op rfl (fun Hg hg => R.indexO1 (j := ((parts l).getD k default).a) rfl Try.underlying44 sz29 rfl rfl wc (by omega) (by omega)) rfl rfl rfl ?_
            refine KP.opS rfl (S.own1 rfl sz29 rfl rfl rfl rfl wc (by omega) ⟨rfl, by dsimp only [InR]; omega⟩) rfl rfl (fun _ _ _ _ _ => trivial) ?_
            rintro H13 ⟨u13, w13⟩
            have o0 := o0.upd u13 (by omega)
            have zu13 := u13.1
            have wb := wb.upd u13 (by first | exact .inl rfl | exact .inr (by omega) | exact wplt.imp id (fun h => by omega) | exact wlt.imp id (fun h => by omega) | exact wb.lt.imp id (fun h => by omega))
            have wp := wp.upd u13 (by first | exact .inl rfl | exact .inr (by omega) | exact wplt.imp id (fun h => by omega) | exact wlt.imp id (fun h => by omega) | exact wp.lt.imp id (fun h => by omega))
            have bp := ((u13).2 _ (by omega)).trans bp
            have wc := w13
            refine KP.nil ?_
            refine KQ.normBlock ?_
            refine KQ.seq ?_
            refine KC.region ?_
            refine KL.op ((R.add rfl rfl rfl (by dsimp only [InR]; omega)).val (congrArg (Value.int .i64) (show (k : Int) + 1 = ((k + 1 : Nat) : Int) by omega))) rfl rfl rfl ?_
            refine KL.op (R.move rfl rfl) rfl rfl rfl ?_
            refine KL.nil ?_
            refine KQ.again ((k + 1, cs.set ((parts l).getD k default).a (cs.getD ((parts l).getD k default).a default + ((parts l).getD k default).c))) ?_ ?_ ?_
            · exact (Sub.cons rfl (Ext.sub (by repeat (first | exact Ext.refl _ _ | refine Ext.put rfl ?_ | refine Ext.drop rfl ?_))))
            · show (parts l).length - (k + 1) < (parts l).length - k; omega
            · exact ⟨by show k + 1 ≤ _; omega, by show (cs.set _ _).length = _; rw [List.length_set]; exact hcl, fun x hx => by
                  show (cs.set _ _).getD x default = at1 ((parts l).take (k + 1)) x
                  rw [getD_set (by omega), at1_part (by omega)]
                  split
                  · next e => rw [if_pos e.symm, e, hcv _ (by omega)]
                  · next e => rw [if_neg (fun h => e h.symm), hcv _ hx]; omega, wb, wc, wp, o0, by omega⟩
          · intro hc48
            try simp only [decide_eq_true_eq, decide_eq_false_iff_not, Bool.not_eq_true', Bool.not_eq_false', Bool.and_eq_true, Bool.or_eq_false_iff] at hc48
            have hkl : k = (parts l).length := by omega
            subst hkl
            rw [List.take_length] at hcv
            refine KC.exit ?_
            refine KQ.exitThen ?_
            refine KQ.exitThen ?_
            refine KQ.hit ?_
            refine KQ.seq ?_
            refine KC.seq ?_
            refine KC.seq ?_
            refine KC.region ?_
            refine KL.op (R.move rfl rfl) rfl rfl rfl ?_
            refine KL.op (R.lenS rfl Try.underlying22 rfl hs) rfl rfl rfl ?_
            refine KL.op (R.move rfl rfl) rfl rfl rfl ?_
            refine KL.nil ?_
            refine KQ.seq ?_
            refine KC.block ?_
            refine KC.loopD (κ := Nat × List Int) [64, 65, 9, 66, 67, 68, 69, 70, 71, 72, 73, 74, 75, 76, 77, 63] (fun k => [(63, .int .i64 (k.1 : Nat))]) (fun k Hl => k.1 ≤ l.length ∧ k.2.length = l.length + 1 ∧ (∀ x, x ≤ l.length → k.2.getD x default = mix (parts l) k.1 x) ∧ Own 1 EBool 4 #[] H.size Hl (.slice (some ⟨Array.size H1, 0, none⟩) ((l.length + 1 : Nat) : Int).toNat ((l.length + 1 : Nat) : Int).toNat) bs ∧ Own 1 (EInt .u64) 29 #[] H.size Hl (.slice (some ⟨Array.size H4, 0, none⟩) ((l.length + 1 : Nat) : Int).toNat ((l.length + 1 : Nat) : Int).toNat) k.2 ∧ Old H Hl ∧ Array.size H8 ≤ Hl.size) (fun k => l.length - k.1) (0, cs) ?_ ?_ ?_
            · exact (Sub.cons rfl (Ext.sub (Ext.refl _ _)))
            · exact ⟨Nat.zero_le _, hcl, fun x hx => (hcv x hx).trans (mix_zero _ _).symm, wb, wc, o0, by omega⟩
            · rintro ⟨k, cs2⟩ H14 ⟨hk, hcl, hcv, wb, wc, o0, zPl⟩
              have zl_H14 := o0.1
              dsimp only at hk hcl hcv wc
              have zl := o0.1
              have hvb := hvb
              have hvc := hvc
              refine KC.seq ?_
              refine KC.region ?_
              refine KL.op (R.lss rfl rfl rfl) rfl rfl rfl ?_
              refine KL.nil ?_
              refine KQ.seq ?_
              refine KC.seq ?_
              refine KC.iteL rfl ?_ ?_
              · intro hc64
                try simp only [decide_eq_true_eq, decide_eq_false_iff_not, Bool.not_eq_true', Bool.not_eq_false', Bool.and_eq_true, Bool.or_eq_false_iff] at hc64
                have g1 := mix_room l k (k + 1)
                have g2 := mix_room l (k + 1) (k + 1)
                have g3 := mix_step (parts l) k
                have g4 := mix_room l k k
                have e1 := hcv (k + 1) (by omega)
                have e2 := hcv k (by omega)
                refine KC.skip ?_
                refine KQ.seq ?_
                refine KC.seq ?_
                refine KC.block ?_
                refine KC.seq ?_
                refine KC.region ?_
                refine KL.op (R.move rfl rfl) rfl rfl rfl ?_
                refine KL.op (R.assign rfl rfl) rfl rfl rfl ?_
                refine KL.nil ?_
                refine KQ.seq ?_
                refine KC.text (clOf [(4, 1), (8, 1), (11, 2)]) (fun _ _ => True) (by kernel_rfl) (by kernel_rfl) (fun _ => trivial) ?_
                refine KP.op rfl (fun Hg hg => R.move rfl rfl) rfl rfl rfl ?_
                refine KP.op rfl (fun Hg hg => R.move rfl rfl) rfl rfl rfl ?_
                refine KP.op rfl (fun Hg hg => (R.add rfl rfl rfl (by dsimp only [InR]; omega)).val (congrArg (Value.int .i64) (show (k : Int) + 1 = ((k + 1 : Nat) : Int) by omega))) rfl rfl rfl ?_
                refine KP.op rfl (fun Hg hg => R.indexO1 (j := k + 1) rfl Try.underlying44 sz29 rfl rfl wc (by omega) (by omega)) rfl rfl rfl ?_
                refine KP.now rfl (R.load rfl Try.underlying29 rfl rfl (wc.int (k + 1) (by omega)).1) rfl rfl rfl ?_
                refine KP.op rfl (fun Hg hg => R.move rfl rfl) rfl rfl rfl ?_
                refine KP.op rfl (fun Hg hg => R.move rfl rfl) rfl rfl rfl ?_
                refine KP.op rfl (fun Hg hg => R.indexO1 (j := k) rfl Try.underlying44 sz29 rfl rfl wc (by omega) (by omega)) rfl rfl rfl ?_
                refine KP.now rfl (R.load rfl Try.underlying29 rfl rfl (wc.int (k) (by omega)).1) rfl rfl rfl ?_
                refine KP.op rfl (fun Hg hg => R.add rfl rfl rfl (by dsimp only [InR]; omega)) rfl rfl rfl ?_
                refine KP.op rfl (fun Hg hg => R.indexO1 (j := k + 1) rfl Try.underlying44 sz29 rfl rfl wc (by omega) (by omega)) rfl rfl rfl ?_
                refine KP.opS rfl (S.own1 rfl sz29 rfl rfl rfl rfl wc (by omega) ⟨rfl, by dsimp only [InR]; omega⟩) rfl rfl (fun _ _ _ _ _ => trivial) ?_
                rintro H15 ⟨u15, w15⟩
                have o0 := o0.upd u15 (by omega)
                have zu15 := u15.1
                have wb := wb.upd u15 (by first | exact .inl rfl | exact .inr (by omega) | exact wplt.imp id (fun h => by omega) | exact wlt.imp id (fun h => by omega) | exact wb.lt.imp id (fun h => by omega))
                have wc := w15
                refine KP.nil ?_
                refine KQ.normBlock ?_
                refine KQ.seq ?_
                refine KC.region ?_
                refine KL.op ((R.add rfl rfl rfl (by dsimp only [InR]; omega)).val (congrArg (Value.int .i64) (show (k : Int) + 1 = ((k + 1 : Nat) : Int) by omega))) rfl rfl rfl ?_
                refine KL.op (R.move rfl rfl) rfl rfl rfl ?_
                refine KL.nil ?_
                refine KQ.again ((k + 1, cs2.set (k + 1) (cs2.getD (k + 1) default + cs2.getD k default))) ?_ ?_ ?_
                · exact (Sub.cons rfl (Ext.sub (by repeat (first | exact Ext.refl _ _ | refine Ext.put rfl ?_ | refine Ext.drop rfl ?_))))
                · show l.length - (k + 1) < l.length - k; omega
                · exact ⟨by show k + 1 ≤ _; omega, by show (cs2.set _ _).length = _; rw [List.length_set]; exact hcl, fun x hx => by
                      show (cs2.set _ _).getD x default = mix (parts l) (k + 1) x
                      rw [getD_set (by omega)]
                      split
                      · next e => rw [e, hcv _ (by omega), hcv _ (by omega)]; exact mix_step _ _
                      · next e => rw [hcv _ hx]; exact (mix_else e).symm, wb, wc, o0, by omega⟩
              · intro hc64
                try simp only [decide_eq_true_eq, decide_eq_false_iff_not, Bool.not_eq_true', Bool.not_eq_false', Bool.and_eq_true, Bool.or_eq_false_iff] at hc64
                have hkl : k = l.length := by omega
                subst hkl
                have hcu : ∀ x, x ≤ l.length → cs2.getD x default = upto (parts l) x := fun x hx => (hcv x hx).trans (by unfold mix; rw [if_pos hx])
                have htb2 := (wb.lt.resolve_left (by simp)).2
                have htc2 := (wc.lt.resolve_left (by simp)).2
                refine KC.exit ?_
                refine KQ.exitThen ?_
                refine KQ.exitThen ?_
                refine KQ.hit ?_
                refine KQ.seq ?_
                refine KC.seq ?_
                refine KC.region ?_
                refine KL.op (R.assign rfl rfl) rfl rfl rfl ?_
                refine KL.nil ?_
                refine KQ.seq ?_
                refine KC.seq ?_
                refine KC.seq ?_
                refine KC.region ?_
                refine KL.op (R.move rfl rfl) rfl rfl rfl ?_
                refine KL.op (R.lenS rfl Try.underlying22 rfl hs) rfl rfl rfl ?_
                refine KL.op (R.move rfl rfl) rfl rfl rfl ?_
                refine KL.nil ?_
                refine KQ.seq ?_
                refine KC.block ?_
                have zS := o0.1
                refine KC.loopD (κ := Nat × Value × List Int) [81, 82, 83, 84, 12, 11, 85, 86, 88, 87, 89, 90, 91, 92, 93, 94, 10, 96, 95, 97, 98, 99, 2, 100, 101, 102, 103, 104, 105, 106, 107, 108, 109, 110, 112, 111, 113, 114, 115, 116, 117, 118, 119, 120, 121, 122, 123, 124, 125, 126, 127, 128, 129, 130, 13, 131, 132, 133, 134, 135, 136, 137, 138, 139, 140, 141, 142, 143, 144, 145, 146, 147, 148, 149, 150, 151, 152, 153, 154, 155, 156, 80] (fun k => [(80, .int .i64 (k.1 : Nat)), (10, k.2.1)]) (fun k Hl => k.1 ≤ l.length ∧ k.2.2.length ≤ k.1 ∧ (∀ x ∈ k.2.2, 0 ≤ x ∧ x < (k.1 : Nat)) ∧ Own 1 (EInt .i64) 3 #[] (Array.size H14) Hl k.2.1 k.2.2 ∧ Own 1 EBool 4 #[] H.size Hl (.slice (some ⟨Array.size H1, 0, none⟩) ((l.length + 1 : Nat) : Int).toNat ((l.length + 1 : Nat) : Int).toNat) bs ∧ Own 1 (EInt .u64) 29 #[] H.size Hl (.slice (some ⟨Array.size H4, 0, none⟩) ((l.length + 1 : Nat) : Int).toNat ((l.length + 1 : Nat) : Int).toNat) cs2 ∧ Old H Hl ∧ Array.size H14 ≤ Hl.size) (fun k => l.length - k.1) (0, .slice none 0 0, []) ?_ ?_ ?_
                · exact (Sub.cons rfl (Sub.cons rfl (Ext.sub (Ext.refl _ _))))
                · exact ⟨Nat.zero_le _, Nat.le_refl _, (fun x hx => by cases hx), Own.nil _ _ _ _ _ _, wb, wc, o0, Nat.le_refl _⟩
                · rintro ⟨k, vs, ss⟩ H16 ⟨hk, hsl, hsr, ws, wb, wc, o0, zSl⟩
                  have zl_H16 := o0.1
                  dsimp only at hk hsl hsr ws
                  have zl := o0.1
                  have hvb := hvb
                  have htb2 := htb2
                  have wlt := ws.lt
                  refine KC.seq ?_
                  refine KC.region ?_
                  refine KL.op (R.lss rfl rfl rfl) rfl rfl rfl ?_
                  refine KL.nil ?_
                  refine KQ.seq ?_
                  refine KC.seq ?_
                  refine KC.iteL rfl ?_ ?_
                  · intro hc81
                    try simp only [decide_eq_true_eq, decide_eq_false_iff_not, Bool.not_eq_true', Bool.not_eq_false', Bool.and_eq_true, Bool.or_eq_false_iff] at hc81
                    obtain ⟨u, hcx, hu, hx1, hx2, hx3, hx4⟩ := hs.insAt k (by omega)
                    have hx2r := hx2
                    dsimp only [InR] at hx2r
                    refine KC.skip ?_
                    refine KQ.seq ?_
                    refine KC.seq ?_
                    refine KC.block ?_
                    refine KC.seq ?_
                    refine KC.region ?_
                    refine KL.op (R.move rfl rfl) rfl rfl rfl ?_
                    refine KL.op (R.index (j := k) rfl Try.underlying22 sz41 rfl rfl hs rfl (by omega)) rfl rfl rfl ?_
                    refine KL.op (R.loadAgg rfl Try.underlying41 rfl sz41 rfl (o0.cells hcx) rfl) rfl rfl rfl ?_
                    refine KL.opM (M.alloc rfl zr41 rfl) rfl rfl rfl ?_
                    rintro _ H17 ⟨rfl, n17⟩
                    have z17 := n17.2.1
                    have o0 := o0.trans n17.1
                    have ws := ws.old n17.1
                    have wb := wb.old n17.1
                    have wc := wc.old n17.1
                    have b17 := n17.2.2
                    have bx := b17
                    refine KL.op (R.assign rfl rfl) rfl rfl rfl ?_
                    have hu1 := hu.one
                    refine KL.opS (S.storeAgg rfl sz41 rfl rfl (rfl) (by intro u hu; simp only [List.mem_cons, List.not_mem_nil, or_false] at hu; rcases hu with rfl | rfl | rfl | rfl | rfl <;> first | rfl | exact hu1) bx (by simp)) rfl rfl ?_
                    rintro H18 ⟨u18, b18⟩
                    have o0 := o0.upd u18 (by omega)
                    have zu18 := u18.1
                    have ws := ws.upd u18 (by first | exact .inl rfl | exact .inr (by omega) | exact wplt.imp id (fun h => by omega) | exact wlt.imp id (fun h => by omega) | exact ws.lt.imp id (fun h => by omega))
                    have wb := wb.upd u18 (by first | exact .inl rfl | exact .inr (by omega) | exact wplt.imp id (fun h => by omega) | exact wlt.imp id (fun h => by omega) | exact wb.lt.imp id (fun h => by omega))
                    have wc := wc.upd u18 (by first | exact .inl rfl | exact .inr (by omega) | exact wplt.imp id (fun h => by omega) | exact wlt.imp id (fun h => by omega) | exact wc.lt.imp id (fun h => by omega))
                    have bx := b18
                    rw [over_all (by rfl)] at bx
                    refine KL.nil ?_
                    refine KQ.seq ?_
                    refine KC.seq ?_
                    refine KC.region ?_
                    refine KL.op ((by first | exact R.fieldAddr rfl Try.underlying41 rfl rfl sz5 rfl | exact R.fieldAddrP rfl Try.underlying41 rfl rfl sz5 rfl)) rfl rfl rfl ?_
                    refine KL.op (R.load rfl Try.underlying5 rfl rfl (cell_of bx rfl)) rfl rfl rfl ?_
                    refine KL.nil ?_
                    refine KQ.seq ?_
                    refine KC.block ?_
                    refine KC.seq ?_
                    refine KC.seq ?_
                    refine KC.region ?_
                    refine KL.op (R.eql rfl rfl rfl) rfl rfl rfl ?_
                    refine KL.op (R.assign rfl rfl) rfl rfl rfl ?_
                    refine KL.nil ?_
                    refine KQ.seq ?_
                    refine KC.iteL rfl ?_ ?_
                    · intro hc87
                      try simp only [decide_eq_true_eq, decide_eq_false_iff_not, Bool.not_eq_true', Bool.not_eq_false', Bool.and_eq_true, Bool.or_eq_false_iff] at hc87
                      refine KC.skip ?_
                      refine KQ.seq ?_
                      refine KC.condT rfl ?_
                      refine KC.region ?_
                      refine KL.op (R.move rfl rfl) rfl rfl rfl ?_
                      refine KL.op (R.move rfl rfl) rfl rfl rfl ?_
                      refine KL.opM (M.lit rfl Try.underlying45 zs3 (by decide) rfl rfl rfl) rfl rfl rfl ?_
                      rintro _ H19 ⟨rfl, n19⟩
                      have z19 := n19.2.1
                      have o0 := o0.trans n19.1
                      have ws := ws.old n19.1
                      have wb := wb.old n19.1
                      have wc := wc.old n19.1
                      have bx := (n19.1).blk bx
                      have b19 := n19.2.2
                      have h1 : Sl 1 (EInt .i64) H19 _ [(k : Int)] := Sl.lits (l := [(k : Int)]) n19 rfl (by simp) (by intro x hx; simp at hx; subst hx; dsimp only [InR]; omega)
                      have lt20 := ws.lt
                      refine KL.opM (M.append rfl Try.underlying45 inf3 rfl (by decide) rfl rfl ws (by exact h1) (fun _ _ h _ => h) (by omega) (by simp; omega) (by unfold maxLen; simp; omega)) rfl rfl rfl ?_
                      rintro vn H20 ⟨w20, g20⟩
                      try dsimp only at g20
                      have ob20 := g20.oldB ws (by omega)
                      have o0 := o0.then ob20 (by omega)
                      have z20 := ob20.1
                      have wb := wb.keep (g20.2 _ (by omega) (by first | exact .inr (by omega) | exact .inl rfl | exact lt20.imp id (fun h => by omega)))
                      have wc := wc.keep (g20.2 _ (by omega) (by first | exact .inr (by omega) | exact .inl rfl | exact lt20.imp id (fun h => by omega)))
                      have bx := (g20.2 _ (blk_lt bx) (by first | exact .inr (by omega) | exact .inl rfl | exact wplt.imp id (fun h => by omega) | exact wlt.imp id (fun h => by omega) | exact lt20.imp id (fun h => by omega))).trans bx
                      have ws := w20
                      refine KL.op (R.assign rfl rfl) rfl rfl rfl ?_
                      refine KL.nil ?_
                      refine KQ.normBlock ?_
                      refine KQ.normBlock ?_
                      refine KQ.seq ?_
                      refine KC.region ?_
                      refine KL.op ((R.add rfl rfl rfl (by dsimp only [InR]; omega)).val (congrArg (Value.int .i64) (show (k : Int) + 1 = ((k + 1 : Nat) : Int) by omega))) rfl rfl rfl ?_
                      refine KL.op (R.move rfl rfl) rfl rfl rfl ?_
                      refine KL.nil ?_
                      refine KQ.again ((k + 1, vn, ss ++ [(k : Int)])) ?_ ?_ ?_
                      · exact (Sub.cons rfl (Sub.cons rfl (Ext.sub (by repeat (first | exact Ext.refl _ _ | refine Ext.put rfl ?_ | refine Ext.drop rfl ?_)))))
                      · show l.length - (k + 1) < l.length - k; omega
                      · first
                          | exact ⟨by show k + 1 ≤ _; omega, by show ss.length ≤ k + 1; omega, fun x hx => ⟨(hsr x hx).1, by have := (hsr x hx).2; show x < ((k + 1 : Nat) : Int); omega⟩, ws, wb, wc, o0, by omega⟩
                          | exact ⟨by show k + 1 ≤ _; omega, by show (ss ++ [(k : Int)]).length ≤ k + 1; simp; omega, fun x hx => by
                              have hx : x ∈ ss ++ [(k : Int)] := hx
                              show 0 ≤ x ∧ x < ((k + 1 : Nat) : Int)
                              rcases List.mem_append.1 hx with hx | hx
                              · have := hsr x hx; omega
                              · simp at hx; omega, ws, wb, wc, o0, by omega⟩
                          | exact ⟨by show k + 1 ≤ _; omega, by show (ss.take (ss.length - 1)).length ≤ k + 1; rw [List.length_take]; omega, fun x hx => by have := hsr x (List.mem_of_mem_take hx); show 0 ≤ x ∧ x < ((k + 1 : Nat) : Int); omega, (ws.to (j := ss.length - 1) (by omega)).1, wb, wc, o0, by omega⟩
                    · intro hc87
                      try simp only [decide_eq_true_eq, decide_eq_false_iff_not, Bool.not_eq_true', Bool.not_eq_false', Bool.and_eq_true, Bool.or_eq_false_iff] at hc87
                      refine KC.seq ?_
                      refine KC.region ?_
                      refine KL.op (R.eql rfl rfl rfl) rfl rfl rfl ?_
                      refine KL.op (R.assign rfl rfl) rfl rfl rfl ?_
                      refine KL.nil ?_
                      refine KQ.seq ?_
                      refine KC.iteL rfl ?_ ?_
                      · intro hc87
                        try simp only [decide_eq_true_eq, decide_eq_false_iff_not, Bool.not_eq_true', Bool.not_eq_false', Bool.and_eq_true, Bool.or_eq_false_iff] at hc87
                        refine KC.skip ?_
                        refine KQ.seq ?_
                        refine KC.condT rfl ?_
                        refine KC.region ?_
                        refine KL.op (R.move rfl rfl) rfl rfl rfl ?_
                        refine KL.op (R.move rfl rfl) rfl rfl rfl ?_
                        refine KL.opM (M.lit rfl Try.underlying45 zs3 (by decide) rfl rfl rfl) rfl rfl rfl ?_
                        rintro _ H21 ⟨rfl, n21⟩
                        have z21 := n21.2.1
                        have o0 := o0.trans n21.1
                        have ws := ws.old n21.1
                        have wb := wb.old n21.1
                        have wc := wc.old n21.1
                        have bx := (n21.1).blk bx
                        have b21 := n21.2.2
                        have h1 : Sl 1 (EInt .i64) H21 _ [(k : Int)] := Sl.lits (l := [(k : Int)]) n21 rfl (by simp) (by intro x hx; simp at hx; subst hx; dsimp only [InR]; omega)
                        have lt22 := ws.lt
                        refine KL.opM (M.append rfl Try.underlying45 inf3 rfl (by decide) rfl rfl ws (by exact h1) (fun _ _ h _ => h) (by omega) (by simp; omega) (by unfold maxLen; simp; omega)) rfl rfl rfl ?_
                        rintro vn H22 ⟨w22, g22⟩
                        try dsimp only at g22
                        have ob22 := g22.oldB ws (by omega)
                        have o0 := o0.then ob22 (by omega)
                        have z22 := ob22.1
                        have wb := wb.keep (g22.2 _ (by omega) (by first | exact .inr (by omega) | exact .inl rfl | exact lt22.imp id (fun h => by omega)))
                        have wc := wc.keep (g22.2 _ (by omega) (by first | exact .inr (by omega) | exact .inl rfl | exact lt22.imp id (fun h => by omega)))
                        have bx := (g22.2 _ (blk_lt bx) (by first | exact .inr (by omega) | exact .inl rfl | exact wplt.imp id (fun h => by omega) | exact wlt.imp id (fun h => by omega) | exact lt22.imp id (fun h => by omega))).trans bx
                        have ws := w22
                        refine KL.op (R.assign rfl rfl) rfl rfl rfl ?_
                        refine KL.nil ?_
                        refine KQ.normBlock ?_
                        refine KQ.normBlock ?_
                        refine KQ.seq ?_
                        refine KC.region ?_
                        refine KL.op ((R.add rfl rfl rfl (by dsimp only [InR]; omega)).val (congrArg (Value.int .i64) (show (k : Int) + 1 = ((k + 1 : Nat) : Int) by omega))) rfl rfl rfl ?_
                        refine KL.op (R.move rfl rfl) rfl rfl rfl ?_
                        refine KL.nil ?_
                        refine KQ.again ((k + 1, vn, ss ++ [(k : Int)])) ?_ ?_ ?_
                        · exact (Sub.cons rfl (Sub.cons rfl (Ext.sub (by repeat (first | exact Ext.refl _ _ | refine Ext.put rfl ?_ | refine Ext.drop rfl ?_)))))
                        · show l.length - (k + 1) < l.length - k; omega
                        · first
                            | exact ⟨by show k + 1 ≤ _; omega, by show ss.length ≤ k + 1; omega, fun x hx => ⟨(hsr x hx).1, by have := (hsr x hx).2; show x < ((k + 1 : Nat) : Int); omega⟩, ws, wb, wc, o0, by omega⟩
                            | exact ⟨by show k + 1 ≤ _; omega, by show (ss ++ [(k : Int)]).length ≤ k + 1; simp; omega, fun x hx => by
                                have hx : x ∈ ss ++ [(k : Int)] := hx
                                show 0 ≤ x ∧ x < ((k + 1 : Nat) : Int)
                                rcases List.mem_append.1 hx with hx | hx
                                · have := hsr x hx; omega
                                · simp at hx; omega, ws, wb, wc, o0, by omega⟩
                            | exact ⟨by show k + 1 ≤ _; omega, by show (ss.take (ss.length - 1)).length ≤ k + 1; rw [List.length_take]; omega, fun x hx => by have := hsr x (List.mem_of_mem_take hx); show 0 ≤ x ∧ x < ((k + 1 : Nat) : Int); omega, (ws.to (j := ss.length - 1) (by omega)).1, wb, wc, o0, by omega⟩
                      · intro hc87
                        try simp only [decide_eq_true_eq, decide_eq_false_iff_not, Bool.not_eq_true', Bool.not_eq_false', Bool.and_eq_true, Bool.or_eq_false_iff] at hc87
                        refine KC.region ?_
                        refine KL.op (R.eql rfl rfl rfl) rfl rfl rfl ?_
                        refine KL.op (R.assign rfl rfl) rfl rfl rfl ?_
                        refine KL.nil ?_
                        refine KQ.seq ?_
                        refine KC.iteL rfl ?_ ?_
                        · intro hc87
                          try simp only [decide_eq_true_eq, decide_eq_false_iff_not, Bool.not_eq_true', Bool.not_eq_false', Bool.and_eq_true, Bool.or_eq_false_iff] at hc87
                          refine KC.region ?_
                          refine KL.op (R.move rfl rfl) rfl rfl rfl ?_
                          refine KL.op (R.move rfl rfl) rfl rfl rfl ?_
                          refine KL.opM (M.lit rfl Try.underlying45 zs3 (by decide) rfl rfl rfl) rfl rfl rfl ?_
                          rintro _ H23 ⟨rfl, n23⟩
                          have z23 := n23.2.1
                          have o0 := o0.trans n23.1
                          have ws := ws.old n23.1
                          have wb := wb.old n23.1
                          have wc := wc.old n23.1
                          have bx := (n23.1).blk bx
                          have b23 := n23.2.2
                          have h1 : Sl 1 (EInt .i64) H23 _ [(k : Int)] := Sl.lits (l := [(k : Int)]) n23 rfl (by simp) (by intro x hx; simp at hx; subst hx; dsimp only [InR]; omega)
                          have lt24 := ws.lt
                          refine KL.opM (M.append rfl Try.underlying45 inf3 rfl (by decide) rfl rfl ws (by exact h1) (fun _ _ h _ => h) (by omega) (by simp; omega) (by unfold maxLen; simp; omega)) rfl rfl rfl ?_
                          rintro vn H24 ⟨w24, g24⟩
                          try dsimp only at g24
                          have ob24 := g24.oldB ws (by omega)
                          have o0 := o0.then ob24 (by omega)
                          have z24 := ob24.1
                          have wb := wb.keep (g24.2 _ (by omega) (by first | exact .inr (by omega) | exact .inl rfl | exact lt24.imp id (fun h => by omega)))
                          have wc := wc.keep (g24.2 _ (by omega) (by first | exact .inr (by omega) | exact .inl rfl | exact lt24.imp id (fun h => by omega)))
                          have bx := (g24.2 _ (blk_lt bx) (by first | exact .inr (by omega) | exact .inl rfl | exact wplt.imp id (fun h => by omega) | exact wlt.imp id (fun h => by omega) | exact lt24.imp id (fun h => by omega))).trans bx
                          have ws := w24
                          refine KL.op (R.assign rfl rfl) rfl rfl rfl ?_
                          refine KL.nil ?_
                          refine KQ.normBlock ?_
                          refine KQ.normBlock ?_
                          refine KQ.seq ?_
                          refine KC.region ?_
                          refine KL.op ((R.add rfl rfl rfl (by dsimp only [InR]; omega)).val (congrArg (Value.int .i64) (show (k : Int) + 1 = ((k + 1 : Nat) : Int) by omega))) rfl rfl rfl ?_
                          refine KL.op (R.move rfl rfl) rfl rfl rfl ?_
                          refine KL.nil ?_
                          refine KQ.again ((k + 1, vn, ss ++ [(k : Int)])) ?_ ?_ ?_
                          · exact (Sub.cons rfl (Sub.cons rfl (Ext.sub (by repeat (first | exact Ext.refl _ _ | refine Ext.put rfl ?_ | refine Ext.drop rfl ?_)))))
                          · show l.length - (k + 1) < l.length - k; omega
                          · first
                              | exact ⟨by show k + 1 ≤ _; omega, by show ss.length ≤ k + 1; omega, fun x hx => ⟨(hsr x hx).1, by have := (hsr x hx).2; show x < ((k + 1 : Nat) : Int); omega⟩, ws, wb, wc, o0, by omega⟩
                              | exact ⟨by show k + 1 ≤ _; omega, by show (ss ++ [(k : Int)]).length ≤ k + 1; simp; omega, fun x hx => by
                                  have hx : x ∈ ss ++ [(k : Int)] := hx
                                  show 0 ≤ x ∧ x < ((k + 1 : Nat) : Int)
                                  rcases List.mem_append.1 hx with hx | hx
                                  · have := hsr x hx; omega
                                  · simp at hx; omega, ws, wb, wc, o0, by omega⟩
                              | exact ⟨by show k + 1 ≤ _; omega, by show (ss.take (ss.length - 1)).length ≤ k + 1; rw [List.length_take]; omega, fun x hx => by have := hsr x (List.mem_of_mem_take hx); show 0 ≤ x ∧ x < ((k + 1 : Nat) : Int); omega, (ws.to (j := ss.length - 1) (by omega)).1, wb, wc, o0, by omega⟩
                        · intro hc87
                          try simp only [decide_eq_true_eq, decide_eq_false_iff_not, Bool.not_eq_true', Bool.not_eq_false', Bool.and_eq_true, Bool.or_eq_false_iff] at hc87
                          refine KC.seq ?_
                          refine KC.region ?_
                          refine KL.op (R.eql rfl rfl rfl) rfl rfl rfl ?_
                          refine KL.op (R.assign rfl rfl) rfl rfl rfl ?_
                          refine KL.nil ?_
                          refine KQ.seq ?_
                          refine KC.iteL rfl ?_ ?_
                          · intro hc95
                            try simp only [decide_eq_true_eq, decide_eq_false_iff_not, Bool.not_eq_true', Bool.not_eq_false', Bool.and_eq_true, Bool.or_eq_false_iff] at hc95
                            refine KC.seq ?_
                            refine KC.seq ?_
                            refine KC.region ?_
                            refine KL.op (R.move rfl rfl) rfl rfl rfl ?_
                            refine KL.op (R.lenO rfl Try.underlying45 rfl ws) rfl rfl rfl ?_
                            refine KL.op (R.eql rfl rfl rfl) rfl rfl rfl ?_
                            refine KL.nil ?_
                            refine KQ.seq ?_
                            refine KC.iteL rfl ?_ ?_
                            · intro hc99
                              try simp only [decide_eq_true_eq, decide_eq_false_iff_not, Bool.not_eq_true', Bool.not_eq_false', Bool.and_eq_true, Bool.or_eq_false_iff] at hc99
                              refine KC.seq ?_
                              refine KC.region ?_
                              refine KL.op (R.assign rfl rfl) rfl rfl rfl ?_
                              refine KL.nil ?_
                              refine KQ.seq ?_
                              refine KC.ret ?_
                              refine KQ.retThen ?_
                              refine KQ.retBlock ?_
                              refine KQ.retBlock ?_
                              refine KQ.retThen ?_
                              refine KQ.retThen ?_
                              refine KQ.retBlock ?_
                              refine KQ.retThen ?_
                              refine KQ.ofRet ?_
                              refine KQ.fin1 Try.results5 rfl ?_
                              exact ⟨rfl, o0⟩
                            · intro hc99
                              try simp only [decide_eq_true_eq, decide_eq_false_iff_not, Bool.not_eq_true', Bool.not_eq_false', Bool.and_eq_true, Bool.or_eq_false_iff] at hc99
                              refine KC.skip ?_
                              refine KQ.seq ?_
                              refine KC.seq ?_
                              refine KC.region ?_
                              refine KL.op (R.move rfl rfl) rfl rfl rfl ?_
                              refine KL.op (R.move rfl rfl) rfl rfl rfl ?_
                              refine KL.op (R.lenO rfl Try.underlying45 rfl ws) rfl rfl rfl ?_
                              refine KL.op ((R.sub rfl rfl rfl (by dsimp only [InR]; omega)).val (congrArg (Value.int .i64) (show (ss.length : Int) - 1 = ((ss.length - 1 : Nat) : Int) by omega))) rfl rfl rfl ?_
                              refine KL.op (R.sliceTo (j := ss.length - 1) rfl Try.underlying45 sz3 rfl rfl ws (by omega) (by omega)) rfl rfl rfl ?_
                              refine KL.op (R.assign rfl rfl) rfl rfl rfl ?_
                              refine KL.nil ?_
                              refine KQ.seq ?_
                              refine KC.seq ?_
                              refine KC.region ?_
                              refine KL.op (R.move rfl rfl) rfl rfl rfl ?_
                              refine KL.op (R.move rfl rfl) rfl rfl rfl ?_
                              refine KL.op ((R.add rfl rfl rfl (by dsimp only [InR]; omega)).val (congrArg (Value.int .i64) (show (k : Int) + 1 = ((k + 1 : Nat) : Int) by omega))) rfl rfl rfl ?_
                              refine KL.op (R.indexO1 (j := k + 1) rfl Try.underlying43 sz4 rfl rfl wb (by omega) (by omega)) rfl rfl rfl ?_
                              refine KL.op (R.load rfl Try.underlying4 rfl rfl (wb.bool (k + 1) (by omega))) rfl rfl rfl ?_
                              refine KL.op ((R.not rfl rfl).val (congrArg Value.bool (show (!bs.getD (k + 1) default) = false by rw [hbv k (by omega), hc95]; rfl))) rfl rfl rfl ?_
                              refine KL.nil ?_
                              refine KQ.seq ?_
                              refine KC.condF rfl ?_
                              refine KC.skip ?_
                              refine KQ.normBlock ?_
                              refine KQ.normBlock ?_
                              refine KQ.seq ?_
                              refine KC.region ?_
                              refine KL.op ((R.add rfl rfl rfl (by dsimp only [InR]; omega)).val (congrArg (Value.int .i64) (show (k : Int) + 1 = ((k + 1 : Nat) : Int) by omega))) rfl rfl rfl ?_
                              refine KL.op (R.move rfl rfl) rfl rfl rfl ?_
                              refine KL.nil ?_
                              refine KQ.again ((k + 1, toV vs (ss.length - 1), ss.take (ss.length - 1))) ?_ ?_ ?_
                              · exact (Sub.cons rfl (Sub.cons rfl (Ext.sub (by repeat (first | exact Ext.refl _ _ | refine Ext.put rfl ?_ | refine Ext.drop rfl ?_)))))
                              · show l.length - (k + 1) < l.length - k; omega
                              · first
                                  | exact ⟨by show k + 1 ≤ _; omega, by show ss.length ≤ k + 1; omega, fun x hx => ⟨(hsr x hx).1, by have := (hsr x hx).2; show x < ((k + 1 : Nat) : Int); omega⟩, ws, wb, wc, o0, by omega⟩
                                  | exact ⟨by show k + 1 ≤ _; omega, by show (ss ++ [(k : Int)]).length ≤ k + 1; simp; omega, fun x hx => by
                                      have hx : x ∈ ss ++ [(k : Int)] := hx
                                      show 0 ≤ x ∧ x < ((k + 1 : Nat) : Int)
                                      rcases List.mem_append.1 hx with hx | hx
                                      · have := hsr x hx; omega
                                      · simp at hx; omega, ws, wb, wc, o0, by omega⟩
                                  | exact ⟨by show k + 1 ≤ _; omega, by show (ss.take (ss.length - 1)).length ≤ k + 1; rw [List.length_take]; omega, fun x hx => by have := hsr x (List.mem_of_mem_take hx); show 0 ≤ x ∧ x < ((k + 1 : Nat) : Int); omega, (ws.to (j := ss.length - 1) (by omega)).1, wb, wc, o0, by omega⟩
                          · intro hc95
                            try simp only [decide_eq_true_eq, decide_eq_false_iff_not, Bool.not_eq_true', Bool.not_eq_false', Bool.and_eq_true, Bool.or_eq_false_iff] at hc95
                            refine KC.seq ?_
                            refine KC.seq ?_
                            refine KC.region ?_
                            refine KL.op (R.eql rfl rfl rfl) rfl rfl rfl ?_
                            refine KL.op (R.assign rfl rfl) rfl rfl rfl ?_
                            refine KL.nil ?_
                            refine KQ.seq ?_
                            refine KC.iteL rfl ?_ ?_
                            · intro hc111
                              try simp only [decide_eq_true_eq, decide_eq_false_iff_not, Bool.not_eq_true', Bool.not_eq_false', Bool.and_eq_true, Bool.or_eq_false_iff] at hc111
                              refine KC.skip ?_
                              refine KQ.seq ?_
                              refine KC.condT rfl ?_
                              refine KC.seq ?_
                              refine KC.seq ?_
                              refine KC.region ?_
                              refine KL.op ((by first | exact R.fieldAddr rfl Try.underlying41 rfl rfl sz38 rfl | exact R.fieldAddrP rfl Try.underlying41 rfl rfl sz38 rfl)) rfl rfl rfl ?_
                              refine KL.op (R.load rfl Try.underlying38 rfl rfl (cell_of bx rfl)) rfl rfl rfl ?_
                              refine KL.op (R.convI rfl Try.underlying38 Try.underlying29 rfl (by dsimp only [InR]; omega)) rfl rfl rfl ?_
                              refine KL.op (R.move rfl rfl) rfl rfl rfl ?_
                              refine KL.op (R.lenO rfl Try.underlying45 rfl ws) rfl rfl rfl ?_
                              refine KL.op (R.convI rfl Try.underlying3 Try.underlying29 rfl (by dsimp only [InR]; omega)) rfl rfl rfl ?_
                              refine KL.op (R.geq rfl rfl rfl) rfl rfl rfl ?_
                              refine KL.nil ?_
                              refine KQ.seq ?_
                              refine KC.iteL rfl ?_ ?_
                              · intro hc120
                                try simp only [decide_eq_true_eq, decide_eq_false_iff_not, Bool.not_eq_true', Bool.not_eq_false', Bool.and_eq_true, Bool.or_eq_false_iff] at hc120
                                refine KC.exit ?_
                                refine KQ.exitThen ?_
                                refine KQ.miss rfl ?_
                                refine KQ.hit ?_
                                refine KQ.seq ?_
                                refine KC.region ?_
                                refine KL.op ((R.add rfl rfl rfl (by dsimp only [InR]; omega)).val (congrArg (Value.int .i64) (show (k : Int) + 1 = ((k + 1 : Nat) : Int) by omega))) rfl rfl rfl ?_
                                refine KL.op (R.move rfl rfl) rfl rfl rfl ?_
                                refine KL.nil ?_
                                refine KQ.again ((k + 1, vs, ss)) ?_ ?_ ?_
                                · exact (Sub.cons rfl (Sub.cons rfl (Ext.sub (by repeat (first | exact Ext.refl _ _ | refine Ext.put rfl ?_ | refine Ext.drop rfl ?_)))))
                                · show l.length - (k + 1) < l.length - k; omega
                                · first
                                    | exact ⟨by show k + 1 ≤ _; omega, by show ss.length ≤ k + 1; omega, fun x hx => ⟨(hsr x hx).1, by have := (hsr x hx).2; show x < ((k + 1 : Nat) : Int); omega⟩, ws, wb, wc, o0, by omega⟩
                                    | exact ⟨by show k + 1 ≤ _; omega, by show (ss ++ [(k : Int)]).length ≤ k + 1; simp; omega, fun x hx => by
                                        have hx : x ∈ ss ++ [(k : Int)] := hx
                                        show 0 ≤ x ∧ x < ((k + 1 : Nat) : Int)
                                        rcases List.mem_append.1 hx with hx | hx
                                        · have := hsr x hx; omega
                                        · simp at hx; omega, ws, wb, wc, o0, by omega⟩
                                    | exact ⟨by show k + 1 ≤ _; omega, by show (ss.take (ss.length - 1)).length ≤ k + 1; rw [List.length_take]; omega, fun x hx => by have := hsr x (List.mem_of_mem_take hx); show 0 ≤ x ∧ x < ((k + 1 : Nat) : Int); omega, (ws.to (j := ss.length - 1) (by omega)).1, wb, wc, o0, by omega⟩
                              · intro hc120
                                try simp only [decide_eq_true_eq, decide_eq_false_iff_not, Bool.not_eq_true', Bool.not_eq_false', Bool.and_eq_true, Bool.or_eq_false_iff] at hc120
                                obtain ⟨a, ha⟩ : ∃ a : Nat, (l.getD k default).a = (a : Int) := ⟨(l.getD k default).a.toNat, by omega⟩
                                rw [ha] at hc120
                                have hto := hsr _ (getD_mem (l := ss) (j := ss.length - 1 - a) (by omega))
                                obtain ⟨to, hte⟩ : ∃ to : Nat, ss.getD (ss.length - 1 - a) default = (to : Int) := ⟨(ss.getD (ss.length - 1 - a) default).toNat, by omega⟩
                                rw [hte] at hto
                                obtain ⟨hox, hor⟩ := hs.insOp to (by omega)
                                refine KC.skip ?_
                                refine KQ.seq ?_
                                refine KC.seq ?_
                                refine KC.region ?_
                                refine KL.op (R.move rfl rfl) rfl rfl rfl ?_
                                refine KL.op (R.move rfl rfl) rfl rfl rfl ?_
                                refine KL.op (R.lenO rfl Try.underlying45 rfl ws) rfl rfl rfl ?_
                                refine KL.op (R.sub rfl rfl rfl (by dsimp only [InR]; omega)) rfl rfl rfl ?_
                                refine KL.op ((by first | exact R.fieldAddr rfl Try.underlying41 rfl rfl sz38 rfl | exact R.fieldAddrP rfl Try.underlying41 rfl rfl sz38 rfl)) rfl rfl rfl ?_
                                refine KL.op (R.load rfl Try.underlying38 rfl rfl (cell_of bx rfl)) rfl rfl rfl ?_
                                refine KL.op ((R.convI rfl Try.underlying38 Try.underlying3 rfl (by dsimp only [InR]; omega)).val (congrArg (Value.int .i64) ha)) rfl rfl rfl ?_
                                refine KL.op ((R.sub rfl rfl rfl (by dsimp only [InR]; omega)).val (congrArg (Value.int .i64) (show (ss.length : Int) - 1 - a = ((ss.length - 1 - a : Nat) : Int) by omega))) rfl rfl rfl ?_
                                refine KL.op (R.indexO1 (j := ss.length - 1 - a) rfl Try.underlying45 sz3 rfl rfl ws rfl (by omega)) rfl rfl rfl ?_
                                refine KL.op ((R.load rfl Try.underlying3 rfl rfl (ws.int (ss.length - 1 - a) (by omega)).1).val (congrArg (Value.int .i64) hte)) rfl rfl rfl ?_
                                refine KL.op (R.assign rfl rfl) rfl rfl rfl ?_
                                refine KL.nil ?_
                                refine KQ.seq ?_
                                refine KC.seq ?_
                                refine KC.quiet (by kernel_rfl) (by kernel_rfl) ?_
                                refine KD.op (R.move rfl rfl) rfl rfl rfl ?_
                                refine KD.op (R.move rfl rfl) rfl rfl rfl ?_
                                refine KD.op (R.index (j := to) rfl Try.underlying22 sz41 rfl rfl hs rfl (by omega)) rfl rfl rfl ?_
                                refine KD.op ((by first | exact R.fieldAddr rfl Try.underlying41 rfl rfl sz5 rfl | exact R.fieldAddrP rfl Try.underlying41 rfl rfl sz5 rfl)) rfl rfl rfl ?_
                                refine KD.op (R.load rfl Try.underlying5 rfl rfl (o0.cell hox)) rfl rfl rfl ?_
                                refine KD.op (R.eql rfl rfl rfl) rfl rfl rfl ?_
                                refine KD.op (R.move rfl rfl) rfl rfl rfl ?_
                                refine KD.case (d := 137) rfl ?_ ?_
                                · intro hg137
                                  try simp only [decide_eq_true_eq, decide_eq_false_iff_not, Bool.not_eq_true', Bool.not_eq_false', Bool.and_eq_true, Bool.or_eq_false_iff] at hg137
                                  have hcne := charged_ne (l := l) (i := k) (to := to) (by omega) (by omega) (by omega) (by simpa using hg137)
                                  have hen : bs.getD (to + 1) default = true := by rw [hbv to (by omega), show (l.getD to default).op = 3 by simpa using hg137]; rfl
                                  rw [← hcu k (by omega), ← hcu to (by omega)] at hcne
                                  refine KD.op (R.move rfl rfl) rfl rfl rfl ?_
                                  refine KD.op (R.move rfl rfl) rfl rfl rfl ?_
                                  refine KD.op ((R.add rfl rfl rfl (by dsimp only [InR]; omega)).val (congrArg (Value.int .i64) (show (to : Int) + 1 = ((to + 1 : Nat) : Int) by omega))) rfl rfl rfl ?_
                                  refine KD.op (R.indexO1 (j := to + 1) rfl Try.underlying43 sz4 rfl rfl wb (by omega) (by omega)) rfl rfl rfl ?_
                                  refine KD.op ((R.load rfl Try.underlying4 rfl rfl (wb.bool (to + 1) (by omega))).val (congrArg Value.bool hen)) rfl rfl rfl ?_
                                  refine KD.op ((R.not rfl rfl).val (rfl)) rfl rfl rfl ?_
                                  refine KD.op (R.move rfl rfl) rfl rfl rfl ?_
                                  refine KD.op (R.move rfl rfl) rfl rfl rfl ?_
                                  refine KD.op (R.move rfl rfl) rfl rfl rfl ?_
                                  refine KD.op (R.indexO1 (j := k) rfl Try.underlying44 sz29 rfl rfl wc (by omega) (by omega)) rfl rfl rfl ?_
                                  refine KD.op (R.load rfl Try.underlying29 rfl rfl (wc.int (k) (by omega)).1) rfl rfl rfl ?_
                                  refine KD.op (R.move rfl rfl) rfl rfl rfl ?_
                                  refine KD.op (R.move rfl rfl) rfl rfl rfl ?_
                                  refine KD.op (R.indexO1 (j := to) rfl Try.underlying44 sz29 rfl rfl wc (by omega) (by omega)) rfl rfl rfl ?_
                                  refine KD.op (R.load rfl Try.underlying29 rfl rfl (wc.int (to) (by omega)).1) rfl rfl rfl ?_
                                  refine KD.op ((R.eql rfl rfl rfl).val (congrArg Value.bool (decide_eq_false (by exact hcne)))) rfl rfl rfl ?_
                                  refine KD.op (R.pick rfl rfl rfl) rfl rfl rfl ?_
                                  refine KD.op (R.pick rfl rfl rfl) rfl rfl rfl ?_
                                  refine KD.nil ?_
                                  refine KQ.seq ?_
                                  refine KC.condF rfl ?_
                                  refine KC.skip ?_
                                  refine KQ.normBlock ?_
                                  refine KQ.normBlock ?_
                                  refine KQ.seq ?_
                                  refine KC.region ?_
                                  refine KL.op ((R.add rfl rfl rfl (by dsimp only [InR]; omega)).val (congrArg (Value.int .i64) (show (k : Int) + 1 = ((k + 1 : Nat) : Int) by omega))) rfl rfl rfl ?_
                                  refine KL.op (R.move rfl rfl) rfl rfl rfl ?_
                                  refine KL.nil ?_
                                  refine KQ.again ((k + 1, vs, ss)) ?_ ?_ ?_
                                  · exact (Sub.cons rfl (Sub.cons rfl (Ext.sub (by repeat (first | exact Ext.refl _ _ | refine Ext.put rfl ?_ | refine Ext.drop rfl ?_)))))
                                  · show l.length - (k + 1) < l.length - k; omega
                                  · first
                                      | exact ⟨by show k + 1 ≤ _; omega, by show ss.length ≤ k + 1; omega, fun x hx => ⟨(hsr x hx).1, by have := (hsr x hx).2; show x < ((k + 1 : Nat) : Int); omega⟩, ws, wb, wc, o0, by omega⟩
                                      | exact ⟨by show k + 1 ≤ _; omega, by show (ss ++ [(k : Int)]).length ≤ k + 1; simp; omega, fun x hx => by
                                          have hx : x ∈ ss ++ [(k : Int)] := hx
                                          show 0 ≤ x ∧ x < ((k + 1 : Nat) : Int)
                                          rcases List.mem_append.1 hx with hx | hx
                                          · have := hsr x hx; omega
                                          · simp at hx; omega, ws, wb, wc, o0, by omega⟩
                                      | exact ⟨by show k + 1 ≤ _; omega, by show (ss.take (ss.length - 1)).length ≤ k + 1; rw [List.length_take]; omega, fun x hx => by have := hsr x (List.mem_of_mem_take hx); show 0 ≤ x ∧ x < ((k + 1 : Nat) : Int); omega, (ws.to (j := ss.length - 1) (by omega)).1, wb, wc, o0, by omega⟩
                                · intro hg137
                                  try simp only [decide_eq_true_eq, decide_eq_false_iff_not, Bool.not_eq_true', Bool.not_eq_false', Bool.and_eq_true, Bool.or_eq_false_iff] at hg137
                                  refine KD.skip rfl rfl rfl ?_
                                  refine KD.skip rfl rfl rfl ?_
                                  refine KD.skip rfl rfl rfl ?_
                                  refine KD.skip rfl rfl rfl ?_
                                  refine KD.skip rfl rfl rfl ?_
                                  refine KD.skip rfl rfl rfl ?_
                                  refine KD.skip rfl rfl rfl ?_
                                  refine KD.skip rfl rfl rfl ?_
                                  refine KD.skip rfl rfl rfl ?_
                                  refine KD.skip rfl rfl rfl ?_
                                  refine KD.skip rfl rfl rfl ?_
                                  refine KD.skip rfl rfl rfl ?_
                                  refine KD.skip rfl rfl rfl ?_
                                  refine KD.skip rfl rfl rfl ?_
                                  refine KD.skip rfl rfl rfl ?_
                                  refine KD.skip rfl rfl rfl ?_
                                  refine KD.skip rfl rfl rfl ?_
                                  refine KD.op (R.pick rfl rfl rfl) rfl rfl rfl ?_
                                  refine KD.nil ?_
                                  refine KQ.seq ?_
                                  refine KC.condF rfl ?_
                                  refine KC.skip ?_
                                  refine KQ.normBlock ?_
                                  refine KQ.normBlock ?_
                                  refine KQ.seq ?_
                                  refine KC.region ?_
                                  refine KL.op ((R.add rfl rfl rfl (by dsimp only [InR]; omega)).val (congrArg (Value.int .i64) (show (k : Int) + 1 = ((k + 1 : Nat) : Int) by omega))) rfl rfl rfl ?_
                                  refine KL.op (R.move rfl rfl) rfl rfl rfl ?_
                                  refine KL.nil ?_
                                  refine KQ.again ((k + 1, vs, ss)) ?_ ?_ ?_
                                  · exact (Sub.cons rfl (Sub.cons rfl (Ext.sub (by repeat (first | exact Ext.refl _ _ | refine Ext.put rfl ?_ | refine Ext.drop rfl ?_)))))
                                  · show l.length - (k + 1) < l.length - k; omega
                                  · first
                                      | exact ⟨by show k + 1 ≤ _; omega, by show ss.length ≤ k + 1; omega, fun x hx => ⟨(hsr x hx).1, by have := (hsr x hx).2; show x < ((k + 1 : Nat) : Int); omega⟩, ws, wb, wc, o0, by omega⟩
                                      | exact ⟨by show k + 1 ≤ _; omega, by show (ss ++ [(k : Int)]).length ≤ k + 1; simp; omega, fun x hx => by
                                          have hx : x ∈ ss ++ [(k : Int)] := hx
                                          show 0 ≤ x ∧ x < ((k + 1 : Nat) : Int)
                                          rcases List.mem_append.1 hx with hx | hx
                                          · have := hsr x hx; omega
                                          · simp at hx; omega, ws, wb, wc, o0, by omega⟩
                                      | exact ⟨by show k + 1 ≤ _; omega, by show (ss.take (ss.length - 1)).length ≤ k + 1; rw [List.length_take]; omega, fun x hx => by have := hsr x (List.mem_of_mem_take hx); show 0 ≤ x ∧ x < ((k + 1 : Nat) : Int); omega, (ws.to (j := ss.length - 1) (by omega)).1, wb, wc, o0, by omega⟩
                            · intro hc111
                              try simp only [decide_eq_true_eq, decide_eq_false_iff_not, Bool.not_eq_true', Bool.not_eq_false', Bool.and_eq_true, Bool.or_eq_false_iff] at hc111
                              refine KC.region ?_
                              refine KL.op (R.eql rfl rfl rfl) rfl rfl rfl ?_
                              refine KL.op (R.assign rfl rfl) rfl rfl rfl ?_
                              refine KL.nil ?_
                              refine KQ.seq ?_
                              refine KC.iteL rfl ?_ ?_
                              · intro hc111
                                try simp only [decide_eq_true_eq, decide_eq_false_iff_not, Bool.not_eq_true', Bool.not_eq_false', Bool.and_eq_true, Bool.or_eq_false_iff] at hc111
                                refine KC.seq ?_
                                refine KC.seq ?_
                                refine KC.region ?_
                                refine KL.op ((by first | exact R.fieldAddr rfl Try.underlying41 rfl rfl sz38 rfl | exact R.fieldAddrP rfl Try.underlying41 rfl rfl sz38 rfl)) rfl rfl rfl ?_
                                refine KL.op (R.load rfl Try.underlying38 rfl rfl (cell_of bx rfl)) rfl rfl rfl ?_
                                refine KL.op (R.convI rfl Try.underlying38 Try.underlying29 rfl (by dsimp only [InR]; omega)) rfl rfl rfl ?_
                                refine KL.op (R.move rfl rfl) rfl rfl rfl ?_
                                refine KL.op (R.lenO rfl Try.underlying45 rfl ws) rfl rfl rfl ?_
                                refine KL.op (R.convI rfl Try.underlying3 Try.underlying29 rfl (by dsimp only [InR]; omega)) rfl rfl rfl ?_
                                refine KL.op (R.geq rfl rfl rfl) rfl rfl rfl ?_
                                refine KL.nil ?_
                                refine KQ.seq ?_
                                refine KC.iteL rfl ?_ ?_
                                · intro hc120
                                  try simp only [decide_eq_true_eq, decide_eq_false_iff_not, Bool.not_eq_true', Bool.not_eq_false', Bool.and_eq_true, Bool.or_eq_false_iff] at hc120
                                  refine KC.exit ?_
                                  refine KQ.exitThen ?_
                                  refine KQ.miss rfl ?_
                                  refine KQ.hit ?_
                                  refine KQ.seq ?_
                                  refine KC.region ?_
                                  refine KL.op ((R.add rfl rfl rfl (by dsimp only [InR]; omega)).val (congrArg (Value.int .i64) (show (k : Int) + 1 = ((k + 1 : Nat) : Int) by omega))) rfl rfl rfl ?_
                                  refine KL.op (R.move rfl rfl) rfl rfl rfl ?_
                                  refine KL.nil ?_
                                  refine KQ.again ((k + 1, vs, ss)) ?_ ?_ ?_
                                  · exact (Sub.cons rfl (Sub.cons rfl (Ext.sub (by repeat (first | exact Ext.refl _ _ | refine Ext.put rfl ?_ | refine Ext.drop rfl ?_)))))
                                  · show l.length - (k + 1) < l.length - k; omega
                                  · first
                                      | exact ⟨by show k + 1 ≤ _; omega, by show ss.length ≤ k + 1; omega, fun x hx => ⟨(hsr x hx).1, by have := (hsr x hx).2; show x < ((k + 1 : Nat) : Int); omega⟩, ws, wb, wc, o0, by omega⟩
                                      | exact ⟨by show k + 1 ≤ _; omega, by show (ss ++ [(k : Int)]).length ≤ k + 1; simp; omega, fun x hx => by
                                          have hx : x ∈ ss ++ [(k : Int)] := hx
                                          show 0 ≤ x ∧ x < ((k + 1 : Nat) : Int)
                                          rcases List.mem_append.1 hx with hx | hx
                                          · have := hsr x hx; omega
                                          · simp at hx; omega, ws, wb, wc, o0, by omega⟩
                                      | exact ⟨by show k + 1 ≤ _; omega, by show (ss.take (ss.length - 1)).length ≤ k + 1; rw [List.length_take]; omega, fun x hx => by have := hsr x (List.mem_of_mem_take hx); show 0 ≤ x ∧ x < ((k + 1 : Nat) : Int); omega, (ws.to (j := ss.length - 1) (by omega)).1, wb, wc, o0, by omega⟩
                                · intro hc120
                                  try simp only [decide_eq_true_eq, decide_eq_false_iff_not, Bool.not_eq_true', Bool.not_eq_false', Bool.and_eq_true, Bool.or_eq_false_iff] at hc120
                                  obtain ⟨a, ha⟩ : ∃ a : Nat, (l.getD k default).a = (a : Int) := ⟨(l.getD k default).a.toNat, by omega⟩
                                  rw [ha] at hc120
                                  have hto := hsr _ (getD_mem (l := ss) (j := ss.length - 1 - a) (by omega))
                                  obtain ⟨to, hte⟩ : ∃ to : Nat, ss.getD (ss.length - 1 - a) default = (to : Int) := ⟨(ss.getD (ss.length - 1 - a) default).toNat, by omega⟩
                                  rw [hte] at hto
                                  obtain ⟨hox, hor⟩ := hs.insOp to (by omega)
                                  refine KC.skip ?_
                                  refine KQ.seq ?_
                                  refine KC.seq ?_
                                  refine KC.region ?_
                                  refine KL.op (R.move rfl rfl) rfl rfl rfl ?_
                                  refine KL.op (R.move rfl rfl) rfl rfl rfl ?_
                                  refine KL.op (R.lenO rfl Try.underlying45 rfl ws) rfl rfl rfl ?_
                                  refine KL.op (R.sub rfl rfl rfl (by dsimp only [InR]; omega)) rfl rfl rfl ?_
                                  refine KL.op ((by first | exact R.fieldAddr rfl Try.underlying41 rfl rfl sz38 rfl | exact R.fieldAddrP rfl Try.underlying41 rfl rfl sz38 rfl)) rfl rfl rfl ?_
                                  refine KL.op (R.load rfl Try.underlying38 rfl rfl (cell_of bx rfl)) rfl rfl rfl ?_
                                  refine KL.op ((R.convI rfl Try.underlying38 Try.underlying3 rfl (by dsimp only [InR]; omega)).val (congrArg (Value.int .i64) ha)) rfl rfl rfl ?_
                                  refine KL.op ((R.sub rfl rfl rfl (by dsimp only [InR]; omega)).val (congrArg (Value.int .i64) (show (ss.length : Int) - 1 - a = ((ss.length - 1 - a : Nat) : Int) by omega))) rfl rfl rfl ?_
                                  refine KL.op (R.indexO1 (j := ss.length - 1 - a) rfl Try.underlying45 sz3 rfl rfl ws rfl (by omega)) rfl rfl rfl ?_
                                  refine KL.op ((R.load rfl Try.underlying3 rfl rfl (ws.int (ss.length - 1 - a) (by omega)).1).val (congrArg (Value.int .i64) hte)) rfl rfl rfl ?_
                                  refine KL.op (R.assign rfl rfl) rfl rfl rfl ?_
                                  refine KL.nil ?_
                                  refine KQ.seq ?_
                                  refine KC.seq ?_
                                  refine KC.quiet (by kernel_rfl) (by kernel_rfl) ?_
                                  refine KD.op (R.move rfl rfl) rfl rfl rfl ?_
                                  refine KD.op (R.move rfl rfl) rfl rfl rfl ?_
                                  refine KD.op (R.index (j := to) rfl Try.underlying22 sz41 rfl rfl hs rfl (by omega)) rfl rfl rfl ?_
                                  refine KD.op ((by first | exact R.fieldAddr rfl Try.underlying41 rfl rfl sz5 rfl | exact R.fieldAddrP rfl Try.underlying41 rfl rfl sz5 rfl)) rfl rfl rfl ?_
                                  refine KD.op (R.load rfl Try.underlying5 rfl rfl (o0.cell hox)) rfl rfl rfl ?_
                                  refine KD.op (R.eql rfl rfl rfl) rfl rfl rfl ?_
                                  refine KD.op (R.move rfl rfl) rfl rfl rfl ?_
                                  refine KD.case (d := 137) rfl ?_ ?_
                                  · intro hg137
                                    try simp only [decide_eq_true_eq, decide_eq_false_iff_not, Bool.not_eq_true', Bool.not_eq_false', Bool.and_eq_true, Bool.or_eq_false_iff] at hg137
                                    have hcne := charged_ne (l := l) (i := k) (to := to) (by omega) (by omega) (by omega) (by simpa using hg137)
                                    have hen : bs.getD (to + 1) default = true := by rw [hbv to (by omega), show (l.getD to default).op = 3 by simpa using hg137]; rfl
                                    rw [← hcu k (by omega), ← hcu to (by omega)] at hcne
                                    refine KD.op (R.move rfl rfl) rfl rfl rfl ?_
                                    refine KD.op (R.move rfl rfl) rfl rfl rfl ?_
                                    refine KD.op ((R.add rfl rfl rfl (by dsimp only [InR]; omega)).val (congrArg (Value.int .i64) (show (to : Int) + 1 = ((to + 1 : Nat) : Int) by omega))) rfl rfl rfl ?_
                                    refine KD.op (R.indexO1 (j := to + 1) rfl Try.underlying43 sz4 rfl rfl wb (by omega) (by omega)) rfl rfl rfl ?_
                                    refine KD.op ((R.load rfl Try.underlying4 rfl rfl (wb.bool (to + 1) (by omega))).val (congrArg Value.bool hen)) rfl rfl rfl ?_
                                    refine KD.op ((R.not rfl rfl).val (rfl)) rfl rfl rfl ?_
                                    refine KD.op (R.move rfl rfl) rfl rfl rfl ?_
                                    refine KD.op (R.move rfl rfl) rfl rfl rfl ?_
                                    refine KD.op (R.move rfl rfl) rfl rfl rfl ?_
                                    refine KD.op (R.indexO1 (j := k) rfl Try.underlying44 sz29 rfl rfl wc (by omega) (by omega)) rfl rfl rfl ?_
                                    refine KD.op (R.load rfl Try.underlying29 rfl rfl (wc.int (k) (by omega)).1) rfl rfl rfl ?_
                                    refine KD.op (R.move rfl rfl) rfl rfl rfl ?_
                                    refine KD.op (R.move rfl rfl) rfl rfl rfl ?_
                                    refine KD.op (R.indexO1 (j := to) rfl Try.underlying44 sz29 rfl rfl wc (by omega) (by omega)) rfl rfl rfl ?_
                                    refine KD.op (R.load rfl Try.underlying29 rfl rfl (wc.int (to) (by omega)).1) rfl rfl rfl ?_
                                    refine KD.op ((R.eql rfl rfl rfl).val (congrArg Value.bool (decide_eq_false (by exact hcne)))) rfl rfl rfl ?_
                                    refine KD.op (R.pick rfl rfl rfl) rfl rfl rfl ?_
                                    refine KD.op (R.pick rfl rfl rfl) rfl rfl rfl ?_
                                    refine KD.nil ?_
                                    refine KQ.seq ?_
                                    refine KC.condF rfl ?_
                                    refine KC.skip ?_
                                    refine KQ.normBlock ?_
                                    refine KQ.normBlock ?_
                                    refine KQ.seq ?_
                                    refine KC.region ?_
                                    refine KL.op ((R.add rfl rfl rfl (by dsimp only [InR]; omega)).val (congrArg (Value.int .i64) (show (k : Int) + 1 = ((k + 1 : Nat) : Int) by omega))) rfl rfl rfl ?_
                                    refine KL.op (R.move rfl rfl) rfl rfl rfl ?_
                                    refine KL.nil ?_
                                    refine KQ.again ((k + 1, vs, ss)) ?_ ?_ ?_
                                    · exact (Sub.cons rfl (Sub.cons rfl (Ext.sub (by repeat (first | exact Ext.refl _ _ | refine Ext.put rfl ?_ | refine Ext.drop rfl ?_)))))
                                    · show l.length - (k + 1) < l.length - k; omega
                                    · first
                                        | exact ⟨by show k + 1 ≤ _; omega, by show ss.length ≤ k + 1; omega, fun x hx => ⟨(hsr x hx).1, by have := (hsr x hx).2; show x < ((k + 1 : Nat) : Int); omega⟩, ws, wb, wc, o0, by omega⟩
                                        | exact ⟨by show k + 1 ≤ _; omega, by show (ss ++ [(k : Int)]).length ≤ k + 1; simp; omega, fun x hx => by
                                            have hx : x ∈ ss ++ [(k : Int)] := hx
                                            show 0 ≤ x ∧ x < ((k + 1 : Nat) : Int)
                                            rcases List.mem_append.1 hx with hx | hx
                                            · have := hsr x hx; omega
                                            · simp at hx; omega, ws, wb, wc, o0, by omega⟩
                                        | exact ⟨by show k + 1 ≤ _; omega, by show (ss.take (ss.length - 1)).length ≤ k + 1; rw [List.length_take]; omega, fun x hx => by have := hsr x (List.mem_of_mem_take hx); show 0 ≤ x ∧ x < ((k + 1 : Nat) : Int); omega, (ws.to (j := ss.length - 1) (by omega)).1, wb, wc, o0, by omega⟩
                                  · intro hg137
                                    try simp only [decide_eq_true_eq, decide_eq_false_iff_not, Bool.not_eq_true', Bool.not_eq_false', Bool.and_eq_true, Bool.or_eq_false_iff] at hg137
                                    refine KD.skip rfl rfl rfl ?_
                                    refine KD.skip rfl rfl rfl ?_
                                    refine KD.skip rfl rfl rfl ?_
                                    refine KD.skip rfl rfl rfl ?_
                                    refine KD.skip rfl rfl rfl ?_
                                    refine KD.skip rfl rfl rfl ?_
                                    refine KD.skip rfl rfl rfl ?_
                                    refine KD.skip rfl rfl rfl ?_
                                    refine KD.skip rfl rfl rfl ?_
                                    refine KD.skip rfl rfl rfl ?_
                                    refine KD.skip rfl rfl rfl ?_
                                    refine KD.skip rfl rfl rfl ?_
                                    refine KD.skip rfl rfl rfl ?_
                                    refine KD.skip rfl rfl rfl ?_
                                    refine KD.skip rfl rfl rfl ?_
                                    refine KD.skip rfl rfl rfl ?_
                                    refine KD.skip rfl rfl rfl ?_
                                    refine KD.op (R.pick rfl rfl rfl) rfl rfl rfl ?_
                                    refine KD.nil ?_
                                    refine KQ.seq ?_
                                    refine KC.condF rfl ?_
                                    refine KC.skip ?_
                                    refine KQ.normBlock ?_
                                    refine KQ.normBlock ?_
                                    refine KQ.seq ?_
                                    refine KC.region ?_
                                    refine KL.op ((R.add rfl rfl rfl (by dsimp only [InR]; omega)).val (congrArg (Value.int .i64) (show (k : Int) + 1 = ((k + 1 : Nat) : Int) by omega))) rfl rfl rfl ?_
                                    refine KL.op (R.move rfl rfl) rfl rfl rfl ?_
                                    refine KL.nil ?_
                                    refine KQ.again ((k + 1, vs, ss)) ?_ ?_ ?_
                                    · exact (Sub.cons rfl (Sub.cons rfl (Ext.sub (by repeat (first | exact Ext.refl _ _ | refine Ext.put rfl ?_ | refine Ext.drop rfl ?_)))))
                                    · show l.length - (k + 1) < l.length - k; omega
                                    · first
                                        | exact ⟨by show k + 1 ≤ _; omega, by show ss.length ≤ k + 1; omega, fun x hx => ⟨(hsr x hx).1, by have := (hsr x hx).2; show x < ((k + 1 : Nat) : Int); omega⟩, ws, wb, wc, o0, by omega⟩
                                        | exact ⟨by show k + 1 ≤ _; omega, by show (ss ++ [(k : Int)]).length ≤ k + 1; simp; omega, fun x hx => by
                                            have hx : x ∈ ss ++ [(k : Int)] := hx
                                            show 0 ≤ x ∧ x < ((k + 1 : Nat) : Int)
                                            rcases List.mem_append.1 hx with hx | hx
                                            · have := hsr x hx; omega
                                            · simp at hx; omega, ws, wb, wc, o0, by omega⟩
                                        | exact ⟨by show k + 1 ≤ _; omega, by show (ss.take (ss.length - 1)).length ≤ k + 1; rw [List.length_take]; omega, fun x hx => by have := hsr x (List.mem_of_mem_take hx); show 0 ≤ x ∧ x < ((k + 1 : Nat) : Int); omega, (ws.to (j := ss.length - 1) (by omega)).1, wb, wc, o0, by omega⟩
                              · intro hc111
                                try simp only [decide_eq_true_eq, decide_eq_false_iff_not, Bool.not_eq_true', Bool.not_eq_false', Bool.and_eq_true, Bool.or_eq_false_iff] at hc111
                                refine KC.skip ?_
                                refine KQ.normBlock ?_
                                refine KQ.normBlock ?_
                                refine KQ.seq ?_
                                refine KC.region ?_
                                refine KL.op ((R.add rfl rfl rfl (by dsimp only [InR]; omega)).val (congrArg (Value.int .i64) (show (k : Int) + 1 = ((k + 1 : Nat) : Int) by omega))) rfl rfl rfl ?_
                                refine KL.op (R.move rfl rfl) rfl rfl rfl ?_
                                refine KL.nil ?_
                                refine KQ.again ((k + 1, vs, ss)) ?_ ?_ ?_
                                · exact (Sub.cons rfl (Sub.cons rfl (Ext.sub (by repeat (first | exact Ext.refl _ _ | refine Ext.put rfl ?_ | refine Ext.drop rfl ?_)))))
                                · show l.length - (k + 1) < l.length - k; omega
                                · first
                                    | exact ⟨by show k + 1 ≤ _; omega, by show ss.length ≤ k + 1; omega, fun x hx => ⟨(hsr x hx).1, by have := (hsr x hx).2; show x < ((k + 1 : Nat) : Int); omega⟩, ws, wb, wc, o0, by omega⟩
                                    | exact ⟨by show k + 1 ≤ _; omega, by show (ss ++ [(k : Int)]).length ≤ k + 1; simp; omega, fun x hx => by
                                        have hx : x ∈ ss ++ [(k : Int)] := hx
                                        show 0 ≤ x ∧ x < ((k + 1 : Nat) : Int)
                                        rcases List.mem_append.1 hx with hx | hx
                                        · have := hsr x hx; omega
                                        · simp at hx; omega, ws, wb, wc, o0, by omega⟩
                                    | exact ⟨by show k + 1 ≤ _; omega, by show (ss.take (ss.length - 1)).length ≤ k + 1; rw [List.length_take]; omega, fun x hx => by have := hsr x (List.mem_of_mem_take hx); show 0 ≤ x ∧ x < ((k + 1 : Nat) : Int); omega, (ws.to (j := ss.length - 1) (by omega)).1, wb, wc, o0, by omega⟩
                  · intro hc81
                    try simp only [decide_eq_true_eq, decide_eq_false_iff_not, Bool.not_eq_true', Bool.not_eq_false', Bool.and_eq_true, Bool.or_eq_false_iff] at hc81
                    refine KC.exit ?_
                    refine KQ.exitThen ?_
                    refine KQ.exitThen ?_
                    refine KQ.hit ?_
                    refine KQ.seq ?_
                    refine KC.seq ?_
                    refine KC.region ?_
                    refine KL.op (R.assign rfl rfl) rfl rfl rfl ?_
                    refine KL.nil ?_
                    refine KQ.seq ?_
                    refine KC.ret ?_
                    refine KQ.ofRet ?_
                    refine KQ.fin1 Try.results5 rfl ?_
                    exact ⟨rfl, o0⟩

end Go.Proofs.Ytokidabnjodglaa
