/- SectBack, walked. No condition but that the library tables are laid, and what a tied card says of sizes. -/
import Derived.Test.YtnbdadjomnpcgaaDoorSectD
import Derived.Test.YtnbdadjomnpcgaaDoorSectR
namespace Go.Proofs.YtnbdadjomnpcgaaDoor
open Go Go.RowKit
set_option linter.unusedVariables false
set_option linter.unusedSimpArgs false
set_option linter.unnecessarySimpa false
set_option maxRecDepth 100000 in
set_option maxHeartbeats 4000000 in
theorem SectBack_any {H : Heap} (v : Value) (l : List Sec) (hs : Sl 2 ESec H v l) (hb : ∀ s ∈ l, s.2.length ≤ 140737488351232) (vb : Value) (b : List Int) (sb : Sl 1 (EInt .u8) H vb b) (hbl : b.length ≤ 140737488351232) (hT : TabU H) : Ct Tryd.prog 5 [v, vb] H (fun u H' => u = .bool true ∧ Old H H') := by
  refine Ct.mk Tryd.func5 rfl Tryd.ntmps5 rfl ?_
  intro W0 hW0
  have o0 : Old H H := Old.refl H
  have hll := hs.len
  refine KC.seq ?_
  refine KC.region ?_
  refine KL.op (R.assign rfl rfl) rfl rfl rfl ?_
  refine KL.nil ?_
  refine KQ.seq ?_
  refine KC.seq ?_
  refine KC.seq ?_
  refine KC.region ?_
  refine KL.call rfl rfl rfl rfl Tryd.call8 rfl rfl rfl (known_any (hT.old o0)) ?_
  rintro _ H1 ⟨rfl, ox⟩
  have zc_H1 := (ox).1
  have o0 := o0.trans ox
  refine KL.op (R.not rfl rfl) rfl rfl rfl ?_
  refine KL.nil ?_
  refine KQ.seq ?_
  refine KC.condF rfl ?_
  refine KC.skip ?_
  refine KQ.seq ?_
  refine KC.seq ?_
  refine KC.region ?_
  refine KL.op (R.move rfl rfl) rfl rfl rfl ?_
  refine KL.op (R.lenS rfl Tryd.underlying22 rfl sb) rfl rfl rfl ?_
  refine KL.op (R.assign rfl rfl) rfl rfl rfl ?_
  refine KL.nil ?_
  refine KQ.seq ?_
  refine KC.seq ?_
  refine KC.seq ?_
  refine KC.region ?_
  refine KL.op (R.move rfl rfl) rfl rfl rfl ?_
  refine KL.op (R.lenS rfl Tryd.underlying24 rfl hs) rfl rfl rfl ?_
  refine KL.op (R.move rfl rfl) rfl rfl rfl ?_
  refine KL.nil ?_
  refine KQ.seq ?_
  refine KC.block ?_
  refine KC.loopD (κ := Nat) [25, 26, 27, 7, 28, 29, 30, 31, 32, 33, 5, 34, 35, 36, 37, 38, 39, 40, 4, 41, 24] (fun k => [(24, .int .i64 (k : Nat)), (5, .int .i64 ((b.length + Sc.wt (l.take k) : Nat) : Int))]) (fun k Hl => k ≤ l.length ∧ (k = 0 ∨ b.length + Sc.wt (l.take k) ≤ 10000) ∧ Old H Hl) (fun k => l.length - k) 0 ?_ ?_ ?_
  · exact (Sub.cons rfl (Sub.cons rfl (Ext.sub (Ext.refl _ _))))
  · exact ⟨Nat.zero_le _, .inl rfl, o0⟩
  · rintro k H2 ⟨hk, hw, o0⟩
    have zl_H2 := o0.1
    refine KC.seq ?_
    refine KC.region ?_
    refine KL.op (R.lss rfl rfl rfl) rfl rfl rfl ?_
    refine KL.nil ?_
    refine KQ.seq ?_
    refine KC.seq ?_
    refine KC.iteL rfl ?_ ?_
    · intro hc25
      try simp only [decide_eq_true_eq, decide_eq_false_iff_not, Bool.not_eq_true', Bool.not_eq_false', Bool.and_eq_true, Bool.or_eq_false_iff] at hc25
      obtain ⟨u, hcx, hu, q0⟩ := hs.secAt k (by omega)
      have hul := getD_bd hb k (by omega)
      have hwt := Sc.wt_step (l := l) (k := k) (by omega)
      have hw0 : k = 0 → Sc.wt (l.take k) = 0 := fun h => by rw [h]; rfl
      refine KC.skip ?_
      refine KQ.seq ?_
      refine KC.seq ?_
      refine KC.block ?_
      refine KC.seq ?_
      refine KC.region ?_
      refine KL.op (R.index (j := k) rfl Tryd.underlying24 sz35 rfl rfl (hs.old o0) rfl (by omega)) rfl rfl rfl ?_
      refine KL.op (R.loadAgg rfl Tryd.underlying35 rfl sz35 rfl (o0.cells hcx) rfl) rfl rfl rfl ?_
      refine KL.opM (M.alloc rfl zr35 rfl) rfl rfl rfl ?_
      rintro _ H3 ⟨rfl, n3⟩
      have z3 := n3.2.1
      have o0 := o0.trans n3.1
      have b3 := n3.2.2
      have bx := b3
      refine KL.opS (S.storeAgg rfl sz35 rfl rfl (rfl) (by intro q hq; simp only [List.mem_cons, List.not_mem_nil, or_false] at hq; rcases hq with rfl | rfl <;> first | rfl | exact hu.one) bx (by simp)) rfl rfl ?_
      rintro H4 ⟨u4, b4⟩
      have o0 := o0.upd u4 (by omega)
      have zu4 := u4.1
      have bx := b4
      refine KL.nil ?_
      refine KQ.seq ?_
      refine KC.seq ?_
      refine KC.region ?_
      refine KL.op (R.move rfl rfl) rfl rfl rfl ?_
      refine KL.op ((by first | exact R.fieldAddr rfl Tryd.underlying35 rfl rfl sz22 rfl | exact R.fieldAddrP rfl Tryd.underlying35 rfl rfl sz22 rfl)) rfl rfl rfl ?_
      refine KL.op (R.load rfl Tryd.underlying22 rfl rfl (by first | exact cell_of bx rfl | assumption)) rfl rfl rfl ?_
      refine KL.op (R.lenS rfl Tryd.underlying22 rfl hu) rfl rfl rfl ?_
      refine KL.op (R.add rfl rfl rfl (by dsimp only [InR]; omega)) rfl rfl rfl ?_
      refine KL.op ((R.add rfl rfl rfl (by dsimp only [InR]; omega)).val (congrArg (Value.int .i64) (show _ = ((b.length + Sc.wt (l.take (k + 1)) : Nat) : Int) from by omega))) rfl rfl rfl ?_
      refine KL.op (R.assign rfl rfl) rfl rfl rfl ?_
      refine KL.nil ?_
      refine KQ.seq ?_
      refine KC.seq ?_
      refine KC.region ?_
      refine KL.op (R.move rfl rfl) rfl rfl rfl ?_
      refine KL.op (R.gtr rfl rfl rfl) rfl rfl rfl ?_
      refine KL.op (R.move rfl rfl) rfl rfl rfl ?_
      refine KL.case (d := 36) rfl ?_ ?_
      · intro hg36
        try simp only [decide_eq_true_eq, decide_eq_false_iff_not, Bool.not_eq_true', Bool.not_eq_false', Bool.and_eq_true, Bool.or_eq_false_iff] at hg36
        refine KL.skip rfl rfl rfl ?_
        refine KL.skip rfl rfl rfl ?_
        refine KL.skip rfl rfl rfl ?_
        refine KL.op (R.pick rfl rfl rfl) rfl rfl rfl ?_
        refine KL.nil ?_
        refine KQ.seq ?_
        refine KC.condT rfl ?_
        refine KC.seq ?_
        refine KC.region ?_
        refine KL.op (R.assign rfl rfl) rfl rfl rfl ?_
        refine KL.nil ?_
        refine KQ.seq ?_
        refine KC.ret ?_
        refine KQ.retBlock ?_
        refine KQ.retThen ?_
        refine KQ.retThen ?_
        refine KQ.retBlock ?_
        refine KQ.retThen ?_
        refine KQ.ofRet ?_
        refine KQ.fin1 Tryd.results5 rfl ?_
        exact ⟨rfl, o0⟩
      · intro hg36
        try simp only [decide_eq_true_eq, decide_eq_false_iff_not, Bool.not_eq_true', Bool.not_eq_false', Bool.and_eq_true, Bool.or_eq_false_iff] at hg36
        refine KL.op (R.move rfl rfl) rfl rfl rfl ?_
        refine KL.op (R.lenS rfl Tryd.underlying24 rfl hs) rfl rfl rfl ?_
        refine KL.op (R.gtr rfl rfl rfl) rfl rfl rfl ?_
        refine KL.op (R.pick rfl rfl rfl) rfl rfl rfl ?_
        refine KL.nil ?_
        refine KQ.seq ?_
        refine KC.iteL rfl ?_ ?_
        · intro hc40
          try simp only [decide_eq_true_eq, decide_eq_false_iff_not, Bool.not_eq_true', Bool.not_eq_false', Bool.and_eq_true, Bool.or_eq_false_iff] at hc40
          refine KC.seq ?_
          refine KC.region ?_
          refine KL.op (R.assign rfl rfl) rfl rfl rfl ?_
          refine KL.nil ?_
          refine KQ.seq ?_
          refine KC.ret ?_
          refine KQ.retBlock ?_
          refine KQ.retThen ?_
          refine KQ.retThen ?_
          refine KQ.retBlock ?_
          refine KQ.retThen ?_
          refine KQ.ofRet ?_
          refine KQ.fin1 Tryd.results5 rfl ?_
          exact ⟨rfl, o0⟩
        · intro hc40
          try simp only [decide_eq_true_eq, decide_eq_false_iff_not, Bool.not_eq_true', Bool.not_eq_false', Bool.and_eq_true, Bool.or_eq_false_iff] at hc40
          refine KC.skip ?_
          refine KQ.normBlock ?_
          refine KQ.seq ?_
          refine KC.region ?_
          refine KL.op ((R.add rfl rfl rfl (by dsimp only [InR]; omega)).val (congrArg (Value.int .i64) (show (k : Int) + 1 = ((k + 1 : Nat) : Int) by omega))) rfl rfl rfl ?_
          refine KL.op (R.move rfl rfl) rfl rfl rfl ?_
          refine KL.nil ?_
          refine KQ.again (k + 1) ?_ ?_ ?_
          · exact (Sub.cons rfl (Sub.cons rfl (Ext.sub (by repeat (first | exact Ext.refl _ _ | refine Ext.put rfl ?_ | refine Ext.drop rfl ?_)))))
          · omega
          · exact ⟨by omega, .inr (by omega), o0⟩
    · intro hc25
      try simp only [decide_eq_true_eq, decide_eq_false_iff_not, Bool.not_eq_true', Bool.not_eq_false', Bool.and_eq_true, Bool.or_eq_false_iff] at hc25
      rw [List.take_of_length_le (by omega)] at hw
      have hw2 : Sc.wt l ≤ 10000 := by
        rcases hw with h | h
        · have : l = [] := List.eq_nil_of_length_eq_zero (by omega)
          subst this; exact Nat.zero_le _
        · omega
      have hbz := Sc.body_wt l (by omega)
      have hlw := Sc.len_wt l
      have hsm : ∀ s ∈ l, s.2.length < 4294967296 := fun s hs => by have := Sc.wt_mem hs; omega
      refine KC.exit ?_
      refine KQ.exitThen ?_
      refine KQ.exitThen ?_
      refine KQ.hit ?_
      refine KQ.seq ?_
      refine KC.seq ?_
      refine KC.seq ?_
      refine KC.region ?_
      refine KL.op (R.move rfl rfl) rfl rfl rfl ?_
      refine KL.call rfl rfl rfl rfl Tryd.call13 rfl rfl rfl (Join_or _ _ (hs.old o0) (by omega)) ?_
      rintro u9 H5 ⟨ox, hR⟩
      have zc_H5 := (ox).1
      have o0 := o0.trans ox
      rcases hR with ⟨hjn, rfl⟩ | ⟨c0, v0, hjn, rfl, sj⟩
      · skip
        refine KL.op (R.move rfl rfl) rfl rfl rfl ?_
        refine KL.op (R.extract rfl rfl rfl) rfl rfl rfl ?_
        refine KL.op (R.extract rfl rfl rfl) rfl rfl rfl ?_
        refine KL.op (R.assign rfl rfl) rfl rfl rfl ?_
        refine KL.op (R.assign rfl rfl) rfl rfl rfl ?_
        refine KL.nil ?_
        refine KQ.seq ?_
        refine KC.seq ?_
        refine KC.region ?_
        refine KL.op (R.move rfl rfl) rfl rfl rfl ?_
        refine KL.op ((R.eql rfl rfl rfl).val (congrArg Value.bool (decide_eq_false (by omega)))) rfl rfl rfl ?_
        refine KL.nil ?_
        refine KQ.seq ?_
        refine KC.condF rfl ?_
        refine KC.skip ?_
        refine KQ.seq ?_
        refine KC.seq ?_
        refine KC.region ?_
        refine KL.op (R.move rfl rfl) rfl rfl rfl ?_
        refine KL.op (R.convBS rfl Tryd.underlying22 Tryd.underlying5 Tryd.underlying9 rfl (sb.old o0)) rfl rfl rfl ?_
        refine KL.op (R.assign rfl rfl) rfl rfl rfl ?_
        refine KL.nil ?_
        refine KQ.seq ?_
        refine KC.seq ?_
        refine KC.region ?_
        refine KL.op (R.move rfl rfl) rfl rfl rfl ?_
        refine KL.call rfl rfl rfl rfl Tryd.call9 rfl rfl rfl (Split_or _ _ (sb.old o0) (hT.old o0) (by omega)) ?_
        rintro u8_ H6 ⟨ox, hR⟩
        have zc_H6 := (ox).1
        have o0 := o0.trans ox
        rcases hR with ⟨hsp, rfl⟩ | ⟨m, vm, hsp, rfl, sm⟩
        · skip
          refine KL.op (R.move rfl rfl) rfl rfl rfl ?_
          refine KL.op (R.extract rfl rfl rfl) rfl rfl rfl ?_
          refine KL.op (R.extract rfl rfl rfl) rfl rfl rfl ?_
          refine KL.op (R.assign rfl rfl) rfl rfl rfl ?_
          refine KL.op (R.assign rfl rfl) rfl rfl rfl ?_
          refine KL.nil ?_
          refine KQ.seq ?_
          refine KC.seq ?_
          refine KC.seq ?_
          refine KC.region ?_
          refine KL.op (R.move rfl rfl) rfl rfl rfl ?_
          refine KL.op ((R.neq rfl rfl rfl).val ((congrArg (fun b => Value.bool (!b)) (decide_eq_false (by omega))))) rfl rfl rfl ?_
          refine KL.nil ?_
          refine KQ.seq ?_
          refine KC.condT rfl ?_
          refine KC.seq ?_
          refine KC.region ?_
          refine KL.op (R.move rfl rfl) rfl rfl rfl ?_
          refine KL.op ((by first | exact R.lenS rfl Tryd.underlying24 rfl (by first | assumption) | exact R.len (ty := 0) rfl Tryd.underlying24 rfl)) rfl rfl rfl ?_
          refine KL.op ((R.eql rfl rfl rfl).val (congrArg Value.bool (decide_eq_true (by rfl)))) rfl rfl rfl ?_
          refine KL.op (R.move rfl rfl) rfl rfl rfl ?_
          refine KL.op (R.move rfl rfl) rfl rfl rfl ?_
          refine KL.op (R.convBS rfl Tryd.underlying22 Tryd.underlying5 Tryd.underlying9 rfl (sb.old o0)) rfl rfl rfl ?_
          refine KL.op (R.move rfl rfl) rfl rfl rfl ?_
          refine KL.op ((R.eqlStr rfl rfl rfl).val (congrArg Value.bool ((bstr_eq sb.int_range sb.int_range).trans (decide_eq_true rfl)))) rfl rfl rfl ?_
          refine KL.op (R.pick rfl rfl rfl) rfl rfl rfl ?_
          refine KL.op (R.assign rfl rfl) rfl rfl rfl ?_
          refine KL.nil ?_
          refine KQ.seq ?_
          refine KC.ret ?_
          refine KQ.retThen ?_
          refine KQ.ofRet ?_
          refine KQ.fin1 Tryd.results5 rfl ?_
          exact ⟨rfl, o0⟩
        · skip
          obtain ⟨c, hj2, hcl, hc2⟩ := Sc.join_split hsp
          have hbm := Sc.split_body hsp
          have hfew := Sc.split_few hsp
          refine KL.op (R.move rfl rfl) rfl rfl rfl ?_
          refine KL.op (R.extract rfl rfl rfl) rfl rfl rfl ?_
          refine KL.op (R.extract rfl rfl rfl) rfl rfl rfl ?_
          refine KL.op (R.assign rfl rfl) rfl rfl rfl ?_
          refine KL.op (R.assign rfl rfl) rfl rfl rfl ?_
          refine KL.nil ?_
          refine KQ.seq ?_
          refine KC.seq ?_
          refine KC.seq ?_
          refine KC.region ?_
          refine KL.op (R.move rfl rfl) rfl rfl rfl ?_
          refine KL.op ((R.neq rfl rfl rfl).val ((congrArg (fun b => Value.bool (!b)) (decide_eq_true (by rfl))))) rfl rfl rfl ?_
          refine KL.nil ?_
          refine KQ.seq ?_
          refine KC.condF rfl ?_
          refine KC.skip ?_
          refine KQ.seq ?_
          refine KC.seq ?_
          refine KC.region ?_
          refine KL.op (R.move rfl rfl) rfl rfl rfl ?_
          refine KL.call rfl rfl rfl rfl Tryd.call13 rfl rfl rfl (Join_is _ _ sm (by omega) (o := some c) hj2) ?_
          rintro _ H7 ⟨ox, vc, rfl, sc⟩
          have zc_H7 := (ox).1
          have o0 := o0.trans ox
          have sm := sm.old ox
          refine KL.op (R.move rfl rfl) rfl rfl rfl ?_
          refine KL.op (R.extract rfl rfl rfl) rfl rfl rfl ?_
          refine KL.op (R.extract rfl rfl rfl) rfl rfl rfl ?_
          refine KL.op (R.assign rfl rfl) rfl rfl rfl ?_
          refine KL.op (R.assign rfl rfl) rfl rfl rfl ?_
          refine KL.nil ?_
          refine KQ.seq ?_
          refine KC.seq ?_
          refine KC.region ?_
          refine KL.op (R.move rfl rfl) rfl rfl rfl ?_
          refine KL.call rfl rfl rfl rfl Tryd.call9 rfl rfl rfl (Split_is _ _ sc (hT.old o0) (by omega) (o := some m) hc2) ?_
          rintro _ H8 ⟨ox, vk, rfl, sk⟩
          have zc_H8 := (ox).1
          have o0 := o0.trans ox
          have sm := sm.old ox
          have sc := sc.old ox
          refine KL.op (R.move rfl rfl) rfl rfl rfl ?_
          refine KL.op (R.extract rfl rfl rfl) rfl rfl rfl ?_
          refine KL.op (R.extract rfl rfl rfl) rfl rfl rfl ?_
          refine KL.op (R.assign rfl rfl) rfl rfl rfl ?_
          refine KL.op (R.assign rfl rfl) rfl rfl rfl ?_
          refine KL.nil ?_
          refine KQ.seq ?_
          refine KC.seq ?_
          refine KC.region ?_
          refine KL.op (R.move rfl rfl) rfl rfl rfl ?_
          refine KL.op ((R.eql rfl rfl rfl).val (congrArg Value.bool (decide_eq_true (by rfl)))) rfl rfl rfl ?_
          refine KL.op (R.move rfl rfl) rfl rfl rfl ?_
          refine KL.op (R.move rfl rfl) rfl rfl rfl ?_
          refine KL.op (R.lenS rfl Tryd.underlying22 rfl sc) rfl rfl rfl ?_
          refine KL.op (R.move rfl rfl) rfl rfl rfl ?_
          refine KL.op (R.lenS rfl Tryd.underlying22 rfl sb) rfl rfl rfl ?_
          refine KL.op ((R.leq rfl rfl rfl).val (congrArg Value.bool (decide_eq_true (by omega)))) rfl rfl rfl ?_
          refine KL.op (R.pick rfl rfl rfl) rfl rfl rfl ?_
          refine KL.op (R.move rfl rfl) rfl rfl rfl ?_
          refine KL.op (R.move rfl rfl) rfl rfl rfl ?_
          refine KL.op ((R.eql rfl rfl rfl).val (congrArg Value.bool (decide_eq_true (by rfl)))) rfl rfl rfl ?_
          refine KL.op (R.pick rfl rfl rfl) rfl rfl rfl ?_
          refine KL.op (R.move rfl rfl) rfl rfl rfl ?_
          refine KL.op (R.move rfl rfl) rfl rfl rfl ?_
          refine KL.op (R.move rfl rfl) rfl rfl rfl ?_
          refine KL.call rfl rfl rfl rfl Tryd.call15 rfl rfl rfl (others_any _ _ sm (by omega)) ?_
          rintro vl2 H9 ⟨sl2, ox⟩
          have zc_H9 := (ox).1
          have o0 := o0.trans ox
          have sm := sm.old ox
          have sc := sc.old ox
          have sk := sk.old ox
          refine KL.call rfl rfl rfl rfl Tryd.call11 rfl rfl rfl (same_is _ _ _ _ sk sl2 (b := true) (decide_eq_true rfl)) ?_
          rintro _ H10 ⟨rfl, ox⟩
          have zc_H10 := (ox).1
          have o0 := o0.trans ox
          have sm := sm.old ox
          have sc := sc.old ox
          have sk := sk.old ox
          have sl2 := sl2.old ox
          refine KL.op (R.pick rfl rfl rfl) rfl rfl rfl ?_
          refine KL.op (R.move rfl rfl) rfl rfl rfl ?_
          refine KL.op (R.move rfl rfl) rfl rfl rfl ?_
          refine KL.op (R.convBS rfl Tryd.underlying22 Tryd.underlying5 Tryd.underlying9 rfl (sb.old o0)) rfl rfl rfl ?_
          refine KL.op (R.move rfl rfl) rfl rfl rfl ?_
          refine KL.op ((R.eqlStr rfl rfl rfl).val (congrArg Value.bool ((bstr_eq sb.int_range sb.int_range).trans (decide_eq_true rfl)))) rfl rfl rfl ?_
          refine KL.op (R.pick rfl rfl rfl) rfl rfl rfl ?_
          refine KL.op (R.assign rfl rfl) rfl rfl rfl ?_
          refine KL.nil ?_
          refine KQ.seq ?_
          refine KC.ret ?_
          refine KQ.ofRet ?_
          refine KQ.fin1 Tryd.results5 rfl ?_
          exact ⟨rfl, o0⟩
      · skip
        have hcl0 := Sc.join_len hjn
        refine KL.op (R.move rfl rfl) rfl rfl rfl ?_
        refine KL.op (R.extract rfl rfl rfl) rfl rfl rfl ?_
        refine KL.op (R.extract rfl rfl rfl) rfl rfl rfl ?_
        refine KL.op (R.assign rfl rfl) rfl rfl rfl ?_
        refine KL.op (R.assign rfl rfl) rfl rfl rfl ?_
        refine KL.nil ?_
        refine KQ.seq ?_
        refine KC.seq ?_
        refine KC.region ?_
        refine KL.op (R.move rfl rfl) rfl rfl rfl ?_
        refine KL.op ((R.eql rfl rfl rfl).val (congrArg Value.bool (decide_eq_true (by rfl)))) rfl rfl rfl ?_
        refine KL.nil ?_
        refine KQ.seq ?_
        refine KC.condT rfl ?_
        refine KC.seq ?_
        refine KC.region ?_
        refine KL.op (R.move rfl rfl) rfl rfl rfl ?_
        refine KL.call rfl rfl rfl rfl Tryd.call9 rfl rfl rfl (Split_is _ _ sj (hT.old o0) (by omega) (o := some l) (Sc.split_join hjn hsm)) ?_
        rintro _ H11 ⟨ox, vs, rfl, so⟩
        have zc_H11 := (ox).1
        have o0 := o0.trans ox
        have sj := sj.old ox
        refine KL.op (R.move rfl rfl) rfl rfl rfl ?_
        refine KL.op (R.extract rfl rfl rfl) rfl rfl rfl ?_
        refine KL.op (R.extract rfl rfl rfl) rfl rfl rfl ?_
        refine KL.op (R.assign rfl rfl) rfl rfl rfl ?_
        refine KL.op (R.assign rfl rfl) rfl rfl rfl ?_
        refine KL.nil ?_
        refine KQ.seq ?_
        refine KC.seq ?_
        refine KC.region ?_
        refine KL.op (R.move rfl rfl) rfl rfl rfl ?_
        refine KL.op ((R.neq rfl rfl rfl).val ((congrArg (fun b => Value.bool (!b)) (decide_eq_true (by rfl))))) rfl rfl rfl ?_
        refine KL.op (R.move rfl rfl) rfl rfl rfl ?_
        refine KL.op (R.move rfl rfl) rfl rfl rfl ?_
        refine KL.op (R.move rfl rfl) rfl rfl rfl ?_
        refine KL.call rfl rfl rfl rfl Tryd.call15 rfl rfl rfl (others_any _ _ (hs.old o0) (by omega)) ?_
        rintro vl H12 ⟨sl, ox⟩
        have zc_H12 := (ox).1
        have o0 := o0.trans ox
        have sj := sj.old ox
        have so := so.old ox
        refine KL.call rfl rfl rfl rfl Tryd.call11 rfl rfl rfl (same_is _ _ _ _ so sl (b := true) (decide_eq_true rfl)) ?_
        rintro _ H13 ⟨rfl, ox⟩
        have zc_H13 := (ox).1
        have o0 := o0.trans ox
        have sj := sj.old ox
        have so := so.old ox
        have sl := sl.old ox
        refine KL.op (R.not rfl rfl) rfl rfl rfl ?_
        refine KL.op (R.pick rfl rfl rfl) rfl rfl rfl ?_
        refine KL.nil ?_
        refine KQ.seq ?_
        refine KC.condF rfl ?_
        refine KC.skip ?_
        refine KQ.seq ?_
        refine KC.seq ?_
        refine KC.region ?_
        refine KL.op (R.move rfl rfl) rfl rfl rfl ?_
        refine KL.op (R.convBS rfl Tryd.underlying22 Tryd.underlying5 Tryd.underlying9 rfl (sb.old o0)) rfl rfl rfl ?_
        refine KL.op (R.assign rfl rfl) rfl rfl rfl ?_
        refine KL.nil ?_
        refine KQ.seq ?_
        refine KC.seq ?_
        refine KC.region ?_
        refine KL.op (R.move rfl rfl) rfl rfl rfl ?_
        refine KL.call rfl rfl rfl rfl Tryd.call9 rfl rfl rfl (Split_or _ _ (sb.old o0) (hT.old o0) (by omega)) ?_
        rintro u8_ H14 ⟨ox, hR⟩
        have zc_H14 := (ox).1
        have o0 := o0.trans ox
        have sj := sj.old ox
        have so := so.old ox
        have sl := sl.old ox
        rcases hR with ⟨hsp, rfl⟩ | ⟨m, vm, hsp, rfl, sm⟩
        · skip
          refine KL.op (R.move rfl rfl) rfl rfl rfl ?_
          refine KL.op (R.extract rfl rfl rfl) rfl rfl rfl ?_
          refine KL.op (R.extract rfl rfl rfl) rfl rfl rfl ?_
          refine KL.op (R.assign rfl rfl) rfl rfl rfl ?_
          refine KL.op (R.assign rfl rfl) rfl rfl rfl ?_
          refine KL.nil ?_
          refine KQ.seq ?_
          refine KC.seq ?_
          refine KC.seq ?_
          refine KC.region ?_
          refine KL.op (R.move rfl rfl) rfl rfl rfl ?_
          refine KL.op ((R.neq rfl rfl rfl).val ((congrArg (fun b => Value.bool (!b)) (decide_eq_false (by omega))))) rfl rfl rfl ?_
          refine KL.nil ?_
          refine KQ.seq ?_
          refine KC.condT rfl ?_
          refine KC.seq ?_
          refine KC.region ?_
          refine KL.op (R.move rfl rfl) rfl rfl rfl ?_
          refine KL.op ((by first | exact R.lenS rfl Tryd.underlying24 rfl (by first | exact sj | exact so | exact sl | assumption) | exact R.len (ty := 0) rfl Tryd.underlying24 rfl)) rfl rfl rfl ?_
          refine KL.op ((R.eql rfl rfl rfl).val (congrArg Value.bool (decide_eq_true (by rfl)))) rfl rfl rfl ?_
          refine KL.op (R.move rfl rfl) rfl rfl rfl ?_
          refine KL.op (R.move rfl rfl) rfl rfl rfl ?_
          refine KL.op (R.convBS rfl Tryd.underlying22 Tryd.underlying5 Tryd.underlying9 rfl (sb.old o0)) rfl rfl rfl ?_
          refine KL.op (R.move rfl rfl) rfl rfl rfl ?_
          refine KL.op ((R.eqlStr rfl rfl rfl).val (congrArg Value.bool ((bstr_eq sb.int_range sb.int_range).trans (decide_eq_true rfl)))) rfl rfl rfl ?_
          refine KL.op (R.pick rfl rfl rfl) rfl rfl rfl ?_
          refine KL.op (R.assign rfl rfl) rfl rfl rfl ?_
          refine KL.nil ?_
          refine KQ.seq ?_
          refine KC.ret ?_
          refine KQ.retThen ?_
          refine KQ.ofRet ?_
          refine KQ.fin1 Tryd.results5 rfl ?_
          exact ⟨rfl, o0⟩
        · skip
          obtain ⟨c, hj2, hcl, hc2⟩ := Sc.join_split hsp
          have hbm := Sc.split_body hsp
          have hfew := Sc.split_few hsp
          refine KL.op (R.move rfl rfl) rfl rfl rfl ?_
          refine KL.op (R.extract rfl rfl rfl) rfl rfl rfl ?_
          refine KL.op (R.extract rfl rfl rfl) rfl rfl rfl ?_
          refine KL.op (R.assign rfl rfl) rfl rfl rfl ?_
          refine KL.op (R.assign rfl rfl) rfl rfl rfl ?_
          refine KL.nil ?_
          refine KQ.seq ?_
          refine KC.seq ?_
          refine KC.seq ?_
          refine KC.region ?_
          refine KL.op (R.move rfl rfl) rfl rfl rfl ?_
          refine KL.op ((R.neq rfl rfl rfl).val ((congrArg (fun b => Value.bool (!b)) (decide_eq_true (by rfl))))) rfl rfl rfl ?_
          refine KL.nil ?_
          refine KQ.seq ?_
          refine KC.condF rfl ?_
          refine KC.skip ?_
          refine KQ.seq ?_
          refine KC.seq ?_
          refine KC.region ?_
          refine KL.op (R.move rfl rfl) rfl rfl rfl ?_
          refine KL.call rfl rfl rfl rfl Tryd.call13 rfl rfl rfl (Join_is _ _ sm (by omega) (o := some c) hj2) ?_
          rintro _ H15 ⟨ox, vc, rfl, sc⟩
          have zc_H15 := (ox).1
          have o0 := o0.trans ox
          have sj := sj.old ox
          have so := so.old ox
          have sl := sl.old ox
          have sm := sm.old ox
          refine KL.op (R.move rfl rfl) rfl rfl rfl ?_
          refine KL.op (R.extract rfl rfl rfl) rfl rfl rfl ?_
          refine KL.op (R.extract rfl rfl rfl) rfl rfl rfl ?_
          refine KL.op (R.assign rfl rfl) rfl rfl rfl ?_
          refine KL.op (R.assign rfl rfl) rfl rfl rfl ?_
          refine KL.nil ?_
          refine KQ.seq ?_
          refine KC.seq ?_
          refine KC.region ?_
          refine KL.op (R.move rfl rfl) rfl rfl rfl ?_
          refine KL.call rfl rfl rfl rfl Tryd.call9 rfl rfl rfl (Split_is _ _ sc (hT.old o0) (by omega) (o := some m) hc2) ?_
          rintro _ H16 ⟨ox, vk, rfl, sk⟩
          have zc_H16 := (ox).1
          have o0 := o0.trans ox
          have sj := sj.old ox
          have so := so.old ox
          have sl := sl.old ox
          have sm := sm.old ox
          have sc := sc.old ox
          refine KL.op (R.move rfl rfl) rfl rfl rfl ?_
          refine KL.op (R.extract rfl rfl rfl) rfl rfl rfl ?_
          refine KL.op (R.extract rfl rfl rfl) rfl rfl rfl ?_
          refine KL.op (R.assign rfl rfl) rfl rfl rfl ?_
          refine KL.op (R.assign rfl rfl) rfl rfl rfl ?_
          refine KL.nil ?_
          refine KQ.seq ?_
          refine KC.seq ?_
          refine KC.region ?_
          refine KL.op (R.move rfl rfl) rfl rfl rfl ?_
          refine KL.op ((R.eql rfl rfl rfl).val (congrArg Value.bool (decide_eq_true (by rfl)))) rfl rfl rfl ?_
          refine KL.op (R.move rfl rfl) rfl rfl rfl ?_
          refine KL.op (R.move rfl rfl) rfl rfl rfl ?_
          refine KL.op (R.lenS rfl Tryd.underlying22 rfl sc) rfl rfl rfl ?_
          refine KL.op (R.move rfl rfl) rfl rfl rfl ?_
          refine KL.op (R.lenS rfl Tryd.underlying22 rfl sb) rfl rfl rfl ?_
          refine KL.op ((R.leq rfl rfl rfl).val (congrArg Value.bool (decide_eq_true (by omega)))) rfl rfl rfl ?_
          refine KL.op (R.pick rfl rfl rfl) rfl rfl rfl ?_
          refine KL.op (R.move rfl rfl) rfl rfl rfl ?_
          refine KL.op (R.move rfl rfl) rfl rfl rfl ?_
          refine KL.op ((R.eql rfl rfl rfl).val (congrArg Value.bool (decide_eq_true (by rfl)))) rfl rfl rfl ?_
          refine KL.op (R.pick rfl rfl rfl) rfl rfl rfl ?_
          refine KL.op (R.move rfl rfl) rfl rfl rfl ?_
          refine KL.op (R.move rfl rfl) rfl rfl rfl ?_
          refine KL.op (R.move rfl rfl) rfl rfl rfl ?_
          refine KL.call rfl rfl rfl rfl Tryd.call15 rfl rfl rfl (others_any _ _ sm (by omega)) ?_
          rintro vl2 H17 ⟨sl2, ox⟩
          have zc_H17 := (ox).1
          have o0 := o0.trans ox
          have sj := sj.old ox
          have so := so.old ox
          have sl := sl.old ox
          have sm := sm.old ox
          have sc := sc.old ox
          have sk := sk.old ox
          refine KL.call rfl rfl rfl rfl Tryd.call11 rfl rfl rfl (same_is _ _ _ _ sk sl2 (b := true) (decide_eq_true rfl)) ?_
          rintro _ H18 ⟨rfl, ox⟩
          have zc_H18 := (ox).1
          have o0 := o0.trans ox
          have sj := sj.old ox
          have so := so.old ox
          have sl := sl.old ox
          have sm := sm.old ox
          have sc := sc.old ox
          have sk := sk.old ox
          have sl2 := sl2.old ox
          refine KL.op (R.pick rfl rfl rfl) rfl rfl rfl ?_
          refine KL.op (R.move rfl rfl) rfl rfl rfl ?_
          refine KL.op (R.move rfl rfl) rfl rfl rfl ?_
          refine KL.op (R.convBS rfl Tryd.underlying22 Tryd.underlying5 Tryd.underlying9 rfl (sb.old o0)) rfl rfl rfl ?_
          refine KL.op (R.move rfl rfl) rfl rfl rfl ?_
          refine KL.op ((R.eqlStr rfl rfl rfl).val (congrArg Value.bool ((bstr_eq sb.int_range sb.int_range).trans (decide_eq_true rfl)))) rfl rfl rfl ?_
          refine KL.op (R.pick rfl rfl rfl) rfl rfl rfl ?_
          refine KL.op (R.assign rfl rfl) rfl rfl rfl ?_
          refine KL.nil ?_
          refine KQ.seq ?_
          refine KC.ret ?_
          refine KQ.ofRet ?_
          refine KQ.fin1 Tryd.results5 rfl ?_
          exact ⟨rfl, o0⟩

end Go.Proofs.YtnbdadjomnpcgaaDoor
