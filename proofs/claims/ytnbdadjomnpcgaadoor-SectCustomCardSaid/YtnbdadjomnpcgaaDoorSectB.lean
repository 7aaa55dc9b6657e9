/- The document splits bytes into sections; sections are compared. No condition but those that each states. -/
import Derived.Test.YtnbdadjomnpcgaaDoorSectQ
import Derived.Test.YtnbdadjomnpcgaaDoorSectA
namespace Go.Proofs.YtnbdadjomnpcgaaDoor
open Go Go.RowKit
set_option linter.unusedVariables false
set_option linter.unusedSimpArgs false
set_option linter.unnecessarySimpa false
set_option maxRecDepth 100000 in
set_option maxHeartbeats 4000000 in
theorem same_any {H : Heap} (va vb : Value) (la lb : List Sec) (sa : Sl 2 ESec H va la) (sb : Sl 2 ESec H vb lb) : Ct Tryd.prog 11 [va, vb] H (fun u H' => u = .bool (decide (la = lb)) ∧ Old H H') := by
  refine Ct.mk Tryd.func11 rfl Tryd.ntmps11 rfl ?_
  intro W0 hW0
  have o0 : Old H H := Old.refl H
  have lla := sa.len
  have llb := sb.len
  refine KC.seq ?_
  refine KC.region ?_
  refine KL.op (R.assign rfl rfl) rfl rfl rfl ?_
  refine KL.nil ?_
  refine KQ.seq ?_
  refine KC.seq ?_
  refine KC.seq ?_
  refine KC.region ?_
  refine KL.op (R.move rfl rfl) rfl rfl rfl ?_
  refine KL.op (R.lenS rfl Tryd.underlying24 rfl sa) rfl rfl rfl ?_
  refine KL.op (R.move rfl rfl) rfl rfl rfl ?_
  refine KL.op (R.lenS rfl Tryd.underlying28 rfl sb) rfl rfl rfl ?_
  refine KL.op (R.neq rfl rfl rfl) rfl rfl rfl ?_
  refine KL.nil ?_
  refine KQ.seq ?_
  refine KC.iteL rfl ?_ ?_
  · intro hc11
    try simp only [decide_eq_true_eq, decide_eq_false_iff_not, Bool.not_eq_true', Bool.not_eq_false', Bool.and_eq_true, Bool.or_eq_false_iff] at hc11
    refine KC.seq ?_
    refine KC.region ?_
    refine KL.op (R.assign rfl rfl) rfl rfl rfl ?_
    refine KL.nil ?_
    refine KQ.seq ?_
    refine KC.ret ?_
    refine KQ.retThen ?_
    refine KQ.ofRet ?_
    refine KQ.fin1 Tryd.results11 rfl ?_
    first
      | exact ⟨congrArg Value.bool (decide_eq_false (fun e => hc11 (by rw [e]))).symm, o0⟩
      | exact ⟨congrArg Value.bool (decide_eq_true (take_eq_all (by omega) (by omega) ht)).symm, o0⟩
      | exact ⟨congrArg Value.bool (decide_eq_false (ne_getD k (fun e => hg27 (by rw [e])))).symm, o0⟩
      | exact ⟨congrArg Value.bool (decide_eq_false (ne_getD k (fun e => hc38 (by rw [e])))).symm, o0⟩
  · intro hc11
    try simp only [decide_eq_true_eq, decide_eq_false_iff_not, Bool.not_eq_true', Bool.not_eq_false', Bool.and_eq_true, Bool.or_eq_false_iff] at hc11
    refine KC.skip ?_
    refine KQ.seq ?_
    refine KC.seq ?_
    refine KC.seq ?_
    refine KC.region ?_
    refine KL.op (R.move rfl rfl) rfl rfl rfl ?_
    refine KL.op (R.lenS rfl Tryd.underlying24 rfl sa) rfl rfl rfl ?_
    refine KL.op (R.move rfl rfl) rfl rfl rfl ?_
    refine KL.nil ?_
    refine KQ.seq ?_
    refine KC.block ?_
    refine KC.loopD (κ := Nat) [15, 16, 17, 18, 6, 5, 19, 20, 21, 22, 23, 24, 25, 26, 27, 28, 29, 30, 31, 32, 33, 34, 35, 36, 37, 38, 4, 39, 14] (fun k => [(14, .int .i64 (k : Nat))]) (fun k Hl => k ≤ la.length ∧ la.take k = lb.take k ∧ Old H Hl) (fun k => la.length - k) 0 ?_ ?_ ?_
    · exact (Sub.cons rfl (Ext.sub (Ext.refl _ _)))
    · exact ⟨Nat.zero_le _, rfl, o0⟩
    · rintro k H1 ⟨hk, ht, o0⟩
      have zl_H1 := o0.1
      have oK : Old H1 H1 := Old.refl _
      refine KC.seq ?_
      refine KC.region ?_
      refine KL.op (R.lss rfl rfl rfl) rfl rfl rfl ?_
      refine KL.nil ?_
      refine KQ.seq ?_
      refine KC.seq ?_
      refine KC.iteL rfl ?_ ?_
      · intro hc15
        try simp only [decide_eq_true_eq, decide_eq_false_iff_not, Bool.not_eq_true', Bool.not_eq_false', Bool.and_eq_true, Bool.or_eq_false_iff] at hc15
        obtain ⟨u, hcx, hu0, q0⟩ := (sa.old o0).secAt k (by omega)
        obtain ⟨w, hcw0, hw0, q1⟩ := (sb.old o0).secAt k (by omega)
        refine KC.skip ?_
        refine KQ.seq ?_
        refine KC.seq ?_
        refine KC.block ?_
        refine KC.seq ?_
        refine KC.region ?_
        refine KL.op (R.move rfl rfl) rfl rfl rfl ?_
        refine KL.op (R.index (j := k) rfl Tryd.underlying24 sz35 rfl rfl (sa.old o0) rfl (by omega)) rfl rfl rfl ?_
        refine KL.op (R.loadAgg rfl Tryd.underlying35 rfl sz35 rfl hcx rfl) rfl rfl rfl ?_
        refine KL.opM (M.alloc rfl zr35 rfl) rfl rfl rfl ?_
        rintro _ H2 ⟨rfl, n2⟩
        have z2 := n2.2.1
        have o0 := o0.trans n2.1
        have oK := oK.trans n2.1
        have b2 := n2.2.2
        have bx := b2
        refine KL.op (R.assign rfl rfl) rfl rfl rfl ?_
        refine KL.opS (S.storeAgg rfl sz35 rfl rfl (rfl) (by intro q hq; simp only [List.mem_cons, List.not_mem_nil, or_false] at hq; rcases hq with rfl | rfl <;> first | rfl | exact hu0.one) bx (by simp)) rfl rfl ?_
        rintro H3 ⟨u3, b3⟩
        have o0 := o0.upd u3 (by omega)
        have zu3 := u3.1
        have oK := oK.upd u3 (by omega)
        have bx := b3
        have hu := hu0.old oK
        have hw := hw0.old oK
        have hcw := oK.cells hcw0
        refine KL.nil ?_
        refine KQ.seq ?_
        refine KC.seq ?_
        refine KC.quiet (by kernel_rfl) (by kernel_rfl) ?_
        refine KD.op ((by first | exact R.fieldAddr rfl Tryd.underlying35 rfl rfl sz5 rfl | exact R.fieldAddrP rfl Tryd.underlying35 rfl rfl sz5 rfl)) rfl rfl rfl ?_
        refine KD.op (R.load rfl Tryd.underlying5 rfl rfl (by first | exact cell_of bx rfl | assumption)) rfl rfl rfl ?_
        refine KD.op (R.move rfl rfl) rfl rfl rfl ?_
        refine KD.op (R.move rfl rfl) rfl rfl rfl ?_
        refine KD.op (R.index (j := k) rfl Tryd.underlying28 sz51 rfl rfl (sb.old o0) rfl (by omega)) rfl rfl rfl ?_
        refine KD.op ((by first | exact R.fieldAddr rfl Tryd.underlying51 rfl rfl sz5 rfl | exact R.fieldAddrP rfl Tryd.underlying51 rfl rfl sz5 rfl)) rfl rfl rfl ?_
        refine KD.op (R.load rfl Tryd.underlying5 rfl rfl (hcw 0 _ rfl)) rfl rfl rfl ?_
        refine KD.op (R.neq rfl rfl rfl) rfl rfl rfl ?_
        refine KD.op (R.move rfl rfl) rfl rfl rfl ?_
        refine KD.case (d := 27) rfl ?_ ?_
        · intro hg27
          try simp only [decide_eq_true_eq, decide_eq_false_iff_not, Bool.not_eq_true', Bool.not_eq_false', Bool.and_eq_true, Bool.or_eq_false_iff] at hg27
          refine KD.skip rfl rfl rfl ?_
          refine KD.skip rfl rfl rfl ?_
          refine KD.skip rfl rfl rfl ?_
          refine KD.skip rfl rfl rfl ?_
          refine KD.skip rfl rfl rfl ?_
          refine KD.skip rfl rfl rfl ?_
          refine KD.skip rfl rfl rfl ?_
          refine KD.skip rfl rfl rfl ?_
          refine KD.skip rfl rfl rfl ?_
          refine KD.skip rfl rfl rfl ?_
          refine KD.op (R.pick rfl rfl rfl) rfl rfl rfl ?_
          refine KD.nil ?_
          refine KQ.seq ?_
          refine KC.condT rfl ?_
          refine KC.seq ?_
          refine KC.region ?_
          refine KL.op (R.assign rfl rfl) rfl rfl rfl ?_
          refine KL.nil ?_
          refine KQ.seq ?_
          refine KC.ret ?_
          refine KQ.retBlock ?_
          refine KQ.retThen ?_
          refine KQ.retThen ?_
          refine KQ.retBlock ?_
          refine KQ.retThen ?_
          refine KQ.ofRet ?_
          refine KQ.fin1 Tryd.results11 rfl ?_
          first
            | exact ⟨congrArg Value.bool (decide_eq_false (fun e => hc11 (by rw [e]))).symm, o0⟩
            | exact ⟨congrArg Value.bool (decide_eq_true (take_eq_all (by omega) (by omega) ht)).symm, o0⟩
            | exact ⟨congrArg Value.bool (decide_eq_false (ne_getD k (fun e => hg27 (by rw [e])))).symm, o0⟩
            | exact ⟨congrArg Value.bool (decide_eq_false (ne_getD k (fun e => hc38 (by rw [e])))).symm, o0⟩
        · intro hg27
          try simp only [decide_eq_true_eq, decide_eq_false_iff_not, Bool.not_eq_true', Bool.not_eq_false', Bool.and_eq_true, Bool.or_eq_false_iff] at hg27
          refine KD.op ((by first | exact R.fieldAddr rfl Tryd.underlying35 rfl rfl sz22 rfl | exact R.fieldAddrP rfl Tryd.underlying35 rfl rfl sz22 rfl)) rfl rfl rfl ?_
          refine KD.op (R.load rfl Tryd.underlying22 rfl rfl (by first | exact cell_of bx rfl | assumption)) rfl rfl rfl ?_
          refine KD.op (R.convBS rfl Tryd.underlying22 Tryd.underlying5 Tryd.underlying9 rfl hu) rfl rfl rfl ?_
          refine KD.op (R.move rfl rfl) rfl rfl rfl ?_
          refine KD.op (R.move rfl rfl) rfl rfl rfl ?_
          refine KD.op (R.index (j := k) rfl Tryd.underlying28 sz51 rfl rfl (sb.old o0) rfl (by omega)) rfl rfl rfl ?_
          refine KD.op ((by first | exact R.fieldAddr rfl Tryd.underlying51 rfl rfl sz22 rfl | exact R.fieldAddrP rfl Tryd.underlying51 rfl rfl sz22 rfl)) rfl rfl rfl ?_
          refine KD.op (R.load rfl Tryd.underlying22 rfl rfl (hcw 1 _ rfl)) rfl rfl rfl ?_
          refine KD.op (R.convBS rfl Tryd.underlying22 Tryd.underlying5 Tryd.underlying9 rfl hw) rfl rfl rfl ?_
          refine KD.op ((R.neqStr rfl rfl rfl).val (congrArg (fun b => Value.bool (!b)) (bstr_eq hu.int_range hw.int_range))) rfl rfl rfl ?_
          refine KD.op (R.pick rfl rfl rfl) rfl rfl rfl ?_
          refine KD.nil ?_
          refine KQ.seq ?_
          refine KC.iteL rfl ?_ ?_
          · intro hc38
            try simp only [decide_eq_true_eq, decide_eq_false_iff_not, Bool.not_eq_true', Bool.not_eq_false', Bool.and_eq_true, Bool.or_eq_false_iff] at hc38
            refine KC.seq ?_
            refine KC.region ?_
            refine KL.op (R.assign rfl rfl) rfl rfl rfl ?_
            refine KL.nil ?_
            refine KQ.seq ?_
            refine KC.ret ?_
            refine KQ.retBlock ?_
            refine KQ.retThen ?_
            refine KQ.retThen ?_
            refine KQ.retBlock ?_
            refine KQ.retThen ?_
            refine KQ.ofRet ?_
            refine KQ.fin1 Tryd.results11 rfl ?_
            first
              | exact ⟨congrArg Value.bool (decide_eq_false (fun e => hc11 (by rw [e]))).symm, o0⟩
              | exact ⟨congrArg Value.bool (decide_eq_true (take_eq_all (by omega) (by omega) ht)).symm, o0⟩
              | exact ⟨congrArg Value.bool (decide_eq_false (ne_getD k (fun e => hg27 (by rw [e])))).symm, o0⟩
              | exact ⟨congrArg Value.bool (decide_eq_false (ne_getD k (fun e => hc38 (by rw [e])))).symm, o0⟩
          · intro hc38
            try simp only [decide_eq_true_eq, decide_eq_false_iff_not, Bool.not_eq_true', Bool.not_eq_false', Bool.and_eq_true, Bool.or_eq_false_iff] at hc38
            refine KC.skip ?_
            refine KQ.normBlock ?_
            refine KQ.seq ?_
            refine KC.region ?_
            refine KL.op ((R.add rfl rfl rfl (by dsimp only [InR]; omega)).val (congrArg (Value.int .i64) (show (k : Int) + 1 = ((k + 1 : Nat) : Int) by omega))) rfl rfl rfl ?_
            refine KL.op (R.move rfl rfl) rfl rfl rfl ?_
            refine KL.nil ?_
            refine KQ.again (k + 1) ?_ ?_ ?_
            · exact (Sub.cons rfl (Ext.sub (by repeat (first | exact Ext.refl _ _ | refine Ext.put rfl ?_ | refine Ext.drop rfl ?_))))
            · omega
            · exact ⟨by omega, take_eq_step (by omega) (by omega) ht (Prod.ext (by omega) (by assumption)), o0⟩
      · intro hc15
        try simp only [decide_eq_true_eq, decide_eq_false_iff_not, Bool.not_eq_true', Bool.not_eq_false', Bool.and_eq_true, Bool.or_eq_false_iff] at hc15
        refine KC.exit ?_
        refine KQ.exitThen ?_
        refine KQ.exitThen ?_
        refine KQ.hit ?_
        refine KQ.seq ?_
        refine KC.seq ?_
        refine KC.region ?_
        refine KL.op (R.assign rfl rfl) rfl rfl rfl ?_
        refine KL.nil ?_
        refine KQ.seq ?_
        refine KC.ret ?_
        refine KQ.ofRet ?_
        refine KQ.fin1 Tryd.results11 rfl ?_
        first
          | exact ⟨congrArg Value.bool (decide_eq_false (fun e => hc11 (by rw [e]))).symm, o0⟩
          | exact ⟨congrArg Value.bool (decide_eq_true (take_eq_all (by omega) (by omega) ht)).symm, o0⟩
          | exact ⟨congrArg Value.bool (decide_eq_false (ne_getD k (fun e => hg27 (by rw [e])))).symm, o0⟩
          | exact ⟨congrArg Value.bool (decide_eq_false (ne_getD k (fun e => hc38 (by rw [e])))).symm, o0⟩

theorem same_is {H : Heap} (va vb : Value) (la lb : List Sec) (sa : Sl 2 ESec H va la) (sb : Sl 2 ESec H vb lb) {b : Bool} (e : decide (la = lb) = b) : Ct Tryd.prog 11 [va, vb] H (fun u H' => u = .bool b ∧ Old H H') := by
  have := same_any va vb la lb sa sb; rw [e] at this; exact this

set_option maxRecDepth 100000 in
set_option maxHeartbeats 4000000 in
theorem E_t {H : Heap} (k : Int) : Ct Tryd.prog 12 [.bool true, .int .i64 k] H (fun u H' => u = .int .i64 0 ∧ H = H') := by
  refine Ct.mk Tryd.func12 rfl Tryd.ntmps12 rfl ?_
  intro W0 hW0
  have o0 : Old H H := Old.refl H
  refine KC.seq ?_
  refine KC.region ?_
  refine KL.op (R.assign rfl rfl) rfl rfl rfl ?_
  refine KL.nil ?_
  refine KQ.seq ?_
  refine KC.seq ?_
  refine KC.seq ?_
  refine KC.region ?_
  refine KL.op (R.move rfl rfl) rfl rfl rfl ?_
  refine KL.nil ?_
  refine KQ.seq ?_
  refine KC.condT rfl ?_
  refine KC.seq ?_
  refine KC.region ?_
  refine KL.op (R.assign rfl rfl) rfl rfl rfl ?_
  refine KL.nil ?_
  refine KQ.seq ?_
  refine KC.ret ?_
  refine KQ.retThen ?_
  refine KQ.ofRet ?_
  refine KQ.fin1 Tryd.results12 rfl ?_
  exact ⟨rfl, rfl⟩

set_option maxRecDepth 100000 in
set_option maxHeartbeats 4000000 in
theorem E_f {H : Heap} (k : Int) : Ct Tryd.prog 12 [.bool false, .int .i64 k] H (fun u H' => u = .int .i64 k ∧ H = H') := by
  refine Ct.mk Tryd.func12 rfl Tryd.ntmps12 rfl ?_
  intro W0 hW0
  have o0 : Old H H := Old.refl H
  refine KC.seq ?_
  refine KC.region ?_
  refine KL.op (R.assign rfl rfl) rfl rfl rfl ?_
  refine KL.nil ?_
  refine KQ.seq ?_
  refine KC.seq ?_
  refine KC.seq ?_
  refine KC.region ?_
  refine KL.op (R.move rfl rfl) rfl rfl rfl ?_
  refine KL.nil ?_
  refine KQ.seq ?_
  refine KC.condF rfl ?_
  refine KC.skip ?_
  refine KQ.seq ?_
  refine KC.seq ?_
  refine KC.region ?_
  refine KL.op (R.move rfl rfl) rfl rfl rfl ?_
  refine KL.op (R.assign rfl rfl) rfl rfl rfl ?_
  refine KL.nil ?_
  refine KQ.seq ?_
  refine KC.ret ?_
  refine KQ.ofRet ?_
  refine KQ.fin1 Tryd.results12 rfl ?_
  exact ⟨rfl, rfl⟩

set_option maxRecDepth 100000 in
set_option maxHeartbeats 4000000 in
theorem RSplit_short {H : Heap} (v : Value) (l : List Int) (hs : Sl 1 (EInt .u8) H v l) (hl : l.length ≤ 100000) (h8 : l.length < 8) : Ct Tryd.prog 10 [v] H (fun u H' => Old H H' ∧ Sc.Res (Sc.split l) (.bool false) (.bool true) u H') := by
  refine Ct.mk Tryd.func10 rfl Tryd.ntmps10 rfl ?_
  intro W0 hW0
  have o0 : Old H H := Old.refl H
  refine KC.seq ?_
  refine KC.region ?_
  refine KL.op (R.assign rfl rfl) rfl rfl rfl ?_
  refine KL.op (R.assign rfl rfl) rfl rfl rfl ?_
  refine KL.nil ?_
  refine KQ.seq ?_
  refine KC.seq ?_
  refine KC.seq ?_
  refine KC.quiet (by kernel_rfl) (by kernel_rfl) ?_
  refine KD.op (R.move rfl rfl) rfl rfl rfl ?_
  refine KD.op (R.lenS rfl Tryd.underlying22 rfl hs) rfl rfl rfl ?_
  refine KD.op ((R.lss rfl rfl rfl).val (congrArg Value.bool (decide_eq_true (by omega)))) rfl rfl rfl ?_
  refine KD.op (R.move rfl rfl) rfl rfl rfl ?_
  refine KD.skip rfl rfl rfl ?_
  refine KD.skip rfl rfl rfl ?_
  refine KD.skip rfl rfl rfl ?_
  refine KD.skip rfl rfl rfl ?_
  refine KD.skip rfl rfl rfl ?_
  refine KD.skip rfl rfl rfl ?_
  refine KD.op (R.pick rfl rfl rfl) rfl rfl rfl ?_
  refine KD.nil ?_
  refine KQ.seq ?_
  refine KC.condT rfl ?_
  refine KC.seq ?_
  refine KC.region ?_
  refine KL.op (R.assign rfl rfl) rfl rfl rfl ?_
  refine KL.op (R.assign rfl rfl) rfl rfl rfl ?_
  refine KL.nil ?_
  refine KQ.seq ?_
  refine KC.ret ?_
  refine KQ.retThen ?_
  refine KQ.ofRet ?_
  refine KQ.fin2 Tryd.results10 rfl rfl ?_
  exact ⟨o0, by unfold Sc.split; rw [if_neg (fun e => by have := congrArg List.length e; rw [List.length_take, show Sc.beg.length = 8 from rfl] at this; omega)]; rfl⟩

set_option maxRecDepth 100000 in
set_option maxHeartbeats 4000000 in
theorem RSplit_no {H : Heap} (v : Value) (l : List Int) (hs : Sl 1 (EInt .u8) H v l) (hl : l.length ≤ 100000) (h8 : 8 ≤ l.length) (hb : ¬ l.take 8 = Sc.beg) : Ct Tryd.prog 10 [v] H (fun u H' => Old H H' ∧ Sc.Res (Sc.split l) (.bool false) (.bool true) u H') := by
  refine Ct.mk Tryd.func10 rfl Tryd.ntmps10 rfl ?_
  intro W0 hW0
  have o0 : Old H H := Old.refl H
  refine KC.seq ?_
  refine KC.region ?_
  refine KL.op (R.assign rfl rfl) rfl rfl rfl ?_
  refine KL.op (R.assign rfl rfl) rfl rfl rfl ?_
  refine KL.nil ?_
  refine KQ.seq ?_
  refine KC.seq ?_
  refine KC.seq ?_
  have s8 : Sl 1 (EInt .u8) H (subV 1 v 0 8) (l.take 8) := by
    have h9 := hs.sub (lo := 0) (hi := 8) (by omega) (by omega)
    rwa [List.drop_zero] at h9
  have os : Old H H := Old.refl _
  have ob := o0
  have s8S := s8
  refine KC.text (clOf [(7, 2), (8, 1)]) (fun _ Hc => Old H Hc) (by kernel_rfl) (by kernel_rfl) (fun _ => Old.refl _) ?_
  refine KP.op rfl (fun Hg og => by have s8 := s8S.old og; have o0 := ob.trans og; exact R.move rfl rfl) rfl rfl rfl ?_
  refine KP.op rfl (fun Hg og => by have s8 := s8S.old og; have o0 := ob.trans og; exact R.lenS rfl Tryd.underlying22 rfl hs) rfl rfl rfl ?_
  refine KP.op rfl (fun Hg og => by have s8 := s8S.old og; have o0 := ob.trans og; exact (R.lss rfl rfl rfl).val (congrArg Value.bool (decide_eq_false (by omega)))) rfl rfl rfl ?_
  refine KP.op rfl (fun Hg og => by have s8 := s8S.old og; have o0 := ob.trans og; exact R.move rfl rfl) rfl rfl rfl ?_
  refine KP.op rfl (fun Hg og => by have s8 := s8S.old og; have o0 := ob.trans og; exact R.move rfl rfl) rfl rfl rfl ?_
  refine KP.op rfl (fun Hg og => by have s8 := s8S.old og; have o0 := ob.trans og; exact R.slice rfl Tryd.underlying22 sz5 rfl hs bnd.no (bnd.mk (r := 8) rfl rfl) (by omega) (by omega)) rfl rfl rfl ?_
  refine KP.op rfl (fun Hg og => by have s8 := s8S.old og; have o0 := ob.trans og; exact R.convBS rfl Tryd.underlying22 Tryd.underlying5 Tryd.underlying9 rfl s8) rfl rfl rfl ?_
  refine KP.call rfl rfl rfl rfl rfl Tryd.call20 rfl rfl rfl (Begin_any) (fun _ _ h _ _ _ => os.trans h.2) ?_
  rintro vg H1 ⟨wg, ox⟩
  have zc_H1 := (ox).1
  have o0 := o0.trans ox
  have os := os.trans ox
  have s8 := s8.old ox
  have sg := wg.sl (emptyOld _) (by omega)
  refine KP.now rfl (R.convBS rfl Tryd.underlying22 Tryd.underlying5 Tryd.underlying9 rfl sg) rfl rfl rfl ?_
  refine KP.op rfl (fun Hg og => by have s8 := s8S.old og; have o0 := ob.trans og; exact (R.neqStr rfl rfl rfl).val (congrArg (fun b => Value.bool (!b)) ((bstr_eq s8.int_range sg.int_range).trans (decide_eq_false hb)))) rfl rfl rfl ?_
  refine KP.op rfl (fun Hg og => by have s8 := s8S.old og; have o0 := ob.trans og; exact R.pick rfl rfl rfl) rfl rfl rfl ?_
  refine KP.nil ?_
  refine KQ.seq ?_
  refine KC.condT rfl ?_
  refine KC.seq ?_
  refine KC.region ?_
  refine KL.op (R.assign rfl rfl) rfl rfl rfl ?_
  refine KL.op (R.assign rfl rfl) rfl rfl rfl ?_
  refine KL.nil ?_
  refine KQ.seq ?_
  refine KC.ret ?_
  refine KQ.retThen ?_
  refine KQ.ofRet ?_
  refine KQ.fin2 Tryd.results10 rfl rfl ?_
  exact ⟨o0, by unfold Sc.split; rw [if_neg hb]; rfl⟩

set_option maxRecDepth 100000 in
set_option maxHeartbeats 4000000 in
theorem RSplit_yes {H : Heap} (v : Value) (l : List Int) (hs : Sl 1 (EInt .u8) H v l) (hl : l.length ≤ 100000) (h8 : 8 ≤ l.length) (hb : l.take 8 = Sc.beg) : Ct Tryd.prog 10 [v] H (fun u H' => Old H H' ∧ Sc.Res (Sc.split l) (.bool false) (.bool true) u H') := by
  refine Ct.mk Tryd.func10 rfl Tryd.ntmps10 rfl ?_
  intro W0 hW0
  have o0 : Old H H := Old.refl H
  have hp0 : 0 < H.size := by have := cell_lt (hs.int 0 (by omega)).1; omega
  have hsp0 : Sc.split l = (Sc.sp (l.drop 8) 0).map ([] ++ ·) := by unfold Sc.split; rw [if_pos hb]; simp
  refine KC.seq ?_
  refine KC.region ?_
  refine KL.op (R.assign rfl rfl) rfl rfl rfl ?_
  refine KL.op (R.assign rfl rfl) rfl rfl rfl ?_
  refine KL.nil ?_
  refine KQ.seq ?_
  refine KC.seq ?_
  refine KC.seq ?_
  have s8 : Sl 1 (EInt .u8) H (subV 1 v 0 8) (l.take 8) := by
    have h9 := hs.sub (lo := 0) (hi := 8) (by omega) (by omega)
    rwa [List.drop_zero] at h9
  have os : Old H H := Old.refl _
  have ob := o0
  have s8S := s8
  refine KC.text (clOf [(7, 2), (8, 1)]) (fun _ Hc => Old H Hc) (by kernel_rfl) (by kernel_rfl) (fun _ => Old.refl _) ?_
  refine KP.op rfl (fun Hg og => by have s8 := s8S.old og; have o0 := ob.trans og; exact R.move rfl rfl) rfl rfl rfl ?_
  refine KP.op rfl (fun Hg og => by have s8 := s8S.old og; have o0 := ob.trans og; exact R.lenS rfl Tryd.underlying22 rfl hs) rfl rfl rfl ?_
  refine KP.op rfl (fun Hg og => by have s8 := s8S.old og; have o0 := ob.trans og; exact (R.lss rfl rfl rfl).val (congrArg Value.bool (decide_eq_false (by omega)))) rfl rfl rfl ?_
  refine KP.op rfl (fun Hg og => by have s8 := s8S.old og; have o0 := ob.trans og; exact R.move rfl rfl) rfl rfl rfl ?_
  refine KP.op rfl (fun Hg og => by have s8 := s8S.old og; have o0 := ob.trans og; exact R.move rfl rfl) rfl rfl rfl ?_
  refine KP.op rfl (fun Hg og => by have s8 := s8S.old og; have o0 := ob.trans og; exact R.slice rfl Tryd.underlying22 sz5 rfl hs bnd.no (bnd.mk (r := 8) rfl rfl) (by omega) (by omega)) rfl rfl rfl ?_
  refine KP.op rfl (fun Hg og => by have s8 := s8S.old og; have o0 := ob.trans og; exact R.convBS rfl Tryd.underlying22 Tryd.underlying5 Tryd.underlying9 rfl s8) rfl rfl rfl ?_
  refine KP.call rfl rfl rfl rfl rfl Tryd.call20 rfl rfl rfl (Begin_any) (fun _ _ h _ _ _ => os.trans h.2) ?_
  rintro vg H1 ⟨wg, ox⟩
  have zc_H1 := (ox).1
  have o0 := o0.trans ox
  have os := os.trans ox
  have s8 := s8.old ox
  have sg := wg.sl (emptyOld _) (by omega)
  refine KP.now rfl (R.convBS rfl Tryd.underlying22 Tryd.underlying5 Tryd.underlying9 rfl sg) rfl rfl rfl ?_
  refine KP.op rfl (fun Hg og => by have s8 := s8S.old og; have o0 := ob.trans og; exact (R.neqStr rfl rfl rfl).val (congrArg (fun b => Value.bool (!b)) ((bstr_eq s8.int_range sg.int_range).trans (decide_eq_true hb)))) rfl rfl rfl ?_
  refine KP.op rfl (fun Hg og => by have s8 := s8S.old og; have o0 := ob.trans og; exact R.pick rfl rfl rfl) rfl rfl rfl ?_
  refine KP.nil ?_
  refine KQ.seq ?_
  refine KC.condF rfl ?_
  refine KC.skip ?_
  refine KQ.seq ?_
  refine KC.seq ?_
  refine KC.region ?_
  refine KL.op (R.assign rfl rfl) rfl rfl rfl ?_
  refine KL.nil ?_
  refine KQ.seq ?_
  refine KC.seq ?_
  refine KC.region ?_
  refine KL.op (R.assign rfl rfl) rfl rfl rfl ?_
  refine KL.nil ?_
  refine KQ.seq ?_
  refine KC.seq ?_
  refine KC.region ?_
  refine KL.op (R.assign rfl rfl) rfl rfl rfl ?_
  refine KL.nil ?_
  refine KQ.seq ?_
  refine KC.seq ?_
  refine KC.block ?_
  refine KC.loopD (κ := Nat × Value × List Sec × Int) [25, 26, 27, 28, 29, 30, 31, 32, 7, 34, 35, 36, 37, 38, 33, 39, 40, 8, 9, 41, 42, 43, 44, 5, 45, 46, 47, 48, 49, 50, 51, 52, 53, 54, 55, 2, 3, 56, 57, 58, 59, 60, 61, 62, 10, 63, 64, 65, 66, 67, 68, 70, 71, 69, 72, 73, 74, 11, 12, 13, 75, 76, 77, 78, 79, 80, 81, 82, 83, 84, 6, 85, 86, 87, 88, 89, 90, 91, 92, 4] (fun k => [(5, .int .i64 (k.1 : Nat)), (6, .int .u8 k.2.2.2), (4, k.2.1)]) (fun k Hl => 8 ≤ k.1 ∧ k.1 ≤ l.length ∧ OwnE 2 ESec 51 H.size Hl k.2.1 [] k.2.2.1 ∧ Sc.split l = (Sc.sp (l.drop k.1) k.2.2.2).map (k.2.2.1 ++ ·) ∧ k.2.2.1.length ≤ k.1 ∧ Old H Hl) (fun k => l.length - k.1) (8, .slice none 0 0, [], 0) ?_ ?_ ?_
  · exact (Sub.cons rfl (Sub.cons rfl (Sub.cons rfl (Ext.sub (Ext.refl _ _)))))
  · exact ⟨Nat.le_refl _, by omega, OwnE.nil _ _ _ _ _ _, hsp0, Nat.zero_le _, o0⟩
  · rintro ⟨at_, vo, acc, last⟩ H2 ⟨ha8, hal, wo, hsp, hle, o0⟩
    have zl_H2 := o0.1
    dsimp only at ha8 hal wo hsp hle
    have zl := o0.1
    refine KC.seq ?_
    refine KC.seq ?_
    refine KC.region ?_
    refine KL.op (R.move rfl rfl) rfl rfl rfl ?_
    refine KL.op (R.move rfl rfl) rfl rfl rfl ?_
    refine KL.op (R.lenS rfl Tryd.underlying22 rfl hs) rfl rfl rfl ?_
    refine KL.op (R.lss rfl rfl rfl) rfl rfl rfl ?_
    refine KL.nil ?_
    refine KQ.seq ?_
    refine KC.iteL rfl ?_ ?_
    · intro hc28
      try simp only [decide_eq_true_eq, decide_eq_false_iff_not, Bool.not_eq_true', Bool.not_eq_false', Bool.and_eq_true, Bool.or_eq_false_iff] at hc28
      have hml : (l.drop at_).length = l.length - at_ := List.length_drop
      refine KC.skip ?_
      refine KQ.seq ?_
      refine KC.block ?_
      refine KC.seq ?_
      refine KC.region ?_
      refine KL.op (R.move rfl rfl) rfl rfl rfl ?_
      refine KL.op (R.move rfl rfl) rfl rfl rfl ?_
      refine KL.op (R.index1 (j := at_) rfl Tryd.underlying22 sz5 rfl rfl (hs.old o0) rfl (by omega)) rfl rfl rfl ?_
      refine KL.op (R.load (v := .int .u8 ((l.drop at_).getD 0 default)) rfl Tryd.underlying5 rfl rfl (by rw [getD0_drop]; exact ((hs.old o0).int at_ (by omega)).1)) rfl rfl rfl ?_
      have q0 : InR .u8 ((l.drop at_).getD 0 default) := by rw [getD0_drop]; exact (hs.int at_ (by omega)).2
      have q1 := q0
      dsimp only [InR] at q1
      refine KL.op (R.assign rfl rfl) rfl rfl rfl ?_
      refine KL.nil ?_
      refine KQ.seq ?_
      refine KC.seq ?_
      refine KC.region ?_
      refine KL.op (R.move rfl rfl) rfl rfl rfl ?_
      refine KL.op (R.move rfl rfl) rfl rfl rfl ?_
      refine KL.op ((R.add rfl rfl rfl (by dsimp only [InR]; omega)).val (congrArg (Value.int .i64) (show _ = ((at_ + 1 : Nat) : Int) from by omega))) rfl rfl rfl ?_
      refine KL.op (R.slice rfl Tryd.underlying22 sz5 rfl hs (bnd.mk (r := at_ + 1) rfl rfl) bnd.no (by omega) (Nat.le_refl _)) rfl rfl rfl ?_
      have s1 : Sl 1 (EInt .u8) H (subV 1 v (at_ + 1) l.length) ((l.drop at_).drop 1) := by
        have h9 := hs.tail (lo := at_ + 1) (by omega)
        rwa [List.drop_drop]
      refine KL.call rfl rfl rfl rfl Tryd.call25 rfl rfl rfl (RefTake_or _ _ (s1.old o0)) ?_
      rintro u9 _ ⟨rfl, hR⟩
      rcases hR with ⟨ht, rfl⟩ | ⟨n, k, ht, rfl⟩
      · skip
        refine KL.op (R.move rfl rfl) rfl rfl rfl ?_
        refine KL.op (R.extract rfl rfl rfl) rfl rfl rfl ?_
        refine KL.op (R.extract rfl rfl rfl) rfl rfl rfl ?_
        refine KL.op (R.assign rfl rfl) rfl rfl rfl ?_
        refine KL.op (R.assign rfl rfl) rfl rfl rfl ?_
        refine KL.nil ?_
        refine KQ.seq ?_
        refine KC.seq ?_
        refine KC.region ?_
        refine KL.op (R.move rfl rfl) rfl rfl rfl ?_
        refine KL.op ((R.add rfl rfl rfl (by dsimp only [InR]; omega)).val (congrArg (Value.int .i64) (show _ = ((at_ + 1 : Nat) : Int) from by omega))) rfl rfl rfl ?_
        refine KL.op (R.move rfl rfl) rfl rfl rfl ?_
        refine KL.op ((R.add rfl rfl rfl (by dsimp only [InR]; omega)).val (congrArg (Value.int .i64) (show _ = ((at_ + 1 + 0 : Nat) : Int) from by omega))) rfl rfl rfl ?_
        refine KL.op (R.assign rfl rfl) rfl rfl rfl ?_
        refine KL.nil ?_
        refine KQ.seq ?_
        refine KC.seq ?_
        refine KC.seq ?_
        refine KC.region ?_
        refine KL.op (R.move rfl rfl) rfl rfl rfl ?_
        refine KL.op ((R.eql rfl rfl rfl).val (congrArg Value.bool (decide_eq_true (by rfl)))) rfl rfl rfl ?_
        refine KL.op (R.move rfl rfl) rfl rfl rfl ?_
        refine KL.skip rfl rfl rfl ?_
        refine KL.skip rfl rfl rfl ?_
        refine KL.skip rfl rfl rfl ?_
        refine KL.skip rfl rfl rfl ?_
        refine KL.skip rfl rfl rfl ?_
        refine KL.skip rfl rfl rfl ?_
        refine KL.skip rfl rfl rfl ?_
        refine KL.op (R.pick rfl rfl rfl) rfl rfl rfl ?_
        refine KL.nil ?_
        refine KQ.seq ?_
        refine KC.condT rfl ?_
        refine KC.seq ?_
        refine KC.region ?_
        refine KL.op (R.assign rfl rfl) rfl rfl rfl ?_
        refine KL.op (R.assign rfl rfl) rfl rfl rfl ?_
        refine KL.nil ?_
        refine KQ.seq ?_
        refine KC.ret ?_
        refine KQ.retThen ?_
        refine KQ.retBlock ?_
        refine KQ.retThen ?_
        refine KQ.retBlock ?_
        refine KQ.retThen ?_
        refine KQ.ofRet ?_
        refine KQ.fin2 Tryd.results10 rfl rfl ?_
        first
          | exact ⟨o0, by rw [hsp, Sc.sp_nil (by rw [List.length_drop]; omega)]; exact ⟨vo, rfl, by show Sl 2 ESec _ vo (acc ++ []); rw [List.append_nil]; exact wo.sl (by omega)⟩⟩
          | exact ⟨o0, by rw [hsp, Sc.sp_none (by omega) ht]; rfl⟩
          | exact ⟨o0, by rw [hsp, Sc.sp_long (by omega) ht (by omega)]; rfl⟩
          | exact ⟨o0, by rw [hsp, Sc.sp_cust (by omega) ht (by omega) h0, if_pos hnt]; rfl⟩
          | exact ⟨o0, by rw [hsp, Sc.sp_bad (by omega) ht (by omega) h0 (by omega)]; rfl⟩
      · skip
        have hb := Lb.tk32 ht
        rw [List.length_drop] at hb
        refine KL.op (R.move rfl rfl) rfl rfl rfl ?_
        refine KL.op (R.extract rfl rfl rfl) rfl rfl rfl ?_
        refine KL.op (R.extract rfl rfl rfl) rfl rfl rfl ?_
        refine KL.op (R.assign rfl rfl) rfl rfl rfl ?_
        refine KL.op (R.assign rfl rfl) rfl rfl rfl ?_
        refine KL.nil ?_
        refine KQ.seq ?_
        refine KC.seq ?_
        refine KC.region ?_
        refine KL.op (R.move rfl rfl) rfl rfl rfl ?_
        refine KL.op ((R.add rfl rfl rfl (by dsimp only [InR]; omega)).val (congrArg (Value.int .i64) (show _ = ((at_ + 1 : Nat) : Int) from by omega))) rfl rfl rfl ?_
        refine KL.op (R.move rfl rfl) rfl rfl rfl ?_
        refine KL.op ((R.add rfl rfl rfl (by dsimp only [InR]; omega)).val (congrArg (Value.int .i64) (show _ = ((at_ + 1 + k : Nat) : Int) from by omega))) rfl rfl rfl ?_
        refine KL.op (R.assign rfl rfl) rfl rfl rfl ?_
        refine KL.nil ?_
        refine KQ.seq ?_
        refine KC.seq ?_
        refine KC.seq ?_
        refine KC.region ?_
        refine KL.op (R.move rfl rfl) rfl rfl rfl ?_
        refine KL.op ((R.eql rfl rfl rfl).val (congrArg Value.bool (decide_eq_false (by omega)))) rfl rfl rfl ?_
        refine KL.op (R.move rfl rfl) rfl rfl rfl ?_
        refine KL.op (R.move rfl rfl) rfl rfl rfl ?_
        refine KL.op (R.move rfl rfl) rfl rfl rfl ?_
        refine KL.op (R.lenS rfl Tryd.underlying22 rfl hs) rfl rfl rfl ?_
        refine KL.op (R.move rfl rfl) rfl rfl rfl ?_
        refine KL.op (R.sub rfl rfl rfl (by dsimp only [InR]; omega)) rfl rfl rfl ?_
        refine KL.op (R.convI rfl Tryd.underlying3 Tryd.underlying43 rfl (by dsimp only [InR]; omega)) rfl rfl rfl ?_
        refine KL.op (R.gtr rfl rfl rfl) rfl rfl rfl ?_
        refine KL.op (R.pick rfl rfl rfl) rfl rfl rfl ?_
        refine KL.nil ?_
        refine KQ.seq ?_
        refine KC.iteL rfl ?_ ?_
        · intro hc55
          try simp only [decide_eq_true_eq, decide_eq_false_iff_not, Bool.not_eq_true', Bool.not_eq_false', Bool.and_eq_true, Bool.or_eq_false_iff] at hc55
          refine KC.seq ?_
          refine KC.region ?_
          refine KL.op (R.assign rfl rfl) rfl rfl rfl ?_
          refine KL.op (R.assign rfl rfl) rfl rfl rfl ?_
          refine KL.nil ?_
          refine KQ.seq ?_
          refine KC.ret ?_
          refine KQ.retThen ?_
          refine KQ.retBlock ?_
          refine KQ.retThen ?_
          refine KQ.retBlock ?_
          refine KQ.retThen ?_
          refine KQ.ofRet ?_
          refine KQ.fin2 Tryd.results10 rfl rfl ?_
          first
            | exact ⟨o0, by rw [hsp, Sc.sp_nil (by rw [List.length_drop]; omega)]; exact ⟨vo, rfl, by show Sl 2 ESec _ vo (acc ++ []); rw [List.append_nil]; exact wo.sl (by omega)⟩⟩
            | exact ⟨o0, by rw [hsp, Sc.sp_none (by omega) ht]; rfl⟩
            | exact ⟨o0, by rw [hsp, Sc.sp_long (by omega) ht (by omega)]; rfl⟩
            | exact ⟨o0, by rw [hsp, Sc.sp_cust (by omega) ht (by omega) h0, if_pos hnt]; rfl⟩
            | exact ⟨o0, by rw [hsp, Sc.sp_bad (by omega) ht (by omega) h0 (by omega)]; rfl⟩
        · intro hc55
          try simp only [decide_eq_true_eq, decide_eq_false_iff_not, Bool.not_eq_true', Bool.not_eq_false', Bool.and_eq_true, Bool.or_eq_false_iff] at hc55
          refine KC.skip ?_
          refine KQ.seq ?_
          refine KC.seq ?_
          refine KC.region ?_
          refine KL.op (R.move rfl rfl) rfl rfl rfl ?_
          refine KL.op (R.move rfl rfl) rfl rfl rfl ?_
          refine KL.op (R.move rfl rfl) rfl rfl rfl ?_
          refine KL.op (R.move rfl rfl) rfl rfl rfl ?_
          refine KL.op (R.convI rfl Tryd.underlying43 Tryd.underlying3 rfl (by dsimp only [InR]; omega)) rfl rfl rfl ?_
          refine KL.op ((R.add rfl rfl rfl (by dsimp only [InR]; omega)).val (congrArg (Value.int .i64) (show _ = ((at_ + 1 + k + n.toNat : Nat) : Int) from by omega))) rfl rfl rfl ?_
          refine KL.op (R.slice rfl Tryd.underlying22 sz5 rfl hs (bnd.mk (r := at_ + 1 + k) rfl rfl) (bnd.mk (r := at_ + 1 + k + n.toNat) rfl rfl) (by omega) (by omega)) rfl rfl rfl ?_
          have s2 : Sl 1 (EInt .u8) H (subV 1 v (at_ + 1 + k) (at_ + 1 + k + n.toNat)) (((l.drop at_).drop (1 + k)).take n.toNat) := by
            have h9 := hs.sub (lo := at_ + 1 + k) (hi := at_ + 1 + k + n.toNat) (by omega) (by omega)
            rw [List.drop_take, Nat.add_sub_cancel_left] at h9
            rwa [List.drop_drop, show at_ + (1 + k) = at_ + 1 + k from by omega]
          have hdr : ((l.drop at_).drop (1 + k + n.toNat)) = (l.drop (at_ + 1 + k + n.toNat)) := by rw [List.drop_drop]; congr 1; omega
          refine KL.op (R.assign rfl rfl) rfl rfl rfl ?_
          refine KL.nil ?_
          refine KQ.seq ?_
          refine KC.seq ?_
          refine KC.region ?_
          refine KL.op (R.move rfl rfl) rfl rfl rfl ?_
          refine KL.op (R.move rfl rfl) rfl rfl rfl ?_
          refine KL.op (R.convI rfl Tryd.underlying43 Tryd.underlying3 rfl (by dsimp only [InR]; omega)) rfl rfl rfl ?_
          refine KL.op ((R.add rfl rfl rfl (by dsimp only [InR]; omega)).val (congrArg (Value.int .i64) (show _ = ((at_ + 1 + k + n.toNat : Nat) : Int) from by omega))) rfl rfl rfl ?_
          refine KL.op (R.assign rfl rfl) rfl rfl rfl ?_
          refine KL.nil ?_
          refine KQ.seq ?_
          refine KC.seq ?_
          refine KC.seq ?_
          refine KC.region ?_
          refine KL.op (R.move rfl rfl) rfl rfl rfl ?_
          refine KL.op (R.eql rfl rfl rfl) rfl rfl rfl ?_
          refine KL.nil ?_
          refine KQ.seq ?_
          refine KC.iteL rfl ?_ ?_
          · intro h0
            try simp only [decide_eq_true_eq, decide_eq_false_iff_not, Bool.not_eq_true', Bool.not_eq_false', Bool.and_eq_true, Bool.or_eq_false_iff] at h0
            refine KC.seq ?_
            refine KC.region ?_
            refine KL.op (R.move rfl rfl) rfl rfl rfl ?_
            refine KL.call rfl rfl rfl rfl Tryd.call26 rfl rfl rfl (RTake_or _ _ (s2.old o0)) ?_
            rintro u8_ _ ⟨rfl, hR⟩
            rcases hR with ⟨hnt, rfl⟩ | ⟨t, e, hnt, rfl⟩
            · skip
              refine KL.op (R.move rfl rfl) rfl rfl rfl ?_
              refine KL.op (R.extract rfl rfl rfl) rfl rfl rfl ?_
              refine KL.op (R.extract rfl rfl rfl) rfl rfl rfl ?_
              refine KL.op (R.extract rfl rfl rfl) rfl rfl rfl ?_
              refine KL.op (R.assign rfl rfl) rfl rfl rfl ?_
              refine KL.op (R.assign rfl rfl) rfl rfl rfl ?_
              refine KL.op (R.assign rfl rfl) rfl rfl rfl ?_
              refine KL.nil ?_
              refine KQ.seq ?_
              refine KC.seq ?_
              refine KC.seq ?_
              refine KC.region ?_
              refine KL.op (R.move rfl rfl) rfl rfl rfl ?_
              refine KL.op (R.not rfl rfl) rfl rfl rfl ?_
              refine KL.nil ?_
              refine KQ.seq ?_
              refine KC.condT rfl ?_
              refine KC.seq ?_
              refine KC.region ?_
              refine KL.op (R.assign rfl rfl) rfl rfl rfl ?_
              refine KL.op (R.assign rfl rfl) rfl rfl rfl ?_
              refine KL.nil ?_
              refine KQ.seq ?_
              refine KC.ret ?_
              refine KQ.retThen ?_
              refine KQ.retThen ?_
              refine KQ.retBlock ?_
              refine KQ.retThen ?_
              refine KQ.retBlock ?_
              refine KQ.retThen ?_
              refine KQ.ofRet ?_
              refine KQ.fin2 Tryd.results10 rfl rfl ?_
              first
                | exact ⟨o0, by rw [hsp, Sc.sp_nil (by rw [List.length_drop]; omega)]; exact ⟨vo, rfl, by show Sl 2 ESec _ vo (acc ++ []); rw [List.append_nil]; exact wo.sl (by omega)⟩⟩
                | exact ⟨o0, by rw [hsp, Sc.sp_none (by omega) ht]; rfl⟩
                | exact ⟨o0, by rw [hsp, Sc.sp_long (by omega) ht (by omega)]; rfl⟩
                | exact ⟨o0, by rw [hsp, Sc.sp_cust (by omega) ht (by omega) h0, if_pos hnt]; rfl⟩
                | exact ⟨o0, by rw [hsp, Sc.sp_bad (by omega) ht (by omega) h0 (by omega)]; rfl⟩
            · skip
              refine KL.op (R.move rfl rfl) rfl rfl rfl ?_
              refine KL.op (R.extract rfl rfl rfl) rfl rfl rfl ?_
              refine KL.op (R.extract rfl rfl rfl) rfl rfl rfl ?_
              refine KL.op (R.extract rfl rfl rfl) rfl rfl rfl ?_
              have hspn : Sc.split l = (Sc.sp (l.drop (at_ + 1 + k + n.toNat)) last).map (acc ++ ·) := by rw [hsp, Sc.sp_cust (by omega) ht (by omega) h0, if_neg (by rw [hnt]; simp), hdr]
              refine KL.op (R.assign rfl rfl) rfl rfl rfl ?_
              refine KL.op (R.assign rfl rfl) rfl rfl rfl ?_
              refine KL.op (R.assign rfl rfl) rfl rfl rfl ?_
              refine KL.nil ?_
              refine KQ.seq ?_
              refine KC.seq ?_
              refine KC.seq ?_
              refine KC.region ?_
              refine KL.op (R.move rfl rfl) rfl rfl rfl ?_
              refine KL.op (R.not rfl rfl) rfl rfl rfl ?_
              refine KL.nil ?_
              refine KQ.seq ?_
              refine KC.condF rfl ?_
              refine KC.skip ?_
              refine KQ.seq ?_
              refine KC.exit ?_
              refine KQ.exitThen ?_
              refine KQ.hit ?_
              refine KQ.again ((at_ + 1 + k + n.toNat, vo, acc, last)) ?_ ?_ ?_
              · exact (Sub.cons rfl (Sub.cons rfl (Sub.cons rfl (Ext.sub (by repeat (first | exact Ext.refl _ _ | refine Ext.put rfl ?_ | refine Ext.drop rfl ?_))))))
              · show l.length - (at_ + 1 + k + n.toNat) < l.length - at_; omega
              · exact ⟨by show 8 ≤ at_ + 1 + k + n.toNat; omega, by show at_ + 1 + k + n.toNat ≤ l.length; omega, wo, hspn, by first | (show acc.length ≤ at_ + 1 + k + n.toNat; omega) | (show (acc ++ [_]).length ≤ at_ + 1 + k + n.toNat; rw [List.length_append, List.length_singleton]; omega), o0⟩
          · intro h0
            try simp only [decide_eq_true_eq, decide_eq_false_iff_not, Bool.not_eq_true', Bool.not_eq_false', Bool.and_eq_true, Bool.or_eq_false_iff] at h0
            refine KC.skip ?_
            refine KQ.seq ?_
            refine KC.seq ?_
            refine KC.seq ?_
            refine KC.region ?_
            refine KL.op (R.move rfl rfl) rfl rfl rfl ?_
            refine KL.op (R.move rfl rfl) rfl rfl rfl ?_
            refine KL.op (R.leq rfl rfl rfl) rfl rfl rfl ?_
            refine KL.op (R.move rfl rfl) rfl rfl rfl ?_
            refine KL.case (d := 80) rfl ?_ ?_
            · intro hg80
              try simp only [decide_eq_true_eq, decide_eq_false_iff_not, Bool.not_eq_true', Bool.not_eq_false', Bool.and_eq_true, Bool.or_eq_false_iff] at hg80
              refine KL.skip rfl rfl rfl ?_
              refine KL.skip rfl rfl rfl ?_
              refine KL.op (R.pick rfl rfl rfl) rfl rfl rfl ?_
              refine KL.nil ?_
              refine KQ.seq ?_
              refine KC.condT rfl ?_
              refine KC.seq ?_
              refine KC.region ?_
              refine KL.op (R.assign rfl rfl) rfl rfl rfl ?_
              refine KL.op (R.assign rfl rfl) rfl rfl rfl ?_
              refine KL.nil ?_
              refine KQ.seq ?_
              refine KC.ret ?_
              refine KQ.retThen ?_
              refine KQ.retBlock ?_
              refine KQ.retThen ?_
              refine KQ.retBlock ?_
              refine KQ.retThen ?_
              refine KQ.ofRet ?_
              refine KQ.fin2 Tryd.results10 rfl rfl ?_
              first
                | exact ⟨o0, by rw [hsp, Sc.sp_nil (by rw [List.length_drop]; omega)]; exact ⟨vo, rfl, by show Sl 2 ESec _ vo (acc ++ []); rw [List.append_nil]; exact wo.sl (by omega)⟩⟩
                | exact ⟨o0, by rw [hsp, Sc.sp_none (by omega) ht]; rfl⟩
                | exact ⟨o0, by rw [hsp, Sc.sp_long (by omega) ht (by omega)]; rfl⟩
                | exact ⟨o0, by rw [hsp, Sc.sp_cust (by omega) ht (by omega) h0, if_pos hnt]; rfl⟩
                | exact ⟨o0, by rw [hsp, Sc.sp_bad (by omega) ht (by omega) h0 (by omega)]; rfl⟩
            · intro hg80
              try simp only [decide_eq_true_eq, decide_eq_false_iff_not, Bool.not_eq_true', Bool.not_eq_false', Bool.and_eq_true, Bool.or_eq_false_iff] at hg80
              refine KL.op (R.move rfl rfl) rfl rfl rfl ?_
              refine KL.op (R.gtr rfl rfl rfl) rfl rfl rfl ?_
              refine KL.op (R.pick rfl rfl rfl) rfl rfl rfl ?_
              refine KL.nil ?_
              refine KQ.seq ?_
              refine KC.iteL rfl ?_ ?_
              · intro hc83
                try simp only [decide_eq_true_eq, decide_eq_false_iff_not, Bool.not_eq_true', Bool.not_eq_false', Bool.and_eq_true, Bool.or_eq_false_iff] at hc83
                refine KC.seq ?_
                refine KC.region ?_
                refine KL.op (R.assign rfl rfl) rfl rfl rfl ?_
                refine KL.op (R.assign rfl rfl) rfl rfl rfl ?_
                refine KL.nil ?_
                refine KQ.seq ?_
                refine KC.ret ?_
                refine KQ.retThen ?_
                refine KQ.retBlock ?_
                refine KQ.retThen ?_
                refine KQ.retBlock ?_
                refine KQ.retThen ?_
                refine KQ.ofRet ?_
                refine KQ.fin2 Tryd.results10 rfl rfl ?_
                first
                  | exact ⟨o0, by rw [hsp, Sc.sp_nil (by rw [List.length_drop]; omega)]; exact ⟨vo, rfl, by show Sl 2 ESec _ vo (acc ++ []); rw [List.append_nil]; exact wo.sl (by omega)⟩⟩
                  | exact ⟨o0, by rw [hsp, Sc.sp_none (by omega) ht]; rfl⟩
                  | exact ⟨o0, by rw [hsp, Sc.sp_long (by omega) ht (by omega)]; rfl⟩
                  | exact ⟨o0, by rw [hsp, Sc.sp_cust (by omega) ht (by omega) h0, if_pos hnt]; rfl⟩
                  | exact ⟨o0, by rw [hsp, Sc.sp_bad (by omega) ht (by omega) h0 (by omega)]; rfl⟩
              · intro hc83
                try simp only [decide_eq_true_eq, decide_eq_false_iff_not, Bool.not_eq_true', Bool.not_eq_false', Bool.and_eq_true, Bool.or_eq_false_iff] at hc83
                refine KC.skip ?_
                refine KQ.seq ?_
                refine KC.seq ?_
                refine KC.region ?_
                refine KL.op (R.move rfl rfl) rfl rfl rfl ?_
                refine KL.op (R.assign rfl rfl) rfl rfl rfl ?_
                refine KL.nil ?_
                refine KQ.seq ?_
                refine KC.region ?_
                refine KL.op (R.move rfl rfl) rfl rfl rfl ?_
                refine KL.op (R.move rfl rfl) rfl rfl rfl ?_
                have hvl := wo.blt (by omega)
                have woP := wo
                have oP : Old H2 H2 := Old.refl _
                refine KL.opM (M.lit rfl Tryd.underlying22 zs5 (by decide) rfl rfl rfl) rfl rfl rfl ?_
                rintro _ H3 ⟨rfl, n3⟩
                have z3 := n3.2.1
                have o0 := o0.trans n3.1
                have wo := wo.old n3.1
                have b3 := n3.2.2
                have oP := n3.1
                have wa : Own 1 (EInt .u8) 5 #[] (Array.size H2) H3 _ [] := Own.litI (l := []) n3 (Nat.le_refl _) rfl (by decide) (by intro x hx; cases hx)
                refine KL.op (R.move rfl rfl) rfl rfl rfl ?_
                have lt4 := wa.lt
                refine KL.opM (M.append rfl Tryd.underlying22 inf5 rfl (by decide) rfl rfl wa (by exact (s2.old o0)) (fun _ _ h _ => h) (by omega) (by simp only [List.length_nil, List.length_take, List.length_drop]; omega) (by unfold maxLen; simp only [List.length_nil, List.length_take, List.length_drop]; omega)) rfl rfl rfl ?_
                rintro vc H4 ⟨w4, g4⟩
                try dsimp only at g4
                have ob4 := g4.oldB wa (by omega)
                have o0 := o0.then ob4 (by omega)
                have z4 := ob4.1
                have oP := oP.then ob4 (by omega)
                have wa := w4
                have wc : Own 1 (EInt .u8) 5 #[] (Array.size H2) H4 vc (((l.drop at_).drop (1 + k)).take n.toNat) := wa
                have wo := woP.old oP
                refine KL.op (R.buildL rfl Tryd.underlying51 zr51 [(0, 1), (1, 1)] (fun w => by kernel_rfl) rfl ⟨⟨_, rfl, rfl⟩, ⟨_, rfl, rfl⟩, trivial⟩ rfl rfl ⟨⟨_, rfl, by first | rfl | exact wc.cells1⟩, ⟨_, rfl, by first | rfl | exact wc.cells1⟩, trivial⟩ rfl) rfl rfl rfl ?_
                refine KL.opM (M.lit rfl Tryd.underlying28 zs51 (by decide) rfl rfl rfl) rfl rfl rfl ?_
                rintro _ H5 ⟨rfl, n5⟩
                have z5 := n5.2.1
                have o0 := o0.trans n5.1
                have oP := oP.trans n5.1
                have wc := wc.old n5.1
                have wo := wo.old n5.1
                have b5 := n5.2.2
                have se : Sl 2 (FK ESec H5 (vblock vo :: [])) H5 _ [(((l.drop at_).getD 0 default), (((l.drop at_).drop (1 + k)).take n.toNat))] := Sl.lit1N n5 rfl (by decide) (fun H2 kx => ⟨_, rfl, fk_own wc (fun g hg => by simp only [List.mem_cons, List.not_mem_nil, or_false] at hg; subst hg; omega) H2 kx, q0⟩)
                have lt6 := wo.lt
                refine KL.opM (M.appendE rfl Tryd.underlying28 inf51 rfl (by decide) rfl rfl wo (se) (by omega) (by simp; omega) (by unfold maxLen; simp; omega)) rfl rfl rfl ?_
                rintro vn H6 ⟨w6, g6, nx6⟩
                try dsimp only at g6 nx6
                have ob6 := g6.oldBE wo (by omega)
                have o0 := o0.then ob6 (by omega)
                have z6 := ob6.1
                have wo := w6
                have hspn : Sc.split l = (Sc.sp (l.drop (at_ + 1 + k + n.toNat)) ((l.drop at_).getD 0 default)).map ((acc ++ [(((l.drop at_).getD 0 default), (((l.drop at_).drop (1 + k)).take n.toNat))]) ++ ·) := by rw [hsp, Sc.sp_good (by omega) ht (by omega) h0 (by omega), Sc.step_map, hdr]
                refine KL.op (R.assign rfl rfl) rfl rfl rfl ?_
                refine KL.nil ?_
                refine KQ.normBlock ?_
                refine KQ.again ((at_ + 1 + k + n.toNat, vn, acc ++ [(((l.drop at_).getD 0 default), (((l.drop at_).drop (1 + k)).take n.toNat))], ((l.drop at_).getD 0 default))) ?_ ?_ ?_
                · exact (Sub.cons rfl (Sub.cons rfl (Sub.cons rfl (Ext.sub (by repeat (first | exact Ext.refl _ _ | refine Ext.put rfl ?_ | refine Ext.drop rfl ?_))))))
                · show l.length - (at_ + 1 + k + n.toNat) < l.length - at_; omega
                · exact ⟨by show 8 ≤ at_ + 1 + k + n.toNat; omega, by show at_ + 1 + k + n.toNat ≤ l.length; omega, wo, hspn, by first | (show acc.length ≤ at_ + 1 + k + n.toNat; omega) | (show (acc ++ [_]).length ≤ at_ + 1 + k + n.toNat; rw [List.length_append, List.length_singleton]; omega), o0⟩
    · intro hc28
      try simp only [decide_eq_true_eq, decide_eq_false_iff_not, Bool.not_eq_true', Bool.not_eq_false', Bool.and_eq_true, Bool.or_eq_false_iff] at hc28
      refine KC.exit ?_
      refine KQ.exitThen ?_
      refine KQ.exitThen ?_
      refine KQ.hit ?_
      refine KQ.seq ?_
      refine KC.seq ?_
      refine KC.region ?_
      refine KL.op (R.move rfl rfl) rfl rfl rfl ?_
      refine KL.op (R.assign rfl rfl) rfl rfl rfl ?_
      refine KL.op (R.assign rfl rfl) rfl rfl rfl ?_
      refine KL.nil ?_
      refine KQ.seq ?_
      refine KC.ret ?_
      refine KQ.ofRet ?_
      refine KQ.fin2 Tryd.results10 rfl rfl ?_
      first
        | exact ⟨o0, by rw [hsp, Sc.sp_nil (by rw [List.length_drop]; omega)]; exact ⟨vo, rfl, by show Sl 2 ESec _ vo (acc ++ []); rw [List.append_nil]; exact wo.sl (by omega)⟩⟩
        | exact ⟨o0, by rw [hsp, Sc.sp_none (by omega) ht]; rfl⟩
        | exact ⟨o0, by rw [hsp, Sc.sp_long (by omega) ht (by omega)]; rfl⟩
        | exact ⟨o0, by rw [hsp, Sc.sp_cust (by omega) ht (by omega) h0, if_pos hnt]; rfl⟩
        | exact ⟨o0, by rw [hsp, Sc.sp_bad (by omega) ht (by omega) h0 (by omega)]; rfl⟩

theorem RSplit_any {H : Heap} (v : Value) (l : List Int) (hs : Sl 1 (EInt .u8) H v l) (hl : l.length ≤ 100000) : Ct Tryd.prog 10 [v] H (fun u H' => Old H H' ∧ Sc.Res (Sc.split l) (.bool false) (.bool true) u H') := by
  by_cases h8 : l.length < 8
  · exact RSplit_short v l hs hl h8
  by_cases hb : l.take 8 = Sc.beg
  · exact RSplit_yes v l hs hl (by omega) hb
  · exact RSplit_no v l hs hl (by omega) hb

end Go.Proofs.YtnbdadjomnpcgaaDoor
