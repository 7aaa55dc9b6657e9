/- gabellelaw19.JumpNests, walked. No condition. -/
import Derived.Test.YtbopalmbphgedaaJumpQ
namespace Go.Proofs.Ytbopalmbphgedaa
open Go Go.RowKit
set_option linter.unusedVariables false
set_option linter.unusedSimpArgs false
set_option linter.unnecessarySimpa false

/-- how often each end was seen by the openers ahead of k -/
def SeenI (l : List Ins) (s : JS) (k : Nat) (sn : List Int) : Prop := sn.length = l.length ∧ ∀ j : Nat, j < l.length → 0 ≤ sn.getD j default ∧ (sn.getD j default ≠ 0 → ∃ i : Nat, i < k ∧ isOpn (l.getD i default).op ∧ rd s.en i = j)
theorem seen_zero (l : List Ins) (s : JS) : SeenI l s 0 (List.replicate l.length 0) := by
  refine ⟨by simp, fun j hj => ?_⟩
  have : (List.replicate l.length (0 : Int)).getD j default = 0 := by rw [List.getD_eq_getElem?_getD, List.getElem?_replicate, if_pos hj]; rfl
  rw [this]
  exact ⟨Int.le_refl _, fun h => absurd rfl h⟩
theorem seen_more {l : List Ins} {s : JS} {k : Nat} {sn : List Int} (h : SeenI l s k sn) : SeenI l s (k + 1) sn :=
  ⟨h.1, fun j hj => ⟨(h.2 j hj).1, fun h0 => by obtain ⟨i, h1, h2⟩ := (h.2 j hj).2 h0; exact ⟨i, by omega, h2⟩⟩⟩
theorem seen_new {l : List Ins} {s : JS} (hs : JS.of l = some s) {k e : Nat} {sn : List Int} (h : SeenI l s k sn) (hk : k < l.length) (he : e < l.length) (hx : isOpn (l.getD k default).op) (h1 : rd s.en k = e) (h2 : rd s.op e = k) : sn.getD e default = 0 := by
  rcases Classical.em (sn.getD e default = 0) with g | g
  · exact g
  · obtain ⟨i, a1, a2, a3⟩ := (h.2 e he).2 g
    obtain ⟨e', b1, b2, b3, b4, b5, -⟩ := nests hs (by omega) a2
    have : e' = e := by omega
    subst this
    omega
theorem seen_set {l : List Ins} {s : JS} {k e : Nat} {sn : List Int} (h : SeenI l s k sn) (he : e < l.length) (hx : isOpn (l.getD k default).op) (h1 : rd s.en k = e) (x : Int) (hx0 : 0 ≤ x) : SeenI l s (k + 1) (sn.set e x) := by
  refine ⟨by rw [List.length_set]; exact h.1, fun j hj => ?_⟩
  have hl := h.1
  by_cases hje : j = e
  · subst hje
    have : (sn.set j x).getD j default = x := by rw [List.getD_eq_getElem?_getD, List.getElem?_set_self (by omega)]; rfl
    rw [this]
    exact ⟨hx0, fun _ => ⟨k, by omega, hx, h1⟩⟩
  · have : (sn.set e x).getD j default = sn.getD j default := by rw [List.getD_eq_getElem?_getD, List.getD_eq_getElem?_getD, List.getElem?_set_ne (fun e' => hje e'.symm)]
    rw [this]
    exact (seen_more h).2 j hj
theorem getD_set_eq {sn : List Int} {e : Nat} {x : Int} (h : e < sn.length) : (sn.set e x).getD e default = x := by rw [List.getD_eq_getElem?_getD, List.getElem?_set_self h]; rfl

set_option maxRecDepth 100000 in
set_option maxHeartbeats 4000000 in
theorem JumpNests_any {H : Heap} (v : Value) (l : List Ins) (hs : Sl 5 EIns H v l) : Ct Try.prog 5 [v] H (fun u H' => u = .bool true ∧ Old H H') := by
  refine Ct.mk Try.func5 rfl Try.ntmps5 rfl ?_
  intro W0 hW0
  have o0 : Old H H := Old.refl H
  have hll := hs.len
  refine KC.seq ?_
  refine KC.region ?_
  refine KL.op (R.assign rfl rfl) rfl rfl rfl ?_
  refine KL.nil ?_
  refine KQ.seq ?_
  refine KC.seq ?_
  refine KC.seq ?_
  refine KC.region ?_
  refine KL.op (R.move rfl rfl) rfl rfl rfl ?_
  refine KL.op ((by first | exact R.lenS rfl Try.underlying27 rfl (by first | exact hs.old o0 | assumption) | exact R.len (ty := 0) rfl Try.underlying27 rfl)) rfl rfl rfl ?_
  refine KL.op (R.gtr rfl rfl rfl) rfl rfl rfl ?_
  refine KL.nil ?_
  refine KQ.seq ?_
  refine KC.iteL rfl ?_ ?_
  · intro hc20
    try simp only [decide_eq_true_eq, decide_eq_false_iff_not, Bool.not_eq_true', Bool.not_eq_false', Bool.and_eq_true, Bool.or_eq_false_iff] at hc20
    refine KC.seq ?_
    refine KC.region ?_
    refine KL.call rfl rfl rfl rfl Try.call9 rfl rfl rfl (works_any) ?_
    rintro _ H1 ⟨rfl, ox⟩
    have o0 := o0.trans ox
    refine KL.op (R.assign rfl rfl) rfl rfl rfl ?_
    refine KL.nil ?_
    refine KQ.seq ?_
    refine KC.ret ?_
    refine KQ.retThen ?_
    refine KQ.ofRet ?_
    refine KQ.fin1 Try.results5 rfl ?_
    exact ⟨rfl, o0⟩
  · intro hc20
    try simp only [decide_eq_true_eq, decide_eq_false_iff_not, Bool.not_eq_true', Bool.not_eq_false', Bool.and_eq_true, Bool.or_eq_false_iff] at hc20
    refine KC.skip ?_
    refine KQ.seq ?_
    refine KC.seq ?_
    refine KC.region ?_
    refine KL.op (R.move rfl rfl) rfl rfl rfl ?_
    refine KL.call rfl rfl rfl rfl Try.call7 rfl rfl rfl (Of_any _ _ (hs.old o0) (by omega)) ?_
    rintro _ H2 ⟨ox, hR⟩
    have o0 := o0.trans ox
    rcases hR with ⟨s, g, hof, rfl, hj⟩ | ⟨hof, rfl⟩
    · skip
      refine KL.op (R.move rfl rfl) rfl rfl rfl ?_
      refine KL.op (R.extract rfl rfl rfl) rfl rfl rfl ?_
      refine KL.op (R.extract rfl rfl rfl) rfl rfl rfl ?_
      refine KL.op (R.assign rfl rfl) rfl rfl rfl ?_
      refine KL.op (R.assign rfl rfl) rfl rfl rfl ?_
      refine KL.nil ?_
      refine KQ.seq ?_
      refine KC.seq ?_
      refine KC.seq ?_
      refine KC.region ?_
      refine KL.op (R.move rfl rfl) rfl rfl rfl ?_
      refine KL.op (R.not rfl rfl) rfl rfl rfl ?_
      refine KL.nil ?_
      refine KQ.seq ?_
      refine KC.condF rfl ?_
      refine KC.skip ?_
      refine KQ.seq ?_
      refine KC.seq ?_
      refine KC.region ?_
      refine KL.op (R.move rfl rfl) rfl rfl rfl ?_
      refine KL.op ((by first | exact R.lenS rfl Try.underlying27 rfl (by first | exact hs.old o0 | exact hj | assumption) | exact R.len (ty := 0) rfl Try.underlying27 rfl)) rfl rfl rfl ?_
      have zH2 : H.size ≤ Array.size H2 := o0.1
      have hjP := hj
      refine KL.opM (M.make rfl Try.underlying40 inf3 rfl rfl rfl (by omega) (by omega) (by omega) (by omega)) rfl rfl rfl ?_
      rintro _ H3 ⟨rfl, n3⟩
      have z3 := n3.2.1
      have o0 := o0.trans n3.1
      have hj := hj.old n3.1
      have b3 := n3.2.2
      have oP := n3.1
      have wsn := Own.made (E := EInt .i64) (H0 := #[]) (B := H.size) (x := 0) n3 (by omega) (by unfold maxLen; simp; omega) ⟨rfl, by dsimp only [InR]; omega⟩
      have wsn : Own 1 (EInt .i64) 3 #[] H.size H3 (Value.slice (some ⟨Array.size H2, 0, none⟩) (l.length : Int).toNat (l.length : Int).toNat) (List.replicate l.length 0) := by simpa using wsn
      refine KL.op (R.assign rfl rfl) rfl rfl rfl ?_
      refine KL.nil ?_
      refine KQ.seq ?_
      refine KC.seq ?_
      refine KC.seq ?_
      refine KC.region ?_
      refine KL.op (R.move rfl rfl) rfl rfl rfl ?_
      refine KL.op ((by first | exact R.lenS rfl Try.underlying27 rfl (by first | exact hs.old o0 | exact hj | assumption) | exact R.len (ty := 0) rfl Try.underlying27 rfl)) rfl rfl rfl ?_
      refine KL.op (R.move rfl rfl) rfl rfl rfl ?_
      refine KL.nil ?_
      refine KQ.seq ?_
      refine KC.block ?_
      refine KC.loopD (κ := Nat × List Int) [36, 37, 38, 39, 7, 6, 40, 41, 42, 43, 44, 45, 46, 47, 48, 49, 50, 51, 52, 53, 54, 55, 8, 56, 57, 58, 59, 60, 61, 62, 63, 64, 65, 66, 67, 68, 69, 70, 71, 72, 73, 74, 75, 76, 77, 78, 79, 2, 80, 81, 82, 83, 84, 85, 86, 87, 88, 89, 90, 91, 92, 9, 93, 94, 95, 98, 99, 100, 10, 101, 102, 103, 104, 105, 106, 107, 108, 109, 110, 111, 112, 113, 114, 115, 116, 117, 118, 96, 97, 119, 120, 121, 11, 122, 123, 124, 125, 126, 127, 128, 129, 130, 131, 132, 133, 134, 135, 136, 137, 138, 139, 140, 141, 142, 143, 144, 145, 146, 147, 148, 149, 150, 151, 152, 153, 155, 156, 157, 158, 159, 160, 154, 161, 162, 12, 13, 164, 165, 166, 167, 168, 169, 163, 170, 171, 14, 15, 172, 173, 174, 175, 176, 177, 179, 180, 181, 182, 183, 184, 178, 185, 186, 16, 17, 187, 188, 189, 35] (fun k => [(35, .int .i64 (k.1 : Nat))]) (fun k Hl => k.1 ≤ l.length ∧ SeenI l s k.1 k.2 ∧ Own 1 (EInt .i64) 3 #[] H.size Hl (Value.slice (some ⟨Array.size H2, 0, none⟩) (l.length : Int).toNat (l.length : Int).toNat) k.2 ∧ Old H Hl ∧ Old H2 Hl) (fun k => l.length - k.1) (0, List.replicate l.length 0) ?_ ?_ ?_
      · exact (Sub.cons rfl (Ext.sub (Ext.refl _ _)))
      · exact ⟨Nat.zero_le _, seen_zero l s, wsn, o0, oP⟩
      · rintro ⟨k, sn⟩ H4 ⟨hk, hsn, wsn, o0, oP⟩
        have zl_H4 := o0.1
        dsimp only at hk hsn wsn
        have hj := hjP.old oP
        have hvb : vblock (Value.slice (some ⟨Array.size H2, 0, none⟩) (l.length : Int).toNat (l.length : Int).toNat) = Array.size H2 := rfl
        have hlt : vblock (Value.slice (some ⟨Array.size H2, 0, none⟩) (l.length : Int).toNat (l.length : Int).toNat) < Array.size H4 := (wsn.lt.resolve_left (by simp)).2
        refine KC.seq ?_
        refine KC.region ?_
        refine KL.op (R.lss rfl rfl rfl) rfl rfl rfl ?_
        refine KL.nil ?_
        refine KQ.seq ?_
        refine KC.seq ?_
        refine KC.iteL rfl ?_ ?_
        · intro hc36
          try simp only [decide_eq_true_eq, decide_eq_false_iff_not, Bool.not_eq_true', Bool.not_eq_false', Bool.and_eq_true, Bool.or_eq_false_iff] at hc36
          obtain ⟨u, hcx, hu, q0, q1, q2, q3⟩ := (hs.old o0).insAt k (by omega)
          refine KC.skip ?_
          refine KQ.seq ?_
          refine KC.seq ?_
          refine KC.block ?_
          refine KC.seq ?_
          refine KC.region ?_
          refine KL.op (R.move rfl rfl) rfl rfl rfl ?_
          refine KL.op (R.index (j := k) rfl Try.underlying27 sz37 rfl rfl (hs.old o0) rfl (by omega)) rfl rfl rfl ?_
          refine KL.op (R.loadAgg rfl Try.underlying37 rfl sz37 rfl hcx rfl) rfl rfl rfl ?_
          refine KL.opM (M.alloc rfl zr37 rfl) rfl rfl rfl ?_
          rintro _ H5 ⟨rfl, n5⟩
          have z5 := n5.2.1
          have o0 := o0.trans n5.1
          have hj := hj.old n5.1
          have wsn := wsn.old n5.1
          have oP := oP.trans n5.1
          have b5 := n5.2.2
          have bx := b5
          refine KL.op (R.assign rfl rfl) rfl rfl rfl ?_
          refine KL.opS (S.storeAgg rfl sz37 rfl rfl rfl (by intro q hq; simp only [List.mem_cons, List.not_mem_nil, or_false] at hq; rcases hq with rfl | rfl | rfl | rfl | rfl <;> first | rfl | exact hu.one) bx (by simp)) rfl rfl ?_
          rintro H6 ⟨u6, b6⟩
          have o0 := o0.upd u6 (by omega)
          have zu6 := u6.1
          have wsn := wsn.upd u6 (by first | exact .inr (by omega) | exact wsn.lt.imp id (fun h => by omega))
          have oP := oP.upd u6 (by omega)
          have bx := b6
          have hj := hjP.old oP
          refine KL.nil ?_
          refine KQ.seq ?_
          refine KC.seq ?_
          refine KC.seq ?_
          refine KC.region ?_
          refine KL.op ((by first | exact R.fieldAddr rfl Try.underlying37 rfl rfl sz5 rfl | exact R.fieldAddrP rfl Try.underlying37 rfl rfl sz5 rfl)) rfl rfl rfl ?_
          refine KL.op (R.load rfl Try.underlying5 rfl rfl (by first | exact cell_of bx rfl | exact ((hs.old o0).insOp e (by omega)).1 | exact ((hs.old o0).insOp c (by omega)).1 | exact ((hs.old o0).insOp a (by omega)).1 | exact (wsn.int e (by omega)).1 | exact (wsn.int e (by rw [List.length_set]; omega)).1 | assumption)) rfl rfl rfl ?_
          refine KL.op (R.neq rfl rfl rfl) rfl rfl rfl ?_
          refine KL.op (R.move rfl rfl) rfl rfl rfl ?_
          refine KL.case (d := 43) rfl ?_ ?_
          · intro hg43
            try simp only [decide_eq_true_eq, decide_eq_false_iff_not, Bool.not_eq_true', Bool.not_eq_false', Bool.and_eq_true, Bool.or_eq_false_iff] at hg43
            refine KL.op ((by first | exact R.fieldAddr rfl Try.underlying37 rfl rfl sz5 rfl | exact R.fieldAddrP rfl Try.underlying37 rfl rfl sz5 rfl)) rfl rfl rfl ?_
            refine KL.op (R.load rfl Try.underlying5 rfl rfl (by first | exact cell_of bx rfl | exact ((hs.old o0).insOp e (by omega)).1 | exact ((hs.old o0).insOp c (by omega)).1 | exact ((hs.old o0).insOp a (by omega)).1 | exact (wsn.int e (by omega)).1 | exact (wsn.int e (by rw [List.length_set]; omega)).1 | assumption)) rfl rfl rfl ?_
            refine KL.op (R.neq rfl rfl rfl) rfl rfl rfl ?_
            refine KL.op (R.pick rfl rfl rfl) rfl rfl rfl ?_
            refine KL.op (R.move rfl rfl) rfl rfl rfl ?_
            refine KL.case (d := 48) rfl ?_ ?_
            · intro hg48
              try simp only [decide_eq_true_eq, decide_eq_false_iff_not, Bool.not_eq_true', Bool.not_eq_false', Bool.and_eq_true, Bool.or_eq_false_iff] at hg48
              refine KL.op ((by first | exact R.fieldAddr rfl Try.underlying37 rfl rfl sz5 rfl | exact R.fieldAddrP rfl Try.underlying37 rfl rfl sz5 rfl)) rfl rfl rfl ?_
              refine KL.op (R.load rfl Try.underlying5 rfl rfl (by first | exact cell_of bx rfl | exact ((hs.old o0).insOp e (by omega)).1 | exact ((hs.old o0).insOp c (by omega)).1 | exact ((hs.old o0).insOp a (by omega)).1 | exact (wsn.int e (by omega)).1 | exact (wsn.int e (by rw [List.length_set]; omega)).1 | assumption)) rfl rfl rfl ?_
              refine KL.op (R.neq rfl rfl rfl) rfl rfl rfl ?_
              refine KL.op (R.pick rfl rfl rfl) rfl rfl rfl ?_
              refine KL.nil ?_
              refine KQ.seq ?_
              refine KC.iteL rfl ?_ ?_
              · intro hc52
                try simp only [decide_eq_true_eq, decide_eq_false_iff_not, Bool.not_eq_true', Bool.not_eq_false', Bool.and_eq_true, Bool.or_eq_false_iff] at hc52
                refine KC.exit ?_
                refine KQ.exitThen ?_
                refine KQ.hit ?_
                refine KQ.seq ?_
                refine KC.region ?_
                refine KL.op (R.add rfl rfl rfl (by dsimp only [InR]; omega)) rfl rfl rfl ?_
                refine KL.op (R.move rfl rfl) rfl rfl rfl ?_
                refine KL.nil ?_
                refine KQ.again ((k + 1, sn)) ?_ ?_ ?_
                · exact (Sub.cons rfl (Ext.sub (by repeat (first | exact Ext.refl _ _ | refine Ext.put rfl ?_ | refine Ext.drop rfl ?_))))
                · show l.length - (k + 1) < l.length - k; omega
                · first | exact ⟨by show k + 1 ≤ _; omega, seen_more hsn, wsn, o0, oP⟩ | exact ⟨by show k + 1 ≤ _; omega, seen_set hsn (by omega) hx he1 _ (by omega), wsn, o0, oP⟩
              · intro hc52
                try simp only [decide_eq_true_eq, decide_eq_false_iff_not, Bool.not_eq_true', Bool.not_eq_false', Bool.and_eq_true, Bool.or_eq_false_iff] at hc52
                refine KC.skip ?_
                refine KQ.seq ?_
                refine KC.seq ?_
                have hx : isOpn (l.getD k default).op := by unfold isOpn; omega
                obtain ⟨e, e1, e2, he1, e4, e5, e6, e7⟩ := nests hof (by omega) hx
                have hsn0 := seen_new hof hsn (by omega) e2 hx he1 e5
                have hsnl := hsn.1
                refine KC.region ?_
                refine KL.op (R.move rfl rfl) rfl rfl rfl ?_
                refine KL.op (R.move rfl rfl) rfl rfl rfl ?_
                refine KL.call rfl rfl rfl rfl Try.call12 rfl rfl rfl (End_any _ _ _ _ _ _ hj) ?_
                rintro _ _ ⟨rfl, rfl⟩
                rw [he1]
                refine KL.op (R.assign rfl rfl) rfl rfl rfl ?_
                refine KL.nil ?_
                refine KQ.seq ?_
                refine KC.seq ?_
                refine KC.seq ?_
                refine KC.region ?_
                refine KL.op (R.move rfl rfl) rfl rfl rfl ?_
                refine KL.op (R.move rfl rfl) rfl rfl rfl ?_
                refine KL.op ((R.leq rfl rfl rfl).val (congrArg Value.bool (decide_eq_false (by omega)))) rfl rfl rfl ?_
                refine KL.op (R.move rfl rfl) rfl rfl rfl ?_
                refine KL.op (R.move rfl rfl) rfl rfl rfl ?_
                refine KL.op (R.move rfl rfl) rfl rfl rfl ?_
                refine KL.op ((by first | exact R.lenS rfl Try.underlying27 rfl (by first | exact hs.old o0 | exact hj | assumption) | exact R.len (ty := 0) rfl Try.underlying27 rfl)) rfl rfl rfl ?_
                refine KL.op ((R.geq rfl rfl rfl).val (congrArg Value.bool (decide_eq_false (by omega)))) rfl rfl rfl ?_
                refine KL.op (R.pick rfl rfl rfl) rfl rfl rfl ?_
                refine KL.op (R.move rfl rfl) rfl rfl rfl ?_
                refine KL.op (R.move rfl rfl) rfl rfl rfl ?_
                refine KL.op (R.move rfl rfl) rfl rfl rfl ?_
                refine KL.op (R.index (j := e) rfl Try.underlying27 sz37 rfl rfl (hs.old o0) rfl (by omega)) rfl rfl rfl ?_
                refine KL.op ((by first | exact R.fieldAddr rfl Try.underlying37 rfl rfl sz5 rfl | exact R.fieldAddrP rfl Try.underlying37 rfl rfl sz5 rfl)) rfl rfl rfl ?_
                refine KL.op (R.load rfl Try.underlying5 rfl rfl (by first | exact cell_of bx rfl | exact ((hs.old o0).insOp e (by omega)).1 | exact ((hs.old o0).insOp c (by omega)).1 | exact ((hs.old o0).insOp a (by omega)).1 | exact (wsn.int e (by omega)).1 | exact (wsn.int e (by rw [List.length_set]; omega)).1 | assumption)) rfl rfl rfl ?_
                refine KL.op ((R.neq rfl rfl rfl).val ((congrArg (fun b => Value.bool (!b)) (decide_eq_true (by omega))))) rfl rfl rfl ?_
                refine KL.op (R.pick rfl rfl rfl) rfl rfl rfl ?_
                refine KL.op (R.move rfl rfl) rfl rfl rfl ?_
                refine KL.op (R.move rfl rfl) rfl rfl rfl ?_
                refine KL.op (R.move rfl rfl) rfl rfl rfl ?_
                refine KL.call rfl rfl rfl rfl Try.call14 rfl rfl rfl (Open_any _ _ _ _ _ _ hj) ?_
                rintro _ _ ⟨rfl, rfl⟩
                rw [e5]
                refine KL.op (R.move rfl rfl) rfl rfl rfl ?_
                refine KL.op ((R.neq rfl rfl rfl).val ((congrArg (fun b => Value.bool (!b)) (decide_eq_true (by rfl))))) rfl rfl rfl ?_
                refine KL.op (R.pick rfl rfl rfl) rfl rfl rfl ?_
                refine KL.nil ?_
                refine KQ.seq ?_
                refine KC.condF rfl ?_
                refine KC.skip ?_
                refine KQ.seq ?_
                refine KC.seq ?_
                refine KC.seq ?_
                refine KC.region ?_
                refine KL.op (R.move rfl rfl) rfl rfl rfl ?_
                refine KL.op (R.move rfl rfl) rfl rfl rfl ?_
                refine KL.op (R.indexO1 (j := e) rfl Try.underlying40 sz3 rfl rfl wsn rfl (by omega)) rfl rfl rfl ?_
                refine KL.op (R.load rfl Try.underlying3 rfl rfl (by first | exact cell_of bx rfl | exact ((hs.old o0).insOp e (by omega)).1 | exact ((hs.old o0).insOp c (by omega)).1 | exact ((hs.old o0).insOp a (by omega)).1 | exact (wsn.int e (by omega)).1 | exact (wsn.int e (by rw [List.length_set]; omega)).1 | assumption)) rfl rfl rfl ?_
                refine KL.op (R.add rfl rfl rfl (by dsimp only [InR]; omega)) rfl rfl rfl ?_
                refine KL.op (R.indexO1 (j := e) rfl Try.underlying40 sz3 rfl rfl wsn rfl (by omega)) rfl rfl rfl ?_
                refine KL.opS (S.own1 rfl sz3 rfl rfl rfl rfl wsn (by omega) ⟨rfl, by dsimp only [InR]; omega⟩) rfl rfl ?_
                rintro H7 ⟨u7, w7⟩
                have o0 := o0.upd u7 (by omega)
                have zu7 := u7.1
                have oP := oP.upd u7 (by omega)
                have bx := ((u7).2 _ (by omega)).trans bx
                have wsn := w7
                have hj := hjP.old oP
                refine KL.nil ?_
                refine KQ.seq ?_
                refine KC.seq ?_
                refine KC.region ?_
                refine KL.op (R.move rfl rfl) rfl rfl rfl ?_
                refine KL.op (R.move rfl rfl) rfl rfl rfl ?_
                refine KL.op (R.indexO1 (j := e) rfl Try.underlying40 sz3 rfl rfl wsn rfl (by rw [List.length_set]; omega)) rfl rfl rfl ?_
                refine KL.op (R.load rfl Try.underlying3 rfl rfl (by first | exact cell_of bx rfl | exact ((hs.old o0).insOp e (by omega)).1 | exact ((hs.old o0).insOp c (by omega)).1 | exact ((hs.old o0).insOp a (by omega)).1 | exact (wsn.int e (by omega)).1 | exact (wsn.int e (by rw [List.length_set]; omega)).1 | assumption)) rfl rfl rfl ?_
                refine KL.op ((R.gtr rfl rfl rfl).val (congrArg Value.bool (decide_eq_false (by rw [getD_set_eq (by omega)]; omega)))) rfl rfl rfl ?_
                refine KL.nil ?_
                refine KQ.seq ?_
                refine KC.condF rfl ?_
                refine KC.skip ?_
                refine KQ.seq ?_
                refine KC.seq ?_
                refine KC.seq ?_
                refine KC.region ?_
                refine KL.op (R.move rfl rfl) rfl rfl rfl ?_
                refine KL.op ((R.add rfl rfl rfl (by dsimp only [InR]; omega)).val (congrArg (Value.int .i64) (show (k : Int) + 1 = ((k + 1 : Nat) : Int) by omega))) rfl rfl rfl ?_
                refine KL.op (R.assign rfl rfl) rfl rfl rfl ?_
                refine KL.nil ?_
                refine KQ.seq ?_
                refine KC.block ?_
                refine KC.loopD (κ := Nat) [93, 94, 95, 98, 99, 100, 10, 101, 102, 103, 104, 105, 106, 107, 108, 109, 110, 111, 112, 113, 114, 115, 116, 117, 118, 2, 96, 97, 9] (fun c => [(9, .int .i64 (c : Nat))]) (fun c Hl => k + 1 ≤ c ∧ c ≤ e ∧ H7 = Hl) (fun c => e - c) (k + 1) ?_ ?_ ?_
                · exact (Sub.cons rfl (Ext.sub (Ext.refl _ _)))
                · exact ⟨Nat.le_refl _, by omega, rfl⟩
                · rintro c H8 ⟨hk1, hk2, rfl⟩
                  refine KC.seq ?_
                  refine KC.seq ?_
                  refine KC.region ?_
                  refine KL.op (R.move rfl rfl) rfl rfl rfl ?_
                  refine KL.op (R.move rfl rfl) rfl rfl rfl ?_
                  refine KL.op (R.lss rfl rfl rfl) rfl rfl rfl ?_
                  refine KL.nil ?_
                  refine KQ.seq ?_
                  refine KC.iteL rfl ?_ ?_
                  · intro hc95
                    try simp only [decide_eq_true_eq, decide_eq_false_iff_not, Bool.not_eq_true', Bool.not_eq_false', Bool.and_eq_true, Bool.or_eq_false_iff] at hc95
                    obtain ⟨f1, f2⟩ := e6 c (by omega) (by omega)
                    refine KC.skip ?_
                    refine KQ.seq ?_
                    refine KC.seq ?_
                    refine KC.block ?_
                    refine KC.seq ?_
                    refine KC.region ?_
                    refine KL.op (R.move rfl rfl) rfl rfl rfl ?_
                    refine KL.op (R.move rfl rfl) rfl rfl rfl ?_
                    refine KL.call rfl rfl rfl rfl Try.call12 rfl rfl rfl (End_any _ _ _ _ _ _ hj) ?_
                    rintro _ _ ⟨rfl, rfl⟩
                    refine KL.op (R.assign rfl rfl) rfl rfl rfl ?_
                    refine KL.nil ?_
                    refine KQ.seq ?_
                    refine KC.seq ?_
                    refine KC.region ?_
                    refine KL.op (R.move rfl rfl) rfl rfl rfl ?_
                    refine KL.op (R.move rfl rfl) rfl rfl rfl ?_
                    refine KL.op ((R.gtr rfl rfl rfl).val (congrArg Value.bool (decide_eq_false (by omega)))) rfl rfl rfl ?_
                    refine KL.op (R.move rfl rfl) rfl rfl rfl ?_
                    refine KL.op (R.move rfl rfl) rfl rfl rfl ?_
                    refine KL.op (R.move rfl rfl) rfl rfl rfl ?_
                    refine KL.op (R.index (j := c) rfl Try.underlying27 sz37 rfl rfl (hs.old o0) rfl (by omega)) rfl rfl rfl ?_
                    refine KL.op ((by first | exact R.fieldAddr rfl Try.underlying37 rfl rfl sz5 rfl | exact R.fieldAddrP rfl Try.underlying37 rfl rfl sz5 rfl)) rfl rfl rfl ?_
                    refine KL.op (R.load rfl Try.underlying5 rfl rfl (by first | exact cell_of bx rfl | exact ((hs.old o0).insOp e (by omega)).1 | exact ((hs.old o0).insOp c (by omega)).1 | exact ((hs.old o0).insOp a (by omega)).1 | exact (wsn.int e (by omega)).1 | exact (wsn.int e (by rw [List.length_set]; omega)).1 | assumption)) rfl rfl rfl ?_
                    refine KL.op (R.eql rfl rfl rfl) rfl rfl rfl ?_
                    refine KL.op (R.move rfl rfl) rfl rfl rfl ?_
                    refine KL.case (d := 111) rfl ?_ ?_
                    · intro hg111
                      try simp only [decide_eq_true_eq, decide_eq_false_iff_not, Bool.not_eq_true', Bool.not_eq_false', Bool.and_eq_true, Bool.or_eq_false_iff] at hg111
                      refine KL.op (R.move rfl rfl) rfl rfl rfl ?_
                      refine KL.op (R.move rfl rfl) rfl rfl rfl ?_
                      refine KL.call rfl rfl rfl rfl Try.call14 rfl rfl rfl (Open_any _ _ _ _ _ _ hj) ?_
                      rintro _ _ ⟨rfl, rfl⟩
                      refine KL.op (R.move rfl rfl) rfl rfl rfl ?_
                      refine KL.op ((R.leq rfl rfl rfl).val (congrArg Value.bool (decide_eq_false (by omega)))) rfl rfl rfl ?_
                      refine KL.op (R.pick rfl rfl rfl) rfl rfl rfl ?_
                      refine KL.op (R.pick rfl rfl rfl) rfl rfl rfl ?_
                      refine KL.nil ?_
                      refine KQ.seq ?_
                      refine KC.condF rfl ?_
                      refine KC.skip ?_
                      refine KQ.normBlock ?_
                      refine KQ.seq ?_
                      refine KC.region ?_
                      refine KL.op (R.move rfl rfl) rfl rfl rfl ?_
                      refine KL.op (R.add rfl rfl rfl (by dsimp only [InR]; omega)) rfl rfl rfl ?_
                      refine KL.op (R.assign rfl rfl) rfl rfl rfl ?_
                      refine KL.nil ?_
                      refine KQ.again (c + 1) ?_ ?_ ?_
                      · exact (Sub.cons rfl (Ext.sub (by repeat (first | exact Ext.refl _ _ | refine Ext.put rfl ?_ | refine Ext.drop rfl ?_))))
                      · omega
                      · exact ⟨by omega, by omega, rfl⟩
                    · intro hg111
                      try simp only [decide_eq_true_eq, decide_eq_false_iff_not, Bool.not_eq_true', Bool.not_eq_false', Bool.and_eq_true, Bool.or_eq_false_iff] at hg111
                      refine KL.skip rfl rfl rfl ?_
                      refine KL.skip rfl rfl rfl ?_
                      refine KL.skip rfl rfl rfl ?_
                      refine KL.skip rfl rfl rfl ?_
                      refine KL.skip rfl rfl rfl ?_
                      refine KL.op (R.pick rfl rfl rfl) rfl rfl rfl ?_
                      refine KL.op (R.pick rfl rfl rfl) rfl rfl rfl ?_
                      refine KL.nil ?_
                      refine KQ.seq ?_
                      refine KC.condF rfl ?_
                      refine KC.skip ?_
                      refine KQ.normBlock ?_
                      refine KQ.seq ?_
                      refine KC.region ?_
                      refine KL.op (R.move rfl rfl) rfl rfl rfl ?_
                      refine KL.op (R.add rfl rfl rfl (by dsimp only [InR]; omega)) rfl rfl rfl ?_
                      refine KL.op (R.assign rfl rfl) rfl rfl rfl ?_
                      refine KL.nil ?_
                      refine KQ.again (c + 1) ?_ ?_ ?_
                      · exact (Sub.cons rfl (Ext.sub (by repeat (first | exact Ext.refl _ _ | refine Ext.put rfl ?_ | refine Ext.drop rfl ?_))))
                      · omega
                      · exact ⟨by omega, by omega, rfl⟩
                  · intro hc95
                    try simp only [decide_eq_true_eq, decide_eq_false_iff_not, Bool.not_eq_true', Bool.not_eq_false', Bool.and_eq_true, Bool.or_eq_false_iff] at hc95
                    refine KC.exit ?_
                    refine KQ.exitThen ?_
                    refine KQ.exitThen ?_
                    refine KQ.hit ?_
                    refine KQ.seq ?_
                    refine KC.seq ?_
                    refine KC.region ?_
                    refine KL.op (R.move rfl rfl) rfl rfl rfl ?_
                    refine KL.op (R.move rfl rfl) rfl rfl rfl ?_
                    refine KL.call rfl rfl rfl rfl Try.call13 rfl rfl rfl (Else_any _ _ _ _ _ _ hj) ?_
                    rintro _ _ ⟨rfl, rfl⟩
                    refine KL.op (R.assign rfl rfl) rfl rfl rfl ?_
                    refine KL.nil ?_
                    refine KQ.seq ?_
                    refine KC.seq ?_
                    refine KC.region ?_
                    refine KL.op (R.move rfl rfl) rfl rfl rfl ?_
                    refine KL.op (R.geq rfl rfl rfl) rfl rfl rfl ?_
                    refine KL.nil ?_
                    refine KQ.seq ?_
                    refine KC.iteL rfl ?_ ?_
                    · intro hc123
                      try simp only [decide_eq_true_eq, decide_eq_false_iff_not, Bool.not_eq_true', Bool.not_eq_false', Bool.and_eq_true, Bool.or_eq_false_iff] at hc123
                      obtain ⟨a, ha, a1, a2, a3, a4, a5, ⟨s1, hs1⟩, s2, hs2⟩ := e7.resolve_right (fun h => by omega)
                      rw [ha]
                      refine KC.seq ?_
                      refine KC.seq ?_
                      refine KC.region ?_
                      refine KL.op (R.move rfl rfl) rfl rfl rfl ?_
                      refine KL.op (R.move rfl rfl) rfl rfl rfl ?_
                      refine KL.op ((R.leq rfl rfl rfl).val (congrArg Value.bool (decide_eq_false (by omega)))) rfl rfl rfl ?_
                      refine KL.op (R.move rfl rfl) rfl rfl rfl ?_
                      refine KL.op (R.move rfl rfl) rfl rfl rfl ?_
                      refine KL.op (R.move rfl rfl) rfl rfl rfl ?_
                      refine KL.op ((R.geq rfl rfl rfl).val (congrArg Value.bool (decide_eq_false (by omega)))) rfl rfl rfl ?_
                      refine KL.op (R.pick rfl rfl rfl) rfl rfl rfl ?_
                      refine KL.op (R.move rfl rfl) rfl rfl rfl ?_
                      refine KL.op (R.move rfl rfl) rfl rfl rfl ?_
                      refine KL.op (R.move rfl rfl) rfl rfl rfl ?_
                      refine KL.op (R.index (j := a) rfl Try.underlying27 sz37 rfl rfl (hs.old o0) rfl (by omega)) rfl rfl rfl ?_
                      refine KL.op ((by first | exact R.fieldAddr rfl Try.underlying37 rfl rfl sz5 rfl | exact R.fieldAddrP rfl Try.underlying37 rfl rfl sz5 rfl)) rfl rfl rfl ?_
                      refine KL.op (R.load rfl Try.underlying5 rfl rfl (by first | exact cell_of bx rfl | exact ((hs.old o0).insOp e (by omega)).1 | exact ((hs.old o0).insOp c (by omega)).1 | exact ((hs.old o0).insOp a (by omega)).1 | exact (wsn.int e (by omega)).1 | exact (wsn.int e (by rw [List.length_set]; omega)).1 | assumption)) rfl rfl rfl ?_
                      refine KL.op ((R.neq rfl rfl rfl).val ((congrArg (fun b => Value.bool (!b)) (decide_eq_true (by omega))))) rfl rfl rfl ?_
                      refine KL.op (R.pick rfl rfl rfl) rfl rfl rfl ?_
                      refine KL.op (R.move rfl rfl) rfl rfl rfl ?_
                      refine KL.op (R.move rfl rfl) rfl rfl rfl ?_
                      refine KL.op (R.move rfl rfl) rfl rfl rfl ?_
                      refine KL.call rfl rfl rfl rfl Try.call12 rfl rfl rfl (End_any _ _ _ _ _ _ hj) ?_
                      rintro _ _ ⟨rfl, rfl⟩
                      rw [a4]
                      refine KL.op (R.move rfl rfl) rfl rfl rfl ?_
                      refine KL.op ((R.neq rfl rfl rfl).val ((congrArg (fun b => Value.bool (!b)) (decide_eq_true (by rfl))))) rfl rfl rfl ?_
                      refine KL.op (R.pick rfl rfl rfl) rfl rfl rfl ?_
                      refine KL.op (R.move rfl rfl) rfl rfl rfl ?_
                      refine KL.op (R.move rfl rfl) rfl rfl rfl ?_
                      refine KL.op (R.move rfl rfl) rfl rfl rfl ?_
                      refine KL.call rfl rfl rfl rfl Try.call14 rfl rfl rfl (Open_any _ _ _ _ _ _ hj) ?_
                      rintro _ _ ⟨rfl, rfl⟩
                      rw [a5]
                      refine KL.op (R.move rfl rfl) rfl rfl rfl ?_
                      refine KL.op ((R.neq rfl rfl rfl).val ((congrArg (fun b => Value.bool (!b)) (decide_eq_true (by rfl))))) rfl rfl rfl ?_
                      refine KL.op (R.pick rfl rfl rfl) rfl rfl rfl ?_
                      refine KL.nil ?_
                      refine KQ.seq ?_
                      refine KC.condF rfl ?_
                      refine KC.skip ?_
                      refine KQ.seq ?_
                      refine KC.seq ?_
                      refine KC.region ?_
                      refine KL.op (R.move rfl rfl) rfl rfl rfl ?_
                      refine KL.op (R.move rfl rfl) rfl rfl rfl ?_
                      refine KL.op (R.add rfl rfl rfl (by dsimp only [InR]; omega)) rfl rfl rfl ?_
                      refine KL.op (R.move rfl rfl) rfl rfl rfl ?_
                      refine KL.op (R.slice (i := (k + 1)) (j := a) rfl Try.underlying27 sz37 rfl (hs.old o0) (bnd.mk rfl (by omega)) (bnd.mk rfl (by omega)) (by omega) (by omega)) rfl rfl rfl ?_
                      refine KL.call rfl rfl rfl rfl Try.call7 rfl rfl rfl (Of_any _ _ ((hs.old o0).sub (lo := (k + 1)) (hi := a) (by omega) (by omega)) (by simp only [List.length_drop, List.length_take]; omega)) ?_
                      rintro _ H9 ⟨ox, hR⟩
                      have o0 := o0.trans ox
                      have wsn := wsn.old ox
                      have oP := oP.trans ox
                      have bx := (ox).blk bx
                      have hj := hj.old ox
                      rcases hR with ⟨s1, g1x, hof1, rfl, hj1⟩ | ⟨hof1, rfl⟩
                      · skip
                        refine KL.op (R.move rfl rfl) rfl rfl rfl ?_
                        refine KL.op (R.extract rfl rfl rfl) rfl rfl rfl ?_
                        refine KL.op (R.extract rfl rfl rfl) rfl rfl rfl ?_
                        refine KL.op (R.assign rfl rfl) rfl rfl rfl ?_
                        refine KL.op (R.assign rfl rfl) rfl rfl rfl ?_
                        refine KL.nil ?_
                        refine KQ.seq ?_
                        refine KC.seq ?_
                        refine KC.region ?_
                        refine KL.op (R.move rfl rfl) rfl rfl rfl ?_
                        refine KL.op (R.move rfl rfl) rfl rfl rfl ?_
                        refine KL.op (R.add rfl rfl rfl (by dsimp only [InR]; omega)) rfl rfl rfl ?_
                        refine KL.op (R.move rfl rfl) rfl rfl rfl ?_
                        refine KL.op (R.slice (i := (a + 1)) (j := e) rfl Try.underlying27 sz37 rfl (hs.old o0) (bnd.mk rfl (by omega)) (bnd.mk rfl (by omega)) (by omega) (by omega)) rfl rfl rfl ?_
                        refine KL.call rfl rfl rfl rfl Try.call7 rfl rfl rfl (Of_any _ _ ((hs.old o0).sub (lo := (a + 1)) (hi := e) (by omega) (by omega)) (by simp only [List.length_drop, List.length_take]; omega)) ?_
                        rintro _ H10 ⟨ox, hR⟩
                        have o0 := o0.trans ox
                        have wsn := wsn.old ox
                        have oP := oP.trans ox
                        have bx := (ox).blk bx
                        have hj := hj.old ox
                        rcases hR with ⟨s2, g2x, hof2, rfl, hj2⟩ | ⟨hof2, rfl⟩
                        · skip
                          refine KL.op (R.move rfl rfl) rfl rfl rfl ?_
                          refine KL.op (R.extract rfl rfl rfl) rfl rfl rfl ?_
                          refine KL.op (R.extract rfl rfl rfl) rfl rfl rfl ?_
                          refine KL.op (R.assign rfl rfl) rfl rfl rfl ?_
                          refine KL.op (R.assign rfl rfl) rfl rfl rfl ?_
                          refine KL.nil ?_
                          refine KQ.seq ?_
                          refine KC.seq ?_
                          refine KC.region ?_
                          refine KL.op (R.move rfl rfl) rfl rfl rfl ?_
                          refine KL.op (R.not rfl rfl) rfl rfl rfl ?_
                          refine KL.op (R.move rfl rfl) rfl rfl rfl ?_
                          refine KL.op (R.move rfl rfl) rfl rfl rfl ?_
                          refine KL.op (R.not rfl rfl) rfl rfl rfl ?_
                          refine KL.op (R.pick rfl rfl rfl) rfl rfl rfl ?_
                          refine KL.nil ?_
                          refine KQ.seq ?_
                          refine KC.condF rfl ?_
                          refine KC.skip ?_
                          refine KQ.normBlock ?_
                          refine KQ.seq ?_
                          refine KC.region ?_
                          refine KL.op (R.add rfl rfl rfl (by dsimp only [InR]; omega)) rfl rfl rfl ?_
                          refine KL.op (R.move rfl rfl) rfl rfl rfl ?_
                          refine KL.nil ?_
                          refine KQ.again ((k + 1, sn.set e (sn.getD e default + 1))) ?_ ?_ ?_
                          · exact (Sub.cons rfl (Ext.sub (by repeat (first | exact Ext.refl _ _ | refine Ext.put rfl ?_ | refine Ext.drop rfl ?_))))
                          · show l.length - (k + 1) < l.length - k; omega
                          · first | exact ⟨by show k + 1 ≤ _; omega, seen_more hsn, wsn, o0, oP⟩ | exact ⟨by show k + 1 ≤ _; omega, seen_set hsn (by omega) hx he1 _ (by omega), wsn, o0, oP⟩
                        · skip
                          exact absurd (hs2.symm.trans hof2) (by simp)
                      · skip
                        exact absurd (hs1.symm.trans hof1) (by simp)
                    · intro hc123
                      try simp only [decide_eq_true_eq, decide_eq_false_iff_not, Bool.not_eq_true', Bool.not_eq_false', Bool.and_eq_true, Bool.or_eq_false_iff] at hc123
                      obtain ⟨ha, s1, hs1⟩ := e7.resolve_left (fun ⟨a, h, _⟩ => by omega)
                      refine KC.seq ?_
                      refine KC.region ?_
                      refine KL.op (R.move rfl rfl) rfl rfl rfl ?_
                      refine KL.op (R.move rfl rfl) rfl rfl rfl ?_
                      refine KL.op (R.add rfl rfl rfl (by dsimp only [InR]; omega)) rfl rfl rfl ?_
                      refine KL.op (R.move rfl rfl) rfl rfl rfl ?_
                      refine KL.op (R.slice (i := (k + 1)) (j := e) rfl Try.underlying27 sz37 rfl (hs.old o0) (bnd.mk rfl (by omega)) (bnd.mk rfl (by omega)) (by omega) (by omega)) rfl rfl rfl ?_
                      refine KL.call rfl rfl rfl rfl Try.call7 rfl rfl rfl (Of_any _ _ ((hs.old o0).sub (lo := (k + 1)) (hi := e) (by omega) (by omega)) (by simp only [List.length_drop, List.length_take]; omega)) ?_
                      rintro _ H11 ⟨ox, hR⟩
                      have o0 := o0.trans ox
                      have wsn := wsn.old ox
                      have oP := oP.trans ox
                      have bx := (ox).blk bx
                      have hj := hj.old ox
                      rcases hR with ⟨s3, g3x, hof3, rfl, hj3⟩ | ⟨hof3, rfl⟩
                      · skip
                        refine KL.op (R.move rfl rfl) rfl rfl rfl ?_
                        refine KL.op (R.extract rfl rfl rfl) rfl rfl rfl ?_
                        refine KL.op (R.extract rfl rfl rfl) rfl rfl rfl ?_
                        refine KL.op (R.assign rfl rfl) rfl rfl rfl ?_
                        refine KL.op (R.assign rfl rfl) rfl rfl rfl ?_
                        refine KL.nil ?_
                        refine KQ.seq ?_
                        refine KC.seq ?_
                        refine KC.region ?_
                        refine KL.op (R.move rfl rfl) rfl rfl rfl ?_
                        refine KL.op (R.not rfl rfl) rfl rfl rfl ?_
                        refine KL.nil ?_
                        refine KQ.seq ?_
                        refine KC.condF rfl ?_
                        refine KC.skip ?_
                        refine KQ.normBlock ?_
                        refine KQ.seq ?_
                        refine KC.region ?_
                        refine KL.op (R.add rfl rfl rfl (by dsimp only [InR]; omega)) rfl rfl rfl ?_
                        refine KL.op (R.move rfl rfl) rfl rfl rfl ?_
                        refine KL.nil ?_
                        refine KQ.again ((k + 1, sn.set e (sn.getD e default + 1))) ?_ ?_ ?_
                        · exact (Sub.cons rfl (Ext.sub (by repeat (first | exact Ext.refl _ _ | refine Ext.put rfl ?_ | refine Ext.drop rfl ?_))))
                        · show l.length - (k + 1) < l.length - k; omega
                        · first | exact ⟨by show k + 1 ≤ _; omega, seen_more hsn, wsn, o0, oP⟩ | exact ⟨by show k + 1 ≤ _; omega, seen_set hsn (by omega) hx he1 _ (by omega), wsn, o0, oP⟩
                      · skip
                        exact absurd (hs1.symm.trans hof3) (by simp)
            · intro hg48
              try simp only [decide_eq_true_eq, decide_eq_false_iff_not, Bool.not_eq_true', Bool.not_eq_false', Bool.and_eq_true, Bool.or_eq_false_iff] at hg48
              refine KL.skip rfl rfl rfl ?_
              refine KL.skip rfl rfl rfl ?_
              refine KL.skip rfl rfl rfl ?_
              refine KL.op (R.pick rfl rfl rfl) rfl rfl rfl ?_
              refine KL.nil ?_
              refine KQ.seq ?_
              refine KC.condF rfl ?_
              refine KC.skip ?_
              refine KQ.seq ?_
              refine KC.seq ?_
              have hx : isOpn (l.getD k default).op := by unfold isOpn; omega
              obtain ⟨e, e1, e2, he1, e4, e5, e6, e7⟩ := nests hof (by omega) hx
              have hsn0 := seen_new hof hsn (by omega) e2 hx he1 e5
              have hsnl := hsn.1
              refine KC.region ?_
              refine KL.op (R.move rfl rfl) rfl rfl rfl ?_
              refine KL.op (R.move rfl rfl) rfl rfl rfl ?_
              refine KL.call rfl rfl rfl rfl Try.call12 rfl rfl rfl (End_any _ _ _ _ _ _ hj) ?_
              rintro _ _ ⟨rfl, rfl⟩
              rw [he1]
              refine KL.op (R.assign rfl rfl) rfl rfl rfl ?_
              refine KL.nil ?_
              refine KQ.seq ?_
              refine KC.seq ?_
              refine KC.seq ?_
              refine KC.region ?_
              refine KL.op (R.move rfl rfl) rfl rfl rfl ?_
              refine KL.op (R.move rfl rfl) rfl rfl rfl ?_
              refine KL.op ((R.leq rfl rfl rfl).val (congrArg Value.bool (decide_eq_false (by omega)))) rfl rfl rfl ?_
              refine KL.op (R.move rfl rfl) rfl rfl rfl ?_
              refine KL.op (R.move rfl rfl) rfl rfl rfl ?_
              refine KL.op (R.move rfl rfl) rfl rfl rfl ?_
              refine KL.op ((by first | exact R.lenS rfl Try.underlying27 rfl (by first | exact hs.old o0 | exact hj | assumption) | exact R.len (ty := 0) rfl Try.underlying27 rfl)) rfl rfl rfl ?_
              refine KL.op ((R.geq rfl rfl rfl).val (congrArg Value.bool (decide_eq_false (by omega)))) rfl rfl rfl ?_
              refine KL.op (R.pick rfl rfl rfl) rfl rfl rfl ?_
              refine KL.op (R.move rfl rfl) rfl rfl rfl ?_
              refine KL.op (R.move rfl rfl) rfl rfl rfl ?_
              refine KL.op (R.move rfl rfl) rfl rfl rfl ?_
              refine KL.op (R.index (j := e) rfl Try.underlying27 sz37 rfl rfl (hs.old o0) rfl (by omega)) rfl rfl rfl ?_
              refine KL.op ((by first | exact R.fieldAddr rfl Try.underlying37 rfl rfl sz5 rfl | exact R.fieldAddrP rfl Try.underlying37 rfl rfl sz5 rfl)) rfl rfl rfl ?_
              refine KL.op (R.load rfl Try.underlying5 rfl rfl (by first | exact cell_of bx rfl | exact ((hs.old o0).insOp e (by omega)).1 | exact ((hs.old o0).insOp c (by omega)).1 | exact ((hs.old o0).insOp a (by omega)).1 | exact (wsn.int e (by omega)).1 | exact (wsn.int e (by rw [List.length_set]; omega)).1 | assumption)) rfl rfl rfl ?_
              refine KL.op ((R.neq rfl rfl rfl).val ((congrArg (fun b => Value.bool (!b)) (decide_eq_true (by omega))))) rfl rfl rfl ?_
              refine KL.op (R.pick rfl rfl rfl) rfl rfl rfl ?_
              refine KL.op (R.move rfl rfl) rfl rfl rfl ?_
              refine KL.op (R.move rfl rfl) rfl rfl rfl ?_
              refine KL.op (R.move rfl rfl) rfl rfl rfl ?_
              refine KL.call rfl rfl rfl rfl Try.call14 rfl rfl rfl (Open_any _ _ _ _ _ _ hj) ?_
              rintro _ _ ⟨rfl, rfl⟩
              rw [e5]
              refine KL.op (R.move rfl rfl) rfl rfl rfl ?_
              refine KL.op ((R.neq rfl rfl rfl).val ((congrArg (fun b => Value.bool (!b)) (decide_eq_true (by rfl))))) rfl rfl rfl ?_
              refine KL.op (R.pick rfl rfl rfl) rfl rfl rfl ?_
              refine KL.nil ?_
              refine KQ.seq ?_
              refine KC.condF rfl ?_
              refine KC.skip ?_
              refine KQ.seq ?_
              refine KC.seq ?_
              refine KC.seq ?_
              refine KC.region ?_
              refine KL.op (R.move rfl rfl) rfl rfl rfl ?_
              refine KL.op (R.move rfl rfl) rfl rfl rfl ?_
              refine KL.op (R.indexO1 (j := e) rfl Try.underlying40 sz3 rfl rfl wsn rfl (by omega)) rfl rfl rfl ?_
              refine KL.op (R.load rfl Try.underlying3 rfl rfl (by first | exact cell_of bx rfl | exact ((hs.old o0).insOp e (by omega)).1 | exact ((hs.old o0).insOp c (by omega)).1 | exact ((hs.old o0).insOp a (by omega)).1 | exact (wsn.int e (by omega)).1 | exact (wsn.int e (by rw [List.length_set]; omega)).1 | assumption)) rfl rfl rfl ?_
              refine KL.op (R.add rfl rfl rfl (by dsimp only [InR]; omega)) rfl rfl rfl ?_
              refine KL.op (R.indexO1 (j := e) rfl Try.underlying40 sz3 rfl rfl wsn rfl (by omega)) rfl rfl rfl ?_
              refine KL.opS (S.own1 rfl sz3 rfl rfl rfl rfl wsn (by omega) ⟨rfl, by dsimp only [InR]; omega⟩) rfl rfl ?_
              rintro H12 ⟨u12, w12⟩
              have o0 := o0.upd u12 (by omega)
              have zu12 := u12.1
              have oP := oP.upd u12 (by omega)
              have bx := ((u12).2 _ (by omega)).trans bx
              have wsn := w12
              have hj := hjP.old oP
              refine KL.nil ?_
              refine KQ.seq ?_
              refine KC.seq ?_
              refine KC.region ?_
              refine KL.op (R.move rfl rfl) rfl rfl rfl ?_
              refine KL.op (R.move rfl rfl) rfl rfl rfl ?_
              refine KL.op (R.indexO1 (j := e) rfl Try.underlying40 sz3 rfl rfl wsn rfl (by rw [List.length_set]; omega)) rfl rfl rfl ?_
              refine KL.op (R.load rfl Try.underlying3 rfl rfl (by first | exact cell_of bx rfl | exact ((hs.old o0).insOp e (by omega)).1 | exact ((hs.old o0).insOp c (by omega)).1 | exact ((hs.old o0).insOp a (by omega)).1 | exact (wsn.int e (by omega)).1 | exact (wsn.int e (by rw [List.length_set]; omega)).1 | assumption)) rfl rfl rfl ?_
              refine KL.op ((R.gtr rfl rfl rfl).val (congrArg Value.bool (decide_eq_false (by rw [getD_set_eq (by omega)]; omega)))) rfl rfl rfl ?_
              refine KL.nil ?_
              refine KQ.seq ?_
              refine KC.condF rfl ?_
              refine KC.skip ?_
              refine KQ.seq ?_
              refine KC.seq ?_
              refine KC.seq ?_
              refine KC.region ?_
              refine KL.op (R.move rfl rfl) rfl rfl rfl ?_
              refine KL.op ((R.add rfl rfl rfl (by dsimp only [InR]; omega)).val (congrArg (Value.int .i64) (show (k : Int) + 1 = ((k + 1 : Nat) : Int) by omega))) rfl rfl rfl ?_
              refine KL.op (R.assign rfl rfl) rfl rfl rfl ?_
              refine KL.nil ?_
              refine KQ.seq ?_
              refine KC.block ?_
              refine KC.loopD (κ := Nat) [93, 94, 95, 98, 99, 100, 10, 101, 102, 103, 104, 105, 106, 107, 108, 109, 110, 111, 112, 113, 114, 115, 116, 117, 118, 2, 96, 97, 9] (fun c => [(9, .int .i64 (c : Nat))]) (fun c Hl => k + 1 ≤ c ∧ c ≤ e ∧ H12 = Hl) (fun c => e - c) (k + 1) ?_ ?_ ?_
              · exact (Sub.cons rfl (Ext.sub (Ext.refl _ _)))
              · exact ⟨Nat.le_refl _, by omega, rfl⟩
              · rintro c H13 ⟨hk1, hk2, rfl⟩
                refine KC.seq ?_
                refine KC.seq ?_
                refine KC.region ?_
                refine KL.op (R.move rfl rfl) rfl rfl rfl ?_
                refine KL.op (R.move rfl rfl) rfl rfl rfl ?_
                refine KL.op (R.lss rfl rfl rfl) rfl rfl rfl ?_
                refine KL.nil ?_
                refine KQ.seq ?_
                refine KC.iteL rfl ?_ ?_
                · intro hc95
                  try simp only [decide_eq_true_eq, decide_eq_false_iff_not, Bool.not_eq_true', Bool.not_eq_false', Bool.and_eq_true, Bool.or_eq_false_iff] at hc95
                  obtain ⟨f1, f2⟩ := e6 c (by omega) (by omega)
                  refine KC.skip ?_
                  refine KQ.seq ?_
                  refine KC.seq ?_
                  refine KC.block ?_
                  refine KC.seq ?_
                  refine KC.region ?_
                  refine KL.op (R.move rfl rfl) rfl rfl rfl ?_
                  refine KL.op (R.move rfl rfl) rfl rfl rfl ?_
                  refine KL.call rfl rfl rfl rfl Try.call12 rfl rfl rfl (End_any _ _ _ _ _ _ hj) ?_
                  rintro _ _ ⟨rfl, rfl⟩
                  refine KL.op (R.assign rfl rfl) rfl rfl rfl ?_
                  refine KL.nil ?_
                  refine KQ.seq ?_
                  refine KC.seq ?_
                  refine KC.region ?_
                  refine KL.op (R.move rfl rfl) rfl rfl rfl ?_
                  refine KL.op (R.move rfl rfl) rfl rfl rfl ?_
                  refine KL.op ((R.gtr rfl rfl rfl).val (congrArg Value.bool (decide_eq_false (by omega)))) rfl rfl rfl ?_
                  refine KL.op (R.move rfl rfl) rfl rfl rfl ?_
                  refine KL.op (R.move rfl rfl) rfl rfl rfl ?_
                  refine KL.op (R.move rfl rfl) rfl rfl rfl ?_
                  refine KL.op (R.index (j := c) rfl Try.underlying27 sz37 rfl rfl (hs.old o0) rfl (by omega)) rfl rfl rfl ?_
                  refine KL.op ((by first | exact R.fieldAddr rfl Try.underlying37 rfl rfl sz5 rfl | exact R.fieldAddrP rfl Try.underlying37 rfl rfl sz5 rfl)) rfl rfl rfl ?_
                  refine KL.op (R.load rfl Try.underlying5 rfl rfl (by first | exact cell_of bx rfl | exact ((hs.old o0).insOp e (by omega)).1 | exact ((hs.old o0).insOp c (by omega)).1 | exact ((hs.old o0).insOp a (by omega)).1 | exact (wsn.int e (by omega)).1 | exact (wsn.int e (by rw [List.length_set]; omega)).1 | assumption)) rfl rfl rfl ?_
                  refine KL.op (R.eql rfl rfl rfl) rfl rfl rfl ?_
                  refine KL.op (R.move rfl rfl) rfl rfl rfl ?_
                  refine KL.case (d := 111) rfl ?_ ?_
                  · intro hg111
                    try simp only [decide_eq_true_eq, decide_eq_false_iff_not, Bool.not_eq_true', Bool.not_eq_false', Bool.and_eq_true, Bool.or_eq_false_iff] at hg111
                    refine KL.op (R.move rfl rfl) rfl rfl rfl ?_
                    refine KL.op (R.move rfl rfl) rfl rfl rfl ?_
                    refine KL.call rfl rfl rfl rfl Try.call14 rfl rfl rfl (Open_any _ _ _ _ _ _ hj) ?_
                    rintro _ _ ⟨rfl, rfl⟩
                    refine KL.op (R.move rfl rfl) rfl rfl rfl ?_
                    refine KL.op ((R.leq rfl rfl rfl).val (congrArg Value.bool (decide_eq_false (by omega)))) rfl rfl rfl ?_
                    refine KL.op (R.pick rfl rfl rfl) rfl rfl rfl ?_
                    refine KL.op (R.pick rfl rfl rfl) rfl rfl rfl ?_
                    refine KL.nil ?_
                    refine KQ.seq ?_
                    refine KC.condF rfl ?_
                    refine KC.skip ?_
                    refine KQ.normBlock ?_
                    refine KQ.seq ?_
                    refine KC.region ?_
                    refine KL.op (R.move rfl rfl) rfl rfl rfl ?_
                    refine KL.op (R.add rfl rfl rfl (by dsimp only [InR]; omega)) rfl rfl rfl ?_
                    refine KL.op (R.assign rfl rfl) rfl rfl rfl ?_
                    refine KL.nil ?_
                    refine KQ.again (c + 1) ?_ ?_ ?_
                    · exact (Sub.cons rfl (Ext.sub (by repeat (first | exact Ext.refl _ _ | refine Ext.put rfl ?_ | refine Ext.drop rfl ?_))))
                    · omega
                    · exact ⟨by omega, by omega, rfl⟩
                  · intro hg111
                    try simp only [decide_eq_true_eq, decide_eq_false_iff_not, Bool.not_eq_true', Bool.not_eq_false', Bool.and_eq_true, Bool.or_eq_false_iff] at hg111
                    refine KL.skip rfl rfl rfl ?_
                    refine KL.skip rfl rfl rfl ?_
                    refine KL.skip rfl rfl rfl ?_
                    refine KL.skip rfl rfl rfl ?_
                    refine KL.skip rfl rfl rfl ?_
                    refine KL.op (R.pick rfl rfl rfl) rfl rfl rfl ?_
                    refine KL.op (R.pick rfl rfl rfl) rfl rfl rfl ?_
                    refine KL.nil ?_
                    refine KQ.seq ?_
                    refine KC.condF rfl ?_
                    refine KC.skip ?_
                    refine KQ.normBlock ?_
                    refine KQ.seq ?_
                    refine KC.region ?_
                    refine KL.op (R.move rfl rfl) rfl rfl rfl ?_
                    refine KL.op (R.add rfl rfl rfl (by dsimp only [InR]; omega)) rfl rfl rfl ?_
                    refine KL.op (R.assign rfl rfl) rfl rfl rfl ?_
                    refine KL.nil ?_
                    refine KQ.again (c + 1) ?_ ?_ ?_
                    · exact (Sub.cons rfl (Ext.sub (by repeat (first | exact Ext.refl _ _ | refine Ext.put rfl ?_ | refine Ext.drop rfl ?_))))
                    · omega
                    · exact ⟨by omega, by omega, rfl⟩
                · intro hc95
                  try simp only [decide_eq_true_eq, decide_eq_false_iff_not, Bool.not_eq_true', Bool.not_eq_false', Bool.and_eq_true, Bool.or_eq_false_iff] at hc95
                  refine KC.exit ?_
                  refine KQ.exitThen ?_
                  refine KQ.exitThen ?_
                  refine KQ.hit ?_
                  refine KQ.seq ?_
                  refine KC.seq ?_
                  refine KC.region ?_
                  refine KL.op (R.move rfl rfl) rfl rfl rfl ?_
                  refine KL.op (R.move rfl rfl) rfl rfl rfl ?_
                  refine KL.call rfl rfl rfl rfl Try.call13 rfl rfl rfl (Else_any _ _ _ _ _ _ hj) ?_
                  rintro _ _ ⟨rfl, rfl⟩
                  refine KL.op (R.assign rfl rfl) rfl rfl rfl ?_
                  refine KL.nil ?_
                  refine KQ.seq ?_
                  refine KC.seq ?_
                  refine KC.region ?_
                  refine KL.op (R.move rfl rfl) rfl rfl rfl ?_
                  refine KL.op (R.geq rfl rfl rfl) rfl rfl rfl ?_
                  refine KL.nil ?_
                  refine KQ.seq ?_
                  refine KC.iteL rfl ?_ ?_
                  · intro hc123
                    try simp only [decide_eq_true_eq, decide_eq_false_iff_not, Bool.not_eq_true', Bool.not_eq_false', Bool.and_eq_true, Bool.or_eq_false_iff] at hc123
                    obtain ⟨a, ha, a1, a2, a3, a4, a5, ⟨s1, hs1⟩, s2, hs2⟩ := e7.resolve_right (fun h => by omega)
                    rw [ha]
                    refine KC.seq ?_
                    refine KC.seq ?_
                    refine KC.region ?_
                    refine KL.op (R.move rfl rfl) rfl rfl rfl ?_
                    refine KL.op (R.move rfl rfl) rfl rfl rfl ?_
                    refine KL.op ((R.leq rfl rfl rfl).val (congrArg Value.bool (decide_eq_false (by omega)))) rfl rfl rfl ?_
                    refine KL.op (R.move rfl rfl) rfl rfl rfl ?_
                    refine KL.op (R.move rfl rfl) rfl rfl rfl ?_
                    refine KL.op (R.move rfl rfl) rfl rfl rfl ?_
                    refine KL.op ((R.geq rfl rfl rfl).val (congrArg Value.bool (decide_eq_false (by omega)))) rfl rfl rfl ?_
                    refine KL.op (R.pick rfl rfl rfl) rfl rfl rfl ?_
                    refine KL.op (R.move rfl rfl) rfl rfl rfl ?_
                    refine KL.op (R.move rfl rfl) rfl rfl rfl ?_
                    refine KL.op (R.move rfl rfl) rfl rfl rfl ?_
                    refine KL.op (R.index (j := a) rfl Try.underlying27 sz37 rfl rfl (hs.old o0) rfl (by omega)) rfl rfl rfl ?_
                    refine KL.op ((by first | exact R.fieldAddr rfl Try.underlying37 rfl rfl sz5 rfl | exact R.fieldAddrP rfl Try.underlying37 rfl rfl sz5 rfl)) rfl rfl rfl ?_
                    refine KL.op (R.load rfl Try.underlying5 rfl rfl (by first | exact cell_of bx rfl | exact ((hs.old o0).insOp e (by omega)).1 | exact ((hs.old o0).insOp c (by omega)).1 | exact ((hs.old o0).insOp a (by omega)).1 | exact (wsn.int e (by omega)).1 | exact (wsn.int e (by rw [List.length_set]; omega)).1 | assumption)) rfl rfl rfl ?_
                    refine KL.op ((R.neq rfl rfl rfl).val ((congrArg (fun b => Value.bool (!b)) (decide_eq_true (by omega))))) rfl rfl rfl ?_
                    refine KL.op (R.pick rfl rfl rfl) rfl rfl rfl ?_
                    refine KL.op (R.move rfl rfl) rfl rfl rfl ?_
                    refine KL.op (R.move rfl rfl) rfl rfl rfl ?_
                    refine KL.op (R.move rfl rfl) rfl rfl rfl ?_
                    refine KL.call rfl rfl rfl rfl Try.call12 rfl rfl rfl (End_any _ _ _ _ _ _ hj) ?_
                    rintro _ _ ⟨rfl, rfl⟩
                    rw [a4]
                    refine KL.op (R.move rfl rfl) rfl rfl rfl ?_
                    refine KL.op ((R.neq rfl rfl rfl).val ((congrArg (fun b => Value.bool (!b)) (decide_eq_true (by rfl))))) rfl rfl rfl ?_
                    refine KL.op (R.pick rfl rfl rfl) rfl rfl rfl ?_
                    refine KL.op (R.move rfl rfl) rfl rfl rfl ?_
                    refine KL.op (R.move rfl rfl) rfl rfl rfl ?_
                    refine KL.op (R.move rfl rfl) rfl rfl rfl ?_
                    refine KL.call rfl rfl rfl rfl Try.call14 rfl rfl rfl (Open_any _ _ _ _ _ _ hj) ?_
                    rintro _ _ ⟨rfl, rfl⟩
                    rw [a5]
                    refine KL.op (R.move rfl rfl) rfl rfl rfl ?_
                    refine KL.op ((R.neq rfl rfl rfl).val ((congrArg (fun b => Value.bool (!b)) (decide_eq_true (by rfl))))) rfl rfl rfl ?_
                    refine KL.op (R.pick rfl rfl rfl) rfl rfl rfl ?_
                    refine KL.nil ?_
                    refine KQ.seq ?_
                    refine KC.condF rfl ?_
                    refine KC.skip ?_
                    refine KQ.seq ?_
                    refine KC.seq ?_
                    refine KC.region ?_
                    refine KL.op (R.move rfl rfl) rfl rfl rfl ?_
                    refine KL.op (R.move rfl rfl) rfl rfl rfl ?_
                    refine KL.op (R.add rfl rfl rfl (by dsimp only [InR]; omega)) rfl rfl rfl ?_
                    refine KL.op (R.move rfl rfl) rfl rfl rfl ?_
                    refine KL.op (R.slice (i := (k + 1)) (j := a) rfl Try.underlying27 sz37 rfl (hs.old o0) (bnd.mk rfl (by omega)) (bnd.mk rfl (by omega)) (by omega) (by omega)) rfl rfl rfl ?_
                    refine KL.call rfl rfl rfl rfl Try.call7 rfl rfl rfl (Of_any _ _ ((hs.old o0).sub (lo := (k + 1)) (hi := a) (by omega) (by omega)) (by simp only [List.length_drop, List.length_take]; omega)) ?_
                    rintro _ H14 ⟨ox, hR⟩
                    have o0 := o0.trans ox
                    have wsn := wsn.old ox
                    have oP := oP.trans ox
                    have bx := (ox).blk bx
                    have hj := hj.old ox
                    rcases hR with ⟨s1, g1x, hof1, rfl, hj1⟩ | ⟨hof1, rfl⟩
                    · skip
                      refine KL.op (R.move rfl rfl) rfl rfl rfl ?_
                      refine KL.op (R.extract rfl rfl rfl) rfl rfl rfl ?_
                      refine KL.op (R.extract rfl rfl rfl) rfl rfl rfl ?_
                      refine KL.op (R.assign rfl rfl) rfl rfl rfl ?_
                      refine KL.op (R.assign rfl rfl) rfl rfl rfl ?_
                      refine KL.nil ?_
                      refine KQ.seq ?_
                      refine KC.seq ?_
                      refine KC.region ?_
                      refine KL.op (R.move rfl rfl) rfl rfl rfl ?_
                      refine KL.op (R.move rfl rfl) rfl rfl rfl ?_
                      refine KL.op (R.add rfl rfl rfl (by dsimp only [InR]; omega)) rfl rfl rfl ?_
                      refine KL.op (R.move rfl rfl) rfl rfl rfl ?_
                      refine KL.op (R.slice (i := (a + 1)) (j := e) rfl Try.underlying27 sz37 rfl (hs.old o0) (bnd.mk rfl (by omega)) (bnd.mk rfl (by omega)) (by omega) (by omega)) rfl rfl rfl ?_
                      refine KL.call rfl rfl rfl rfl Try.call7 rfl rfl rfl (Of_any _ _ ((hs.old o0).sub (lo := (a + 1)) (hi := e) (by omega) (by omega)) (by simp only [List.length_drop, List.length_take]; omega)) ?_
                      rintro _ H15 ⟨ox, hR⟩
                      have o0 := o0.trans ox
                      have wsn := wsn.old ox
                      have oP := oP.trans ox
                      have bx := (ox).blk bx
                      have hj := hj.old ox
                      rcases hR with ⟨s2, g2x, hof2, rfl, hj2⟩ | ⟨hof2, rfl⟩
                      · skip
                        refine KL.op (R.move rfl rfl) rfl rfl rfl ?_
                        refine KL.op (R.extract rfl rfl rfl) rfl rfl rfl ?_
                        refine KL.op (R.extract rfl rfl rfl) rfl rfl rfl ?_
                        refine KL.op (R.assign rfl rfl) rfl rfl rfl ?_
                        refine KL.op (R.assign rfl rfl) rfl rfl rfl ?_
                        refine KL.nil ?_
                        refine KQ.seq ?_
                        refine KC.seq ?_
                        refine KC.region ?_
                        refine KL.op (R.move rfl rfl) rfl rfl rfl ?_
                        refine KL.op (R.not rfl rfl) rfl rfl rfl ?_
                        refine KL.op (R.move rfl rfl) rfl rfl rfl ?_
                        refine KL.op (R.move rfl rfl) rfl rfl rfl ?_
                        refine KL.op (R.not rfl rfl) rfl rfl rfl ?_
                        refine KL.op (R.pick rfl rfl rfl) rfl rfl rfl ?_
                        refine KL.nil ?_
                        refine KQ.seq ?_
                        refine KC.condF rfl ?_
                        refine KC.skip ?_
                        refine KQ.normBlock ?_
                        refine KQ.seq ?_
                        refine KC.region ?_
                        refine KL.op (R.add rfl rfl rfl (by dsimp only [InR]; omega)) rfl rfl rfl ?_
                        refine KL.op (R.move rfl rfl) rfl rfl rfl ?_
                        refine KL.nil ?_
                        refine KQ.again ((k + 1, sn.set e (sn.getD e default + 1))) ?_ ?_ ?_
                        · exact (Sub.cons rfl (Ext.sub (by repeat (first | exact Ext.refl _ _ | refine Ext.put rfl ?_ | refine Ext.drop rfl ?_))))
                        · show l.length - (k + 1) < l.length - k; omega
                        · first | exact ⟨by show k + 1 ≤ _; omega, seen_more hsn, wsn, o0, oP⟩ | exact ⟨by show k + 1 ≤ _; omega, seen_set hsn (by omega) hx he1 _ (by omega), wsn, o0, oP⟩
                      · skip
                        exact absurd (hs2.symm.trans hof2) (by simp)
                    · skip
                      exact absurd (hs1.symm.trans hof1) (by simp)
                  · intro hc123
                    try simp only [decide_eq_true_eq, decide_eq_false_iff_not, Bool.not_eq_true', Bool.not_eq_false', Bool.and_eq_true, Bool.or_eq_false_iff] at hc123
                    obtain ⟨ha, s1, hs1⟩ := e7.resolve_left (fun ⟨a, h, _⟩ => by omega)
                    refine KC.seq ?_
                    refine KC.region ?_
                    refine KL.op (R.move rfl rfl) rfl rfl rfl ?_
                    refine KL.op (R.move rfl rfl) rfl rfl rfl ?_
                    refine KL.op (R.add rfl rfl rfl (by dsimp only [InR]; omega)) rfl rfl rfl ?_
                    refine KL.op (R.move rfl rfl) rfl rfl rfl ?_
                    refine KL.op (R.slice (i := (k + 1)) (j := e) rfl Try.underlying27 sz37 rfl (hs.old o0) (bnd.mk rfl (by omega)) (bnd.mk rfl (by omega)) (by omega) (by omega)) rfl rfl rfl ?_
                    refine KL.call rfl rfl rfl rfl Try.call7 rfl rfl rfl (Of_any _ _ ((hs.old o0).sub (lo := (k + 1)) (hi := e) (by omega) (by omega)) (by simp only [List.length_drop, List.length_take]; omega)) ?_
                    rintro _ H16 ⟨ox, hR⟩
                    have o0 := o0.trans ox
                    have wsn := wsn.old ox
                    have oP := oP.trans ox
                    have bx := (ox).blk bx
                    have hj := hj.old ox
                    rcases hR with ⟨s3, g3x, hof3, rfl, hj3⟩ | ⟨hof3, rfl⟩
                    · skip
                      refine KL.op (R.move rfl rfl) rfl rfl rfl ?_
                      refine KL.op (R.extract rfl rfl rfl) rfl rfl rfl ?_
                      refine KL.op (R.extract rfl rfl rfl) rfl rfl rfl ?_
                      refine KL.op (R.assign rfl rfl) rfl rfl rfl ?_
                      refine KL.op (R.assign rfl rfl) rfl rfl rfl ?_
                      refine KL.nil ?_
                      refine KQ.seq ?_
                      refine KC.seq ?_
                      refine KC.region ?_
                      refine KL.op (R.move rfl rfl) rfl rfl rfl ?_
                      refine KL.op (R.not rfl rfl) rfl rfl rfl ?_
                      refine KL.nil ?_
                      refine KQ.seq ?_
                      refine KC.condF rfl ?_
                      refine KC.skip ?_
                      refine KQ.normBlock ?_
                      refine KQ.seq ?_
                      refine KC.region ?_
                      refine KL.op (R.add rfl rfl rfl (by dsimp only [InR]; omega)) rfl rfl rfl ?_
                      refine KL.op (R.move rfl rfl) rfl rfl rfl ?_
                      refine KL.nil ?_
                      refine KQ.again ((k + 1, sn.set e (sn.getD e default + 1))) ?_ ?_ ?_
                      · exact (Sub.cons rfl (Ext.sub (by repeat (first | exact Ext.refl _ _ | refine Ext.put rfl ?_ | refine Ext.drop rfl ?_))))
                      · show l.length - (k + 1) < l.length - k; omega
                      · first | exact ⟨by show k + 1 ≤ _; omega, seen_more hsn, wsn, o0, oP⟩ | exact ⟨by show k + 1 ≤ _; omega, seen_set hsn (by omega) hx he1 _ (by omega), wsn, o0, oP⟩
                    · skip
                      exact absurd (hs1.symm.trans hof3) (by simp)
          · intro hg43
            try simp only [decide_eq_true_eq, decide_eq_false_iff_not, Bool.not_eq_true', Bool.not_eq_false', Bool.and_eq_true, Bool.or_eq_false_iff] at hg43
            refine KL.skip rfl rfl rfl ?_
            refine KL.skip rfl rfl rfl ?_
            refine KL.skip rfl rfl rfl ?_
            refine KL.op (R.pick rfl rfl rfl) rfl rfl rfl ?_
            refine KL.op (R.move rfl rfl) rfl rfl rfl ?_
            refine KL.skip rfl rfl rfl ?_
            refine KL.skip rfl rfl rfl ?_
            refine KL.skip rfl rfl rfl ?_
            refine KL.op (R.pick rfl rfl rfl) rfl rfl rfl ?_
            refine KL.nil ?_
            refine KQ.seq ?_
            refine KC.condF rfl ?_
            refine KC.skip ?_
            refine KQ.seq ?_
            refine KC.seq ?_
            have hx : isOpn (l.getD k default).op := by unfold isOpn; omega
            obtain ⟨e, e1, e2, he1, e4, e5, e6, e7⟩ := nests hof (by omega) hx
            have hsn0 := seen_new hof hsn (by omega) e2 hx he1 e5
            have hsnl := hsn.1
            refine KC.region ?_
            refine KL.op (R.move rfl rfl) rfl rfl rfl ?_
            refine KL.op (R.move rfl rfl) rfl rfl rfl ?_
            refine KL.call rfl rfl rfl rfl Try.call12 rfl rfl rfl (End_any _ _ _ _ _ _ hj) ?_
            rintro _ _ ⟨rfl, rfl⟩
            rw [he1]
            refine KL.op (R.assign rfl rfl) rfl rfl rfl ?_
            refine KL.nil ?_
            refine KQ.seq ?_
            refine KC.seq ?_
            refine KC.seq ?_
            refine KC.region ?_
            refine KL.op (R.move rfl rfl) rfl rfl rfl ?_
            refine KL.op (R.move rfl rfl) rfl rfl rfl ?_
            refine KL.op ((R.leq rfl rfl rfl).val (congrArg Value.bool (decide_eq_false (by omega)))) rfl rfl rfl ?_
            refine KL.op (R.move rfl rfl) rfl rfl rfl ?_
            refine KL.op (R.move rfl rfl) rfl rfl rfl ?_
            refine KL.op (R.move rfl rfl) rfl rfl rfl ?_
            refine KL.op ((by first | exact R.lenS rfl Try.underlying27 rfl (by first | exact hs.old o0 | exact hj | assumption) | exact R.len (ty := 0) rfl Try.underlying27 rfl)) rfl rfl rfl ?_
            refine KL.op ((R.geq rfl rfl rfl).val (congrArg Value.bool (decide_eq_false (by omega)))) rfl rfl rfl ?_
            refine KL.op (R.pick rfl rfl rfl) rfl rfl rfl ?_
            refine KL.op (R.move rfl rfl) rfl rfl rfl ?_
            refine KL.op (R.move rfl rfl) rfl rfl rfl ?_
            refine KL.op (R.move rfl rfl) rfl rfl rfl ?_
            refine KL.op (R.index (j := e) rfl Try.underlying27 sz37 rfl rfl (hs.old o0) rfl (by omega)) rfl rfl rfl ?_
            refine KL.op ((by first | exact R.fieldAddr rfl Try.underlying37 rfl rfl sz5 rfl | exact R.fieldAddrP rfl Try.underlying37 rfl rfl sz5 rfl)) rfl rfl rfl ?_
            refine KL.op (R.load rfl Try.underlying5 rfl rfl (by first | exact cell_of bx rfl | exact ((hs.old o0).insOp e (by omega)).1 | exact ((hs.old o0).insOp c (by omega)).1 | exact ((hs.old o0).insOp a (by omega)).1 | exact (wsn.int e (by omega)).1 | exact (wsn.int e (by rw [List.length_set]; omega)).1 | assumption)) rfl rfl rfl ?_
            refine KL.op ((R.neq rfl rfl rfl).val ((congrArg (fun b => Value.bool (!b)) (decide_eq_true (by omega))))) rfl rfl rfl ?_
            refine KL.op (R.pick rfl rfl rfl) rfl rfl rfl ?_
            refine KL.op (R.move rfl rfl) rfl rfl rfl ?_
            refine KL.op (R.move rfl rfl) rfl rfl rfl ?_
            refine KL.op (R.move rfl rfl) rfl rfl rfl ?_
            refine KL.call rfl rfl rfl rfl Try.call14 rfl rfl rfl (Open_any _ _ _ _ _ _ hj) ?_
            rintro _ _ ⟨rfl, rfl⟩
            rw [e5]
            refine KL.op (R.move rfl rfl) rfl rfl rfl ?_
            refine KL.op ((R.neq rfl rfl rfl).val ((congrArg (fun b => Value.bool (!b)) (decide_eq_true (by rfl))))) rfl rfl rfl ?_
            refine KL.op (R.pick rfl rfl rfl) rfl rfl rfl ?_
            refine KL.nil ?_
            refine KQ.seq ?_
            refine KC.condF rfl ?_
            refine KC.skip ?_
            refine KQ.seq ?_
            refine KC.seq ?_
            refine KC.seq ?_
            refine KC.region ?_
            refine KL.op (R.move rfl rfl) rfl rfl rfl ?_
            refine KL.op (R.move rfl rfl) rfl rfl rfl ?_
            refine KL.op (R.indexO1 (j := e) rfl Try.underlying40 sz3 rfl rfl wsn rfl (by omega)) rfl rfl rfl ?_
            refine KL.op (R.load rfl Try.underlying3 rfl rfl (by first | exact cell_of bx rfl | exact ((hs.old o0).insOp e (by omega)).1 | exact ((hs.old o0).insOp c (by omega)).1 | exact ((hs.old o0).insOp a (by omega)).1 | exact (wsn.int e (by omega)).1 | exact (wsn.int e (by rw [List.length_set]; omega)).1 | assumption)) rfl rfl rfl ?_
            refine KL.op (R.add rfl rfl rfl (by dsimp only [InR]; omega)) rfl rfl rfl ?_
            refine KL.op (R.indexO1 (j := e) rfl Try.underlying40 sz3 rfl rfl wsn rfl (by omega)) rfl rfl rfl ?_
            refine KL.opS (S.own1 rfl sz3 rfl rfl rfl rfl wsn (by omega) ⟨rfl, by dsimp only [InR]; omega⟩) rfl rfl ?_
            rintro H17 ⟨u17, w17⟩
            have o0 := o0.upd u17 (by omega)
            have zu17 := u17.1
            have oP := oP.upd u17 (by omega)
            have bx := ((u17).2 _ (by omega)).trans bx
            have wsn := w17
            have hj := hjP.old oP
            refine KL.nil ?_
            refine KQ.seq ?_
            refine KC.seq ?_
            refine KC.region ?_
            refine KL.op (R.move rfl rfl) rfl rfl rfl ?_
            refine KL.op (R.move rfl rfl) rfl rfl rfl ?_
            refine KL.op (R.indexO1 (j := e) rfl Try.underlying40 sz3 rfl rfl wsn rfl (by rw [List.length_set]; omega)) rfl rfl rfl ?_
            refine KL.op (R.load rfl Try.underlying3 rfl rfl (by first | exact cell_of bx rfl | exact ((hs.old o0).insOp e (by omega)).1 | exact ((hs.old o0).insOp c (by omega)).1 | exact ((hs.old o0).insOp a (by omega)).1 | exact (wsn.int e (by omega)).1 | exact (wsn.int e (by rw [List.length_set]; omega)).1 | assumption)) rfl rfl rfl ?_
            refine KL.op ((R.gtr rfl rfl rfl).val (congrArg Value.bool (decide_eq_false (by rw [getD_set_eq (by omega)]; omega)))) rfl rfl rfl ?_
            refine KL.nil ?_
            refine KQ.seq ?_
            refine KC.condF rfl ?_
            refine KC.skip ?_
            refine KQ.seq ?_
            refine KC.seq ?_
            refine KC.seq ?_
            refine KC.region ?_
            refine KL.op (R.move rfl rfl) rfl rfl rfl ?_
            refine KL.op ((R.add rfl rfl rfl (by dsimp only [InR]; omega)).val (congrArg (Value.int .i64) (show (k : Int) + 1 = ((k + 1 : Nat) : Int) by omega))) rfl rfl rfl ?_
            refine KL.op (R.assign rfl rfl) rfl rfl rfl ?_
            refine KL.nil ?_
            refine KQ.seq ?_
            refine KC.block ?_
            refine KC.loopD (κ := Nat) [93, 94, 95, 98, 99, 100, 10, 101, 102, 103, 104, 105, 106, 107, 108, 109, 110, 111, 112, 113, 114, 115, 116, 117, 118, 2, 96, 97, 9] (fun c => [(9, .int .i64 (c : Nat))]) (fun c Hl => k + 1 ≤ c ∧ c ≤ e ∧ H17 = Hl) (fun c => e - c) (k + 1) ?_ ?_ ?_
            · exact (Sub.cons rfl (Ext.sub (Ext.refl _ _)))
            · exact ⟨Nat.le_refl _, by omega, rfl⟩
            · rintro c H18 ⟨hk1, hk2, rfl⟩
              refine KC.seq ?_
              refine KC.seq ?_
              refine KC.region ?_
              refine KL.op (R.move rfl rfl) rfl rfl rfl ?_
              refine KL.op (R.move rfl rfl) rfl rfl rfl ?_
              refine KL.op (R.lss rfl rfl rfl) rfl rfl rfl ?_
              refine KL.nil ?_
              refine KQ.seq ?_
              refine KC.iteL rfl ?_ ?_
              · intro hc95
                try simp only [decide_eq_true_eq, decide_eq_false_iff_not, Bool.not_eq_true', Bool.not_eq_false', Bool.and_eq_true, Bool.or_eq_false_iff] at hc95
                obtain ⟨f1, f2⟩ := e6 c (by omega) (by omega)
                refine KC.skip ?_
                refine KQ.seq ?_
                refine KC.seq ?_
                refine KC.block ?_
                refine KC.seq ?_
                refine KC.region ?_
                refine KL.op (R.move rfl rfl) rfl rfl rfl ?_
                refine KL.op (R.move rfl rfl) rfl rfl rfl ?_
                refine KL.call rfl rfl rfl rfl Try.call12 rfl rfl rfl (End_any _ _ _ _ _ _ hj) ?_
                rintro _ _ ⟨rfl, rfl⟩
                refine KL.op (R.assign rfl rfl) rfl rfl rfl ?_
                refine KL.nil ?_
                refine KQ.seq ?_
                refine KC.seq ?_
                refine KC.region ?_
                refine KL.op (R.move rfl rfl) rfl rfl rfl ?_
                refine KL.op (R.move rfl rfl) rfl rfl rfl ?_
                refine KL.op ((R.gtr rfl rfl rfl).val (congrArg Value.bool (decide_eq_false (by omega)))) rfl rfl rfl ?_
                refine KL.op (R.move rfl rfl) rfl rfl rfl ?_
                refine KL.op (R.move rfl rfl) rfl rfl rfl ?_
                refine KL.op (R.move rfl rfl) rfl rfl rfl ?_
                refine KL.op (R.index (j := c) rfl Try.underlying27 sz37 rfl rfl (hs.old o0) rfl (by omega)) rfl rfl rfl ?_
                refine KL.op ((by first | exact R.fieldAddr rfl Try.underlying37 rfl rfl sz5 rfl | exact R.fieldAddrP rfl Try.underlying37 rfl rfl sz5 rfl)) rfl rfl rfl ?_
                refine KL.op (R.load rfl Try.underlying5 rfl rfl (by first | exact cell_of bx rfl | exact ((hs.old o0).insOp e (by omega)).1 | exact ((hs.old o0).insOp c (by omega)).1 | exact ((hs.old o0).insOp a (by omega)).1 | exact (wsn.int e (by omega)).1 | exact (wsn.int e (by rw [List.length_set]; omega)).1 | assumption)) rfl rfl rfl ?_
                refine KL.op (R.eql rfl rfl rfl) rfl rfl rfl ?_
                refine KL.op (R.move rfl rfl) rfl rfl rfl ?_
                refine KL.case (d := 111) rfl ?_ ?_
                · intro hg111
                  try simp only [decide_eq_true_eq, decide_eq_false_iff_not, Bool.not_eq_true', Bool.not_eq_false', Bool.and_eq_true, Bool.or_eq_false_iff] at hg111
                  refine KL.op (R.move rfl rfl) rfl rfl rfl ?_
                  refine KL.op (R.move rfl rfl) rfl rfl rfl ?_
                  refine KL.call rfl rfl rfl rfl Try.call14 rfl rfl rfl (Open_any _ _ _ _ _ _ hj) ?_
                  rintro _ _ ⟨rfl, rfl⟩
                  refine KL.op (R.move rfl rfl) rfl rfl rfl ?_
                  refine KL.op ((R.leq rfl rfl rfl).val (congrArg Value.bool (decide_eq_false (by omega)))) rfl rfl rfl ?_
                  refine KL.op (R.pick rfl rfl rfl) rfl rfl rfl ?_
                  refine KL.op (R.pick rfl rfl rfl) rfl rfl rfl ?_
                  refine KL.nil ?_
                  refine KQ.seq ?_
                  refine KC.condF rfl ?_
                  refine KC.skip ?_
                  refine KQ.normBlock ?_
                  refine KQ.seq ?_
                  refine KC.region ?_
                  refine KL.op (R.move rfl rfl) rfl rfl rfl ?_
                  refine KL.op (R.add rfl rfl rfl (by dsimp only [InR]; omega)) rfl rfl rfl ?_
                  refine KL.op (R.assign rfl rfl) rfl rfl rfl ?_
                  refine KL.nil ?_
                  refine KQ.again (c + 1) ?_ ?_ ?_
                  · exact (Sub.cons rfl (Ext.sub (by repeat (first | exact Ext.refl _ _ | refine Ext.put rfl ?_ | refine Ext.drop rfl ?_))))
                  · omega
                  · exact ⟨by omega, by omega, rfl⟩
                · intro hg111
                  try simp only [decide_eq_true_eq, decide_eq_false_iff_not, Bool.not_eq_true', Bool.not_eq_false', Bool.and_eq_true, Bool.or_eq_false_iff] at hg111
                  refine KL.skip rfl rfl rfl ?_
                  refine KL.skip rfl rfl rfl ?_
                  refine KL.skip rfl rfl rfl ?_
                  refine KL.skip rfl rfl rfl ?_
                  refine KL.skip rfl rfl rfl ?_
                  refine KL.op (R.pick rfl rfl rfl) rfl rfl rfl ?_
                  refine KL.op (R.pick rfl rfl rfl) rfl rfl rfl ?_
                  refine KL.nil ?_
                  refine KQ.seq ?_
                  refine KC.condF rfl ?_
                  refine KC.skip ?_
                  refine KQ.normBlock ?_
                  refine KQ.seq ?_
                  refine KC.region ?_
                  refine KL.op (R.move rfl rfl) rfl rfl rfl ?_
                  refine KL.op (R.add rfl rfl rfl (by dsimp only [InR]; omega)) rfl rfl rfl ?_
                  refine KL.op (R.assign rfl rfl) rfl rfl rfl ?_
                  refine KL.nil ?_
                  refine KQ.again (c + 1) ?_ ?_ ?_
                  · exact (Sub.cons rfl (Ext.sub (by repeat (first | exact Ext.refl _ _ | refine Ext.put rfl ?_ | refine Ext.drop rfl ?_))))
                  · omega
                  · exact ⟨by omega, by omega, rfl⟩
              · intro hc95
                try simp only [decide_eq_true_eq, decide_eq_false_iff_not, Bool.not_eq_true', Bool.not_eq_false', Bool.and_eq_true, Bool.or_eq_false_iff] at hc95
                refine KC.exit ?_
                refine KQ.exitThen ?_
                refine KQ.exitThen ?_
                refine KQ.hit ?_
                refine KQ.seq ?_
                refine KC.seq ?_
                refine KC.region ?_
                refine KL.op (R.move rfl rfl) rfl rfl rfl ?_
                refine KL.op (R.move rfl rfl) rfl rfl rfl ?_
                refine KL.call rfl rfl rfl rfl Try.call13 rfl rfl rfl (Else_any _ _ _ _ _ _ hj) ?_
                rintro _ _ ⟨rfl, rfl⟩
                refine KL.op (R.assign rfl rfl) rfl rfl rfl ?_
                refine KL.nil ?_
                refine KQ.seq ?_
                refine KC.seq ?_
                refine KC.region ?_
                refine KL.op (R.move rfl rfl) rfl rfl rfl ?_
                refine KL.op (R.geq rfl rfl rfl) rfl rfl rfl ?_
                refine KL.nil ?_
                refine KQ.seq ?_
                refine KC.iteL rfl ?_ ?_
                · intro hc123
                  try simp only [decide_eq_true_eq, decide_eq_false_iff_not, Bool.not_eq_true', Bool.not_eq_false', Bool.and_eq_true, Bool.or_eq_false_iff] at hc123
                  obtain ⟨a, ha, a1, a2, a3, a4, a5, ⟨s1, hs1⟩, s2, hs2⟩ := e7.resolve_right (fun h => by omega)
                  rw [ha]
                  refine KC.seq ?_
                  refine KC.seq ?_
                  refine KC.region ?_
                  refine KL.op (R.move rfl rfl) rfl rfl rfl ?_
                  refine KL.op (R.move rfl rfl) rfl rfl rfl ?_
                  refine KL.op ((R.leq rfl rfl rfl).val (congrArg Value.bool (decide_eq_false (by omega)))) rfl rfl rfl ?_
                  refine KL.op (R.move rfl rfl) rfl rfl rfl ?_
                  refine KL.op (R.move rfl rfl) rfl rfl rfl ?_
                  refine KL.op (R.move rfl rfl) rfl rfl rfl ?_
                  refine KL.op ((R.geq rfl rfl rfl).val (congrArg Value.bool (decide_eq_false (by omega)))) rfl rfl rfl ?_
                  refine KL.op (R.pick rfl rfl rfl) rfl rfl rfl ?_
                  refine KL.op (R.move rfl rfl) rfl rfl rfl ?_
                  refine KL.op (R.move rfl rfl) rfl rfl rfl ?_
                  refine KL.op (R.move rfl rfl) rfl rfl rfl ?_
                  refine KL.op (R.index (j := a) rfl Try.underlying27 sz37 rfl rfl (hs.old o0) rfl (by omega)) rfl rfl rfl ?_
                  refine KL.op ((by first | exact R.fieldAddr rfl Try.underlying37 rfl rfl sz5 rfl | exact R.fieldAddrP rfl Try.underlying37 rfl rfl sz5 rfl)) rfl rfl rfl ?_
                  refine KL.op (R.load rfl Try.underlying5 rfl rfl (by first | exact cell_of bx rfl | exact ((hs.old o0).insOp e (by omega)).1 | exact ((hs.old o0).insOp c (by omega)).1 | exact ((hs.old o0).insOp a (by omega)).1 | exact (wsn.int e (by omega)).1 | exact (wsn.int e (by rw [List.length_set]; omega)).1 | assumption)) rfl rfl rfl ?_
                  refine KL.op ((R.neq rfl rfl rfl).val ((congrArg (fun b => Value.bool (!b)) (decide_eq_true (by omega))))) rfl rfl rfl ?_
                  refine KL.op (R.pick rfl rfl rfl) rfl rfl rfl ?_
                  refine KL.op (R.move rfl rfl) rfl rfl rfl ?_
                  refine KL.op (R.move rfl rfl) rfl rfl rfl ?_
                  refine KL.op (R.move rfl rfl) rfl rfl rfl ?_
                  refine KL.call rfl rfl rfl rfl Try.call12 rfl rfl rfl (End_any _ _ _ _ _ _ hj) ?_
                  rintro _ _ ⟨rfl, rfl⟩
                  rw [a4]
                  refine KL.op (R.move rfl rfl) rfl rfl rfl ?_
                  refine KL.op ((R.neq rfl rfl rfl).val ((congrArg (fun b => Value.bool (!b)) (decide_eq_true (by rfl))))) rfl rfl rfl ?_
                  refine KL.op (R.pick rfl rfl rfl) rfl rfl rfl ?_
                  refine KL.op (R.move rfl rfl) rfl rfl rfl ?_
                  refine KL.op (R.move rfl rfl) rfl rfl rfl ?_
                  refine KL.op (R.move rfl rfl) rfl rfl rfl ?_
                  refine KL.call rfl rfl rfl rfl Try.call14 rfl rfl rfl (Open_any _ _ _ _ _ _ hj) ?_
                  rintro _ _ ⟨rfl, rfl⟩
                  rw [a5]
                  refine KL.op (R.move rfl rfl) rfl rfl rfl ?_
                  refine KL.op ((R.neq rfl rfl rfl).val ((congrArg (fun b => Value.bool (!b)) (decide_eq_true (by rfl))))) rfl rfl rfl ?_
                  refine KL.op (R.pick rfl rfl rfl) rfl rfl rfl ?_
                  refine KL.nil ?_
                  refine KQ.seq ?_
                  refine KC.condF rfl ?_
                  refine KC.skip ?_
                  refine KQ.seq ?_
                  refine KC.seq ?_
                  refine KC.region ?_
                  refine KL.op (R.move rfl rfl) rfl rfl rfl ?_
                  refine KL.op (R.move rfl rfl) rfl rfl rfl ?_
                  refine KL.op (R.add rfl rfl rfl (by dsimp only [InR]; omega)) rfl rfl rfl ?_
                  refine KL.op (R.move rfl rfl) rfl rfl rfl ?_
                  refine KL.op (R.slice (i := (k + 1)) (j := a) rfl Try.underlying27 sz37 rfl (hs.old o0) (bnd.mk rfl (by omega)) (bnd.mk rfl (by omega)) (by omega) (by omega)) rfl rfl rfl ?_
                  refine KL.call rfl rfl rfl rfl Try.call7 rfl rfl rfl (Of_any _ _ ((hs.old o0).sub (lo := (k + 1)) (hi := a) (by omega) (by omega)) (by simp only [List.length_drop, List.length_take]; omega)) ?_
                  rintro _ H19 ⟨ox, hR⟩
                  have o0 := o0.trans ox
                  have wsn := wsn.old ox
                  have oP := oP.trans ox
                  have bx := (ox).blk bx
                  have hj := hj.old ox
                  rcases hR with ⟨s1, g1x, hof1, rfl, hj1⟩ | ⟨hof1, rfl⟩
                  · skip
                    refine KL.op (R.move rfl rfl) rfl rfl rfl ?_
                    refine KL.op (R.extract rfl rfl rfl) rfl rfl rfl ?_
                    refine KL.op (R.extract rfl rfl rfl) rfl rfl rfl ?_
                    refine KL.op (R.assign rfl rfl) rfl rfl rfl ?_
                    refine KL.op (R.assign rfl rfl) rfl rfl rfl ?_
                    refine KL.nil ?_
                    refine KQ.seq ?_
                    refine KC.seq ?_
                    refine KC.region ?_
                    refine KL.op (R.move rfl rfl) rfl rfl rfl ?_
                    refine KL.op (R.move rfl rfl) rfl rfl rfl ?_
                    refine KL.op (R.add rfl rfl rfl (by dsimp only [InR]; omega)) rfl rfl rfl ?_
                    refine KL.op (R.move rfl rfl) rfl rfl rfl ?_
                    refine KL.op (R.slice (i := (a + 1)) (j := e) rfl Try.underlying27 sz37 rfl (hs.old o0) (bnd.mk rfl (by omega)) (bnd.mk rfl (by omega)) (by omega) (by omega)) rfl rfl rfl ?_
                    refine KL.call rfl rfl rfl rfl Try.call7 rfl rfl rfl (Of_any _ _ ((hs.old o0).sub (lo := (a + 1)) (hi := e) (by omega) (by omega)) (by simp only [List.length_drop, List.length_take]; omega)) ?_
                    rintro _ H20 ⟨ox, hR⟩
                    have o0 := o0.trans ox
                    have wsn := wsn.old ox
                    have oP := oP.trans ox
                    have bx := (ox).blk bx
                    have hj := hj.old ox
                    rcases hR with ⟨s2, g2x, hof2, rfl, hj2⟩ | ⟨hof2, rfl⟩
                    · skip
                      refine KL.op (R.move rfl rfl) rfl rfl rfl ?_
                      refine KL.op (R.extract rfl rfl rfl) rfl rfl rfl ?_
                      refine KL.op (R.extract rfl rfl rfl) rfl rfl rfl ?_
                      refine KL.op (R.assign rfl rfl) rfl rfl rfl ?_
                      refine KL.op (R.assign rfl rfl) rfl rfl rfl ?_
                      refine KL.nil ?_
                      refine KQ.seq ?_
                      refine KC.seq ?_
                      refine KC.region ?_
                      refine KL.op (R.move rfl rfl) rfl rfl rfl ?_
                      refine KL.op (R.not rfl rfl) rfl rfl rfl ?_
                      refine KL.op (R.move rfl rfl) rfl rfl rfl ?_
                      refine KL.op (R.move rfl rfl) rfl rfl rfl ?_
                      refine KL.op (R.not rfl rfl) rfl rfl rfl ?_
                      refine KL.op (R.pick rfl rfl rfl) rfl rfl rfl ?_
                      refine KL.nil ?_
                      refine KQ.seq ?_
                      refine KC.condF rfl ?_
                      refine KC.skip ?_
                      refine KQ.normBlock ?_
                      refine KQ.seq ?_
                      refine KC.region ?_
                      refine KL.op (R.add rfl rfl rfl (by dsimp only [InR]; omega)) rfl rfl rfl ?_
                      refine KL.op (R.move rfl rfl) rfl rfl rfl ?_
                      refine KL.nil ?_
                      refine KQ.again ((k + 1, sn.set e (sn.getD e default + 1))) ?_ ?_ ?_
                      · exact (Sub.cons rfl (Ext.sub (by repeat (first | exact Ext.refl _ _ | refine Ext.put rfl ?_ | refine Ext.drop rfl ?_))))
                      · show l.length - (k + 1) < l.length - k; omega
                      · first | exact ⟨by show k + 1 ≤ _; omega, seen_more hsn, wsn, o0, oP⟩ | exact ⟨by show k + 1 ≤ _; omega, seen_set hsn (by omega) hx he1 _ (by omega), wsn, o0, oP⟩
                    · skip
                      exact absurd (hs2.symm.trans hof2) (by simp)
                  · skip
                    exact absurd (hs1.symm.trans hof1) (by simp)
                · intro hc123
                  try simp only [decide_eq_true_eq, decide_eq_false_iff_not, Bool.not_eq_true', Bool.not_eq_false', Bool.and_eq_true, Bool.or_eq_false_iff] at hc123
                  obtain ⟨ha, s1, hs1⟩ := e7.resolve_left (fun ⟨a, h, _⟩ => by omega)
                  refine KC.seq ?_
                  refine KC.region ?_
                  refine KL.op (R.move rfl rfl) rfl rfl rfl ?_
                  refine KL.op (R.move rfl rfl) rfl rfl rfl ?_
                  refine KL.op (R.add rfl rfl rfl (by dsimp only [InR]; omega)) rfl rfl rfl ?_
                  refine KL.op (R.move rfl rfl) rfl rfl rfl ?_
                  refine KL.op (R.slice (i := (k + 1)) (j := e) rfl Try.underlying27 sz37 rfl (hs.old o0) (bnd.mk rfl (by omega)) (bnd.mk rfl (by omega)) (by omega) (by omega)) rfl rfl rfl ?_
                  refine KL.call rfl rfl rfl rfl Try.call7 rfl rfl rfl (Of_any _ _ ((hs.old o0).sub (lo := (k + 1)) (hi := e) (by omega) (by omega)) (by simp only [List.length_drop, List.length_take]; omega)) ?_
                  rintro _ H21 ⟨ox, hR⟩
                  have o0 := o0.trans ox
                  have wsn := wsn.old ox
                  have oP := oP.trans ox
                  have bx := (ox).blk bx
                  have hj := hj.old ox
                  rcases hR with ⟨s3, g3x, hof3, rfl, hj3⟩ | ⟨hof3, rfl⟩
                  · skip
                    refine KL.op (R.move rfl rfl) rfl rfl rfl ?_
                    refine KL.op (R.extract rfl rfl rfl) rfl rfl rfl ?_
                    refine KL.op (R.extract rfl rfl rfl) rfl rfl rfl ?_
                    refine KL.op (R.assign rfl rfl) rfl rfl rfl ?_
                    refine KL.op (R.assign rfl rfl) rfl rfl rfl ?_
                    refine KL.nil ?_
                    refine KQ.seq ?_
                    refine KC.seq ?_
                    refine KC.region ?_
                    refine KL.op (R.move rfl rfl) rfl rfl rfl ?_
                    refine KL.op (R.not rfl rfl) rfl rfl rfl ?_
                    refine KL.nil ?_
                    refine KQ.seq ?_
                    refine KC.condF rfl ?_
                    refine KC.skip ?_
                    refine KQ.normBlock ?_
                    refine KQ.seq ?_
                    refine KC.region ?_
                    refine KL.op (R.add rfl rfl rfl (by dsimp only [InR]; omega)) rfl rfl rfl ?_
                    refine KL.op (R.move rfl rfl) rfl rfl rfl ?_
                    refine KL.nil ?_
                    refine KQ.again ((k + 1, sn.set e (sn.getD e default + 1))) ?_ ?_ ?_
                    · exact (Sub.cons rfl (Ext.sub (by repeat (first | exact Ext.refl _ _ | refine Ext.put rfl ?_ | refine Ext.drop rfl ?_))))
                    · show l.length - (k + 1) < l.length - k; omega
                    · first | exact ⟨by show k + 1 ≤ _; omega, seen_more hsn, wsn, o0, oP⟩ | exact ⟨by show k + 1 ≤ _; omega, seen_set hsn (by omega) hx he1 _ (by omega), wsn, o0, oP⟩
                  · skip
                    exact absurd (hs1.symm.trans hof3) (by simp)
        · intro hc36
          try simp only [decide_eq_true_eq, decide_eq_false_iff_not, Bool.not_eq_true', Bool.not_eq_false', Bool.and_eq_true, Bool.or_eq_false_iff] at hc36
          refine KC.exit ?_
          refine KQ.exitThen ?_
          refine KQ.exitThen ?_
          refine KQ.hit ?_
          refine KQ.seq ?_
          refine KC.seq ?_
          refine KC.region ?_
          refine KL.call rfl rfl rfl rfl Try.call9 rfl rfl rfl (works_any) ?_
          rintro _ H22 ⟨rfl, ox⟩
          have o0 := o0.trans ox
          have hj := hj.old ox
          have wsn := wsn.old ox
          have oP := oP.trans ox
          refine KL.op (R.assign rfl rfl) rfl rfl rfl ?_
          refine KL.nil ?_
          refine KQ.seq ?_
          refine KC.ret ?_
          refine KQ.ofRet ?_
          refine KQ.fin1 Try.results5 rfl ?_
          exact ⟨rfl, o0⟩
    · skip
      refine KL.op (R.move rfl rfl) rfl rfl rfl ?_
      refine KL.op (R.extract rfl rfl rfl) rfl rfl rfl ?_
      refine KL.op (R.extract rfl rfl rfl) rfl rfl rfl ?_
      refine KL.op (R.assign rfl rfl) rfl rfl rfl ?_
      refine KL.op (R.assign rfl rfl) rfl rfl rfl ?_
      refine KL.nil ?_
      refine KQ.seq ?_
      refine KC.seq ?_
      refine KC.seq ?_
      refine KC.region ?_
      refine KL.op (R.move rfl rfl) rfl rfl rfl ?_
      refine KL.op (R.not rfl rfl) rfl rfl rfl ?_
      refine KL.nil ?_
      refine KQ.seq ?_
      refine KC.condT rfl ?_
      refine KC.seq ?_
      refine KC.region ?_
      refine KL.call rfl rfl rfl rfl Try.call9 rfl rfl rfl (works_any) ?_
      rintro _ H23 ⟨rfl, ox⟩
      have o0 := o0.trans ox
      refine KL.op (R.assign rfl rfl) rfl rfl rfl ?_
      refine KL.nil ?_
      refine KQ.seq ?_
      refine KC.ret ?_
      refine KQ.retThen ?_
      refine KQ.ofRet ?_
      refine KQ.fin1 Try.results5 rfl ?_
      exact ⟨rfl, o0⟩

end Go.Proofs.Ytbopalmbphgedaa
