/- What is written is the document's. No condition but sizes. -/
import Derived.Test.YtnjodpgahbpiaaaInsT
namespace Go.Proofs.Ytnjodpgahbpiaaa
open Go Go.RowKit
set_option linter.unusedVariables false
set_option linter.unusedSimpArgs false
set_option linter.unnecessarySimpa false

theorem bstr_data : ∀ (l : List Int) (s : ByteArray), (l.foldl (fun r n => r.push (UInt8.ofNat n.toNat)) s).data = s.data ++ (l.map fun n => UInt8.ofNat n.toNat).toArray
  | [], s => by simp
  | x :: l, s => by
    simp only [List.foldl_cons]
    rw [bstr_data l]
    simp [ByteArray.data_push]
theorem bstr_app (a b : List Int) : bstr a ++ bstr b = bstr (a ++ b) := by
  unfold bstr
  apply ByteArray.ext
  rw [ByteArray.data_append, bstr_data, bstr_data, bstr_data]
  simp

set_option maxRecDepth 100000 in
set_option maxHeartbeats 4000000 in
theorem InstrAppends_any0 {H : Heap} {va vy vl : Value} {la : List Int} {x : Ins} {ys : List Ins} (hs0 : Sl 1 (EInt .u8) H va la) (hx : InsR x) (hwx : x.l.length ≤ 70368744177664) (hsx0 : Sl 1 (EInt .u32) H vl x.l) (hy0 : Sl 5 EIns H vy ys) (hwy : ∀ x ∈ ys, x.l.length ≤ 70368744177664) : Ct Try.prog 4 [va, insV x vl, vy] H (fun u H' => u = .bool true ∧ Old H H') := by
  refine Ct.mk Try.func4 rfl Try.ntmps4 rfl ?_
  intro W0 hW0
  have o0 : Old H H := Old.refl H
  have hs := hs0
  have hy := hy0
  unfold insV
  refine KC.seq ?_
  refine KC.region ?_
  refine KL.opM (M.box rfl rfl rfl) rfl rfl rfl ?_
  rintro _ H1 ⟨rfl, n1⟩
  have z1 := n1.2.1
  have o0 := o0.trans n1.1
  have hs := hs.old n1.1
  have hy := hy.old n1.1
  have b1 := n1.2.2
  have bx := b1
  refine KL.op (R.assign rfl rfl) rfl rfl rfl ?_
  refine KL.nil ?_
  refine KQ.seq ?_
  refine KC.seq ?_
  refine KC.seq ?_
  refine KC.region ?_
  refine KL.call rfl rfl rfl rfl Try.call6 rfl rfl rfl (known_any) ?_
  rintro _ H2 ⟨rfl, ox⟩
  have zc_H2 := (ox).1
  have o0 := o0.trans ox
  have hs := hs.old ox
  have hy := hy.old ox
  have bx := (ox).blk bx
  refine KL.op (R.not rfl rfl) rfl rfl rfl ?_
  refine KL.nil ?_
  refine KQ.seq ?_
  refine KC.condF rfl ?_
  refine KC.skip ?_
  refine KQ.seq ?_
  refine KC.seq ?_
  refine KC.seq ?_
  refine KC.region ?_
  refine KL.op (R.move rfl rfl) rfl rfl rfl ?_
  refine KL.op (R.lenS rfl Try.underlying23 rfl hs) rfl rfl rfl ?_
  refine KL.op (R.gtr rfl rfl rfl) rfl rfl rfl ?_
  refine KL.op (R.move rfl rfl) rfl rfl rfl ?_
  refine KL.case (d := 16) rfl ?_ ?_
  · intro hg16
    try simp only [decide_eq_true_eq, decide_eq_false_iff_not, Bool.not_eq_true', Bool.not_eq_false', Bool.and_eq_true, Bool.or_eq_false_iff] at hg16
    refine KL.skip rfl rfl rfl ?_
    refine KL.skip rfl rfl rfl ?_
    refine KL.op (R.pick rfl rfl rfl) rfl rfl rfl ?_
    refine KL.op (R.move rfl rfl) rfl rfl rfl ?_
    refine KL.skip rfl rfl rfl ?_
    refine KL.skip rfl rfl rfl ?_
    refine KL.skip rfl rfl rfl ?_
    refine KL.op (R.pick rfl rfl rfl) rfl rfl rfl ?_
    refine KL.nil ?_
    refine KQ.seq ?_
    refine KC.condT rfl ?_
    refine KC.seq ?_
    refine KC.region ?_
    refine KL.op (R.assign rfl rfl) rfl rfl rfl ?_
    refine KL.nil ?_
    refine KQ.seq ?_
    refine KC.ret ?_
    refine KQ.retThen ?_
    refine KQ.ofRet ?_
    refine KQ.fin1 Try.results4 rfl ?_
    exact ⟨rfl, o0⟩
  · intro hg16
    try simp only [decide_eq_true_eq, decide_eq_false_iff_not, Bool.not_eq_true', Bool.not_eq_false', Bool.and_eq_true, Bool.or_eq_false_iff] at hg16
    refine KL.op (R.move rfl rfl) rfl rfl rfl ?_
    refine KL.call rfl rfl rfl rfl Try.call7 rfl rfl rfl (Great_any hy hwy) ?_
    rintro _ _ ⟨rfl, rfl⟩
    refine KL.op (R.pick rfl rfl rfl) rfl rfl rfl ?_
    refine KL.op (R.move rfl rfl) rfl rfl rfl ?_
    refine KL.case (d := 20) rfl ?_ ?_
    · intro hg20
      try simp only [decide_eq_true_eq, decide_eq_false_iff_not, Bool.not_eq_true', Bool.not_eq_false', Bool.and_eq_true, Bool.or_eq_false_iff] at hg20
      refine KL.skip rfl rfl rfl ?_
      refine KL.skip rfl rfl rfl ?_
      refine KL.skip rfl rfl rfl ?_
      refine KL.op (R.pick rfl rfl rfl) rfl rfl rfl ?_
      refine KL.nil ?_
      refine KQ.seq ?_
      refine KC.condT rfl ?_
      refine KC.seq ?_
      refine KC.region ?_
      refine KL.op (R.assign rfl rfl) rfl rfl rfl ?_
      refine KL.nil ?_
      refine KQ.seq ?_
      refine KC.ret ?_
      refine KQ.retThen ?_
      refine KQ.ofRet ?_
      refine KQ.fin1 Try.results4 rfl ?_
      exact ⟨rfl, o0⟩
    · intro hg20
      try simp only [decide_eq_true_eq, decide_eq_false_iff_not, Bool.not_eq_true', Bool.not_eq_false', Bool.and_eq_true, Bool.or_eq_false_iff] at hg20
      refine KL.op (R.loadAgg rfl Try.underlying36 rfl sz36 rfl (by first | exact cells_of bx | assumption) rfl) rfl rfl rfl ?_
      refine KL.opM (M.lit rfl Try.underlying22 zs36 (by decide) rfl rfl rfl) rfl rfl rfl ?_
      rintro _ H3 ⟨rfl, n3⟩
      have z3 := n3.2.1
      have o0 := o0.trans n3.1
      have hs := hs.old n3.1
      have hy := hy.old n3.1
      have bx := (n3.1).blk bx
      have b3 := n3.2.2
      have hn22 := n3
      have w22 : Own 5 EIns 36 H3 H.size H3 _ [x] := Own.litN (l := [x]) hn22 (by omega) rfl (by simp only [List.length_cons, List.length_nil]; unfold maxLen; omega) rfl (by
        intro j y hj
        match j, hj with
        | 0, hj => injection hj with hj; subst hj; exact ins5 rfl (hsx0.old o0) hx
        | j + 1, hj => cases hj)
      have s22 := w22.sl (Old.refl _) (by omega)
      refine KL.call rfl rfl rfl rfl Try.call7 rfl rfl rfl (Great_any s22 (by intro y hy; simp only [List.mem_cons, List.not_mem_nil, or_false] at hy; subst hy; exact hwx)) ?_
      rintro _ _ ⟨rfl, rfl⟩
      refine KL.op (R.pick rfl rfl rfl) rfl rfl rfl ?_
      refine KL.nil ?_
      refine KQ.seq ?_
      refine KC.iteL rfl ?_ ?_
      · intro hc24
        try simp only [decide_eq_true_eq, decide_eq_false_iff_not, Bool.not_eq_true', Bool.not_eq_false', Bool.and_eq_true, Bool.or_eq_false_iff] at hc24
        refine KC.seq ?_
        refine KC.region ?_
        refine KL.op (R.assign rfl rfl) rfl rfl rfl ?_
        refine KL.nil ?_
        refine KQ.seq ?_
        refine KC.ret ?_
        refine KQ.retThen ?_
        refine KQ.ofRet ?_
        refine KQ.fin1 Try.results4 rfl ?_
        exact ⟨rfl, o0⟩
      · intro hc24
        try simp only [decide_eq_true_eq, decide_eq_false_iff_not, Bool.not_eq_true', Bool.not_eq_false', Bool.and_eq_true, Bool.or_eq_false_iff] at hc24
        refine KC.skip ?_
        refine KQ.seq ?_
        refine KC.seq ?_
        refine KC.region ?_
        refine KL.op (R.move rfl rfl) rfl rfl rfl ?_
        refine KL.op (R.loadAgg rfl Try.underlying36 rfl sz36 rfl (by first | exact cells_of bx | assumption) rfl) rfl rfl rfl ?_
        have hb1 : Isp.bulk [x] ≤ 3000 := by omega
        have hxl : x.l.length ≤ 3000 := by have := Isp.bulk_mem (l := [x]) (x := x) (by simp); omega
        refine KL.call rfl rfl rfl rfl Try.call11 rfl rfl rfl (Append_any hs (by omega) hx (by omega) (hsx0.old o0)) ?_
        rintro u H4 ⟨hR, ox⟩
        rcases hR with ⟨hnM, rfl⟩ | ⟨hM, c1, rfl, wc⟩
        · skip
          have o0 := o0.trans ox
          have hs := hs.old ox
          have hy := hy.old ox
          have bx := (ox).blk bx
          have s22 := s22.old ox
          have zox := ox.1
          refine KL.op (R.move rfl rfl) rfl rfl rfl ?_
          refine KL.op (R.extract rfl rfl rfl) rfl rfl rfl ?_
          refine KL.op (R.extract rfl rfl rfl) rfl rfl rfl ?_
          refine KL.op (R.assign rfl rfl) rfl rfl rfl ?_
          refine KL.op (R.assign rfl rfl) rfl rfl rfl ?_
          refine KL.nil ?_
          refine KQ.seq ?_
          refine KC.seq ?_
          refine KC.seq ?_
          have os : Old H4 H4 := Old.refl _
          have ob := o0
          have hsS := hs
          have hyS := hy
          have bxS := bx
          have s22S := s22
          refine KC.text (clOf [(1, 2), (27, 2), (28, 1)]) (fun _ Hc => Old H4 Hc) (by kernel_rfl) (by kernel_rfl) (fun _ => Old.refl _) ?_
          refine KP.op rfl (fun Hg og => by have hs := hsS.old og; have hy := hyS.old og; have bx := og.blk bxS; have s22 := s22S.old og; have o0 := ob.trans og; exact R.loadAgg rfl Try.underlying36 rfl sz36 rfl (cells_of bx) rfl) rfl rfl rfl ?_
          refine KP.call rfl rfl rfl rfl rfl Try.call12 rfl rfl rfl (RMay_any hx (by omega) (hsx0.old o0)) (fun _ _ h _ _ _ => os.trans h.2) ?_
          rintro _ H5 ⟨⟨bM, rfl, hbM⟩, ox⟩
          obtain rfl : bM = false := by
            cases bM with
            | false => rfl
            | true => exact absurd (hbM.1 rfl) hnM
          have zc_H5 := (ox).1
          have o0 := o0.trans ox
          have os := os.trans ox
          have hs := hs.old ox
          have hy := hy.old ox
          have bx := (ox).blk bx
          have s22 := s22.old ox
          refine KP.op rfl (fun Hg og => by have hs := hsS.old og; have hy := hyS.old og; have bx := og.blk bxS; have s22 := s22S.old og; have o0 := ob.trans og; exact R.move rfl rfl) rfl rfl rfl ?_
          refine KP.op rfl (fun Hg og => by have hs := hsS.old og; have hy := hyS.old og; have bx := og.blk bxS; have s22 := s22S.old og; have o0 := ob.trans og; exact (R.eql rfl rfl rfl).val (congrArg Value.bool (decide_eq_false (by decide)))) rfl rfl rfl ?_
          refine KP.op rfl (fun Hg og => by have hs := hsS.old og; have hy := hyS.old og; have bx := og.blk bxS; have s22 := s22S.old og; have o0 := ob.trans og; exact (R.neqB rfl Try.underlying4 rfl rfl).val (show _ = Value.bool false from rfl)) rfl rfl rfl ?_
          refine KP.op rfl (fun Hg og => by have hs := hsS.old og; have hy := hyS.old og; have bx := og.blk bxS; have s22 := s22S.old og; have o0 := ob.trans og; exact R.move rfl rfl) rfl rfl rfl ?_
          refine KP.op rfl (fun Hg og => by have hs := hsS.old og; have hy := hyS.old og; have bx := og.blk bxS; have s22 := s22S.old og; have o0 := ob.trans og; exact R.move rfl rfl) rfl rfl rfl ?_
          refine KP.op rfl (fun Hg og => by have hs := hsS.old og; have hy := hyS.old og; have bx := og.blk bxS; have s22 := s22S.old og; have o0 := ob.trans og; exact (R.neq rfl rfl rfl).val ((congrArg (fun b => Value.bool (!b)) (decide_eq_false (by decide))))) rfl rfl rfl ?_
          refine KP.op rfl (fun Hg og => by have hs := hsS.old og; have hy := hyS.old og; have bx := og.blk bxS; have s22 := s22S.old og; have o0 := ob.trans og; exact R.move rfl rfl) rfl rfl rfl ?_
          refine KP.op rfl (fun Hg og => by have hs := hsS.old og; have hy := hyS.old og; have bx := og.blk bxS; have s22 := s22S.old og; have o0 := ob.trans og; exact R.move rfl rfl) rfl rfl rfl ?_
          refine KP.op rfl (fun Hg og => by have hs := hsS.old og; have hy := hyS.old og; have bx := og.blk bxS; have s22 := s22S.old og; have o0 := ob.trans og; exact (R.neq rfl rfl rfl).val ((congrArg (fun b => Value.bool (!b)) (decide_eq_true (by rfl))))) rfl rfl rfl ?_
          refine KP.op rfl (fun Hg og => by have hs := hsS.old og; have hy := hyS.old og; have bx := og.blk bxS; have s22 := s22S.old og; have o0 := ob.trans og; exact R.move rfl rfl) rfl rfl rfl ?_
          refine KP.op rfl (fun Hg og => by have hs := hsS.old og; have hy := hyS.old og; have bx := og.blk bxS; have s22 := s22S.old og; have o0 := ob.trans og; exact R.move rfl rfl) rfl rfl rfl ?_
          refine KP.op rfl (fun Hg og => by have hs := hsS.old og; have hy := hyS.old og; have bx := og.blk bxS; have s22 := s22S.old og; have o0 := ob.trans og; exact R.len (ty := 0) rfl Try.underlying23 rfl) rfl rfl rfl ?_
          refine KP.op rfl (fun Hg og => by have hs := hsS.old og; have hy := hyS.old og; have bx := og.blk bxS; have s22 := s22S.old og; have o0 := ob.trans og; exact (R.gtr rfl rfl rfl).val (congrArg Value.bool (decide_eq_false (by decide)))) rfl rfl rfl ?_
          refine KP.op rfl (fun Hg og => by have hs := hsS.old og; have hy := hyS.old og; have bx := og.blk bxS; have s22 := s22S.old og; have o0 := ob.trans og; exact R.pick rfl rfl rfl) rfl rfl rfl ?_
          refine KP.op rfl (fun Hg og => by have hs := hsS.old og; have hy := hyS.old og; have bx := og.blk bxS; have s22 := s22S.old og; have o0 := ob.trans og; exact R.pick rfl rfl rfl) rfl rfl rfl ?_
          refine KP.op rfl (fun Hg og => by have hs := hsS.old og; have hy := hyS.old og; have bx := og.blk bxS; have s22 := s22S.old og; have o0 := ob.trans og; exact R.pick rfl rfl rfl) rfl rfl rfl ?_
          refine KP.op rfl (fun Hg og => by have hs := hsS.old og; have hy := hyS.old og; have bx := og.blk bxS; have s22 := s22S.old og; have o0 := ob.trans og; exact R.move rfl rfl) rfl rfl rfl ?_
          refine KP.op rfl (fun Hg og => by have hs := hsS.old og; have hy := hyS.old og; have bx := og.blk bxS; have s22 := s22S.old og; have o0 := ob.trans og; exact R.move rfl rfl) rfl rfl rfl ?_
          refine KP.op rfl (fun Hg og => by have hs := hsS.old og; have hy := hyS.old og; have bx := og.blk bxS; have s22 := s22S.old og; have o0 := ob.trans og; exact (R.eql rfl rfl rfl).val (congrArg Value.bool (decide_eq_false (by decide)))) rfl rfl rfl ?_
          refine KP.op rfl (fun Hg og => by have hs := hsS.old og; have hy := hyS.old og; have bx := og.blk bxS; have s22 := s22S.old og; have o0 := ob.trans og; exact R.move rfl rfl) rfl rfl rfl ?_
          refine KP.skip rfl rfl rfl ?_
          refine KP.skip rfl rfl rfl ?_
          refine KP.skip rfl rfl rfl ?_
          refine KP.skip rfl rfl rfl ?_
          refine KP.skip rfl rfl rfl ?_
          refine KP.skip rfl rfl rfl ?_
          refine KP.skip rfl rfl rfl ?_
          refine KP.skip rfl rfl rfl ?_
          refine KP.skip rfl rfl rfl ?_
          refine KP.op rfl (fun Hg og => by have hs := hsS.old og; have hy := hyS.old og; have bx := og.blk bxS; have s22 := s22S.old og; have o0 := ob.trans og; exact R.pick rfl rfl rfl) rfl rfl rfl ?_
          refine KP.op rfl (fun Hg og => by have hs := hsS.old og; have hy := hyS.old og; have bx := og.blk bxS; have s22 := s22S.old og; have o0 := ob.trans og; exact R.pick rfl rfl rfl) rfl rfl rfl ?_
          refine KP.nil ?_
          refine KQ.seq ?_
          refine KC.condF rfl ?_
          refine KC.skip ?_
          refine KQ.seq ?_
          refine KC.seq ?_
          refine KC.region ?_
          refine KL.op (R.move rfl rfl) rfl rfl rfl ?_
          refine KL.op (R.move rfl rfl) rfl rfl rfl ?_
          refine KL.call rfl rfl rfl rfl Try.call8 rfl rfl rfl (AppendExpr_any hs (by omega) hy (by omega)) ?_
          rintro u H6 ⟨hR, ox⟩
          rcases hR with ⟨hno, rfl⟩ | ⟨hH, c2, rfl, w2⟩
          · skip
            have o0 := o0.trans ox
            have hs := hs.old ox
            have hy := hy.old ox
            have bx := (ox).blk bx
            have s22 := s22.old ox
            have zox := ox.1
            refine KL.op (R.move rfl rfl) rfl rfl rfl ?_
            refine KL.op (R.extract rfl rfl rfl) rfl rfl rfl ?_
            refine KL.op (R.extract rfl rfl rfl) rfl rfl rfl ?_
            refine KL.op (R.assign rfl rfl) rfl rfl rfl ?_
            refine KL.op (R.assign rfl rfl) rfl rfl rfl ?_
            refine KL.nil ?_
            refine KQ.seq ?_
            refine KC.seq ?_
            refine KC.region ?_
            refine KL.op (R.move rfl rfl) rfl rfl rfl ?_
            refine KL.call rfl rfl rfl rfl Try.call14 rfl rfl rfl (RExpr_any hy (by omega)) ?_
            rintro _ H7 ⟨⟨c3, b3, rfl, hb3, hw3⟩, ox⟩
            obtain rfl : b3 = false := by
              cases b3 with
              | false => rfl
              | true => exact absurd (hb3.1 rfl) hno
            have zc_H7 := (ox).1
            have o0 := o0.trans ox
            have hs := hs.old ox
            have hy := hy.old ox
            have bx := (ox).blk bx
            have s22 := s22.old ox
            refine KL.op (R.move rfl rfl) rfl rfl rfl ?_
            refine KL.op (R.extract rfl rfl rfl) rfl rfl rfl ?_
            refine KL.op (R.extract rfl rfl rfl) rfl rfl rfl ?_
            refine KL.op (R.assign rfl rfl) rfl rfl rfl ?_
            refine KL.op (R.assign rfl rfl) rfl rfl rfl ?_
            refine KL.nil ?_
            refine KQ.seq ?_
            refine KC.seq ?_
            refine KC.seq ?_
            refine KC.region ?_
            refine KL.op (R.move rfl rfl) rfl rfl rfl ?_
            refine KL.op (R.not rfl rfl) rfl rfl rfl ?_
            refine KL.nil ?_
            refine KQ.seq ?_
            refine KC.condT rfl ?_
            refine KC.seq ?_
            refine KC.region ?_
            refine KL.op (R.move rfl rfl) rfl rfl rfl ?_
            refine KL.op ((R.eql rfl rfl rfl).val (congrArg Value.bool (decide_eq_true (by rfl)))) rfl rfl rfl ?_
            refine KL.op (R.move rfl rfl) rfl rfl rfl ?_
            refine KL.op (R.move rfl rfl) rfl rfl rfl ?_
            refine KL.op (R.len (ty := 0) rfl Try.underlying23 rfl) rfl rfl rfl ?_
            refine KL.op ((R.eql rfl rfl rfl).val (congrArg Value.bool (decide_eq_true (by rfl)))) rfl rfl rfl ?_
            refine KL.op (R.pick rfl rfl rfl) rfl rfl rfl ?_
            refine KL.op (R.assign rfl rfl) rfl rfl rfl ?_
            refine KL.nil ?_
            refine KQ.seq ?_
            refine KC.ret ?_
            refine KQ.retThen ?_
            refine KQ.ofRet ?_
            refine KQ.fin1 Try.results4 rfl ?_
            exact ⟨rfl, o0⟩
          · skip
            have o0 := o0.trans ox
            have hs := hs.old ox
            have hy := hy.old ox
            have bx := (ox).blk bx
            have s22 := s22.old ox
            have zox := ox.1
            have s2 := w2.sl (emptyOld _) (by omega)
            have hfl := flatC hy0 (by omega)
            refine KL.op (R.move rfl rfl) rfl rfl rfl ?_
            refine KL.op (R.extract rfl rfl rfl) rfl rfl rfl ?_
            refine KL.op (R.extract rfl rfl rfl) rfl rfl rfl ?_
            refine KL.op (R.assign rfl rfl) rfl rfl rfl ?_
            refine KL.op (R.assign rfl rfl) rfl rfl rfl ?_
            refine KL.nil ?_
            refine KQ.seq ?_
            refine KC.seq ?_
            refine KC.region ?_
            refine KL.op (R.move rfl rfl) rfl rfl rfl ?_
            refine KL.call rfl rfl rfl rfl Try.call14 rfl rfl rfl (RExpr_any hy (by omega)) ?_
            rintro _ H8 ⟨⟨c3, b3, rfl, hb3, hw3⟩, ox⟩
            obtain rfl : b3 = true := hb3.2 hH
            have w3 := hw3 rfl
            have s3 := w3.sl (emptyOld _) (by omega)
            have zc_H8 := (ox).1
            have o0 := o0.trans ox
            have hs := hs.old ox
            have hy := hy.old ox
            have bx := (ox).blk bx
            have s22 := s22.old ox
            have s2 := s2.old ox
            refine KL.op (R.move rfl rfl) rfl rfl rfl ?_
            refine KL.op (R.extract rfl rfl rfl) rfl rfl rfl ?_
            refine KL.op (R.extract rfl rfl rfl) rfl rfl rfl ?_
            refine KL.op (R.assign rfl rfl) rfl rfl rfl ?_
            refine KL.op (R.assign rfl rfl) rfl rfl rfl ?_
            refine KL.nil ?_
            refine KQ.seq ?_
            refine KC.seq ?_
            refine KC.seq ?_
            refine KC.region ?_
            refine KL.op (R.move rfl rfl) rfl rfl rfl ?_
            refine KL.op (R.not rfl rfl) rfl rfl rfl ?_
            refine KL.nil ?_
            refine KQ.seq ?_
            refine KC.condF rfl ?_
            refine KC.skip ?_
            refine KQ.seq ?_
            refine KC.seq ?_
            refine KC.region ?_
            refine KL.op (R.move rfl rfl) rfl rfl rfl ?_
            refine KL.op ((R.eql rfl rfl rfl).val (congrArg Value.bool (decide_eq_true (by rfl)))) rfl rfl rfl ?_
            refine KL.op (R.move rfl rfl) rfl rfl rfl ?_
            refine KL.op (R.move rfl rfl) rfl rfl rfl ?_
            refine KL.op (R.convBS rfl Try.underlying23 Try.underlying5 Try.underlying9 rfl (by exact s2)) rfl rfl rfl ?_
            refine KL.op (R.move rfl rfl) rfl rfl rfl ?_
            refine KL.op (R.convBS rfl Try.underlying23 Try.underlying5 Try.underlying9 rfl (by exact hs)) rfl rfl rfl ?_
            refine KL.op (R.move rfl rfl) rfl rfl rfl ?_
            refine KL.op (R.convBS rfl Try.underlying23 Try.underlying5 Try.underlying9 rfl (by exact s3)) rfl rfl rfl ?_
            refine KL.op ((R.addStr rfl rfl rfl (by rw [bstr_size hs.int_range, bstr_size s3.int_range]; simp only [List.length_append, List.length_cons, List.length_nil]; omega)).val (congrArg Value.string (bstr_app _ _))) rfl rfl rfl ?_
            refine KL.op ((R.eqlStr rfl rfl rfl).val (congrArg Value.bool (beq_self_eq_true _))) rfl rfl rfl ?_
            refine KL.op (R.pick rfl rfl rfl) rfl rfl rfl ?_
            refine KL.op (R.assign rfl rfl) rfl rfl rfl ?_
            refine KL.nil ?_
            refine KQ.seq ?_
            refine KC.ret ?_
            refine KQ.ofRet ?_
            refine KQ.fin1 Try.results4 rfl ?_
            exact ⟨rfl, o0⟩
        · skip
          have o0 := o0.trans ox
          have hs := hs.old ox
          have hy := hy.old ox
          have bx := (ox).blk bx
          have s22 := s22.old ox
          have zox := ox.1
          have sc := wc.sl (emptyOld _) (by omega)
          have hbl := Isp.bytes_len hx (hsx0.rng) (by omega)
          refine KL.op (R.move rfl rfl) rfl rfl rfl ?_
          refine KL.op (R.extract rfl rfl rfl) rfl rfl rfl ?_
          refine KL.op (R.extract rfl rfl rfl) rfl rfl rfl ?_
          refine KL.op (R.assign rfl rfl) rfl rfl rfl ?_
          refine KL.op (R.assign rfl rfl) rfl rfl rfl ?_
          refine KL.nil ?_
          refine KQ.seq ?_
          refine KC.seq ?_
          refine KC.seq ?_
          have os : Old H4 H4 := Old.refl _
          have ob := o0
          have hsS := hs
          have hyS := hy
          have bxS := bx
          have s22S := s22
          have scS := sc
          refine KC.text (clOf [(1, 2), (27, 2), (28, 1)]) (fun _ Hc => Old H4 Hc) (by kernel_rfl) (by kernel_rfl) (fun _ => Old.refl _) ?_
          refine KP.op rfl (fun Hg og => by have hs := hsS.old og; have hy := hyS.old og; have bx := og.blk bxS; have s22 := s22S.old og; have sc := scS.old og; have o0 := ob.trans og; exact R.loadAgg rfl Try.underlying36 rfl sz36 rfl (cells_of bx) rfl) rfl rfl rfl ?_
          refine KP.call rfl rfl rfl rfl rfl Try.call12 rfl rfl rfl (RMay_any hx (by omega) (hsx0.old o0)) (fun _ _ h _ _ _ => os.trans h.2) ?_
          rintro _ H9 ⟨⟨bM, rfl, hbM⟩, ox⟩
          obtain rfl : bM = true := hbM.2 hM
          have zc_H9 := (ox).1
          have o0 := o0.trans ox
          have os := os.trans ox
          have hs := hs.old ox
          have hy := hy.old ox
          have bx := (ox).blk bx
          have s22 := s22.old ox
          have sc := sc.old ox
          refine KP.op rfl (fun Hg og => by have hs := hsS.old og; have hy := hyS.old og; have bx := og.blk bxS; have s22 := s22S.old og; have sc := scS.old og; have o0 := ob.trans og; exact R.move rfl rfl) rfl rfl rfl ?_
          refine KP.op rfl (fun Hg og => by have hs := hsS.old og; have hy := hyS.old og; have bx := og.blk bxS; have s22 := s22S.old og; have sc := scS.old og; have o0 := ob.trans og; exact (R.eql rfl rfl rfl).val (congrArg Value.bool (decide_eq_true (by rfl)))) rfl rfl rfl ?_
          refine KP.op rfl (fun Hg og => by have hs := hsS.old og; have hy := hyS.old og; have bx := og.blk bxS; have s22 := s22S.old og; have sc := scS.old og; have o0 := ob.trans og; exact (R.neqB rfl Try.underlying4 rfl rfl).val (show _ = Value.bool false from rfl)) rfl rfl rfl ?_
          refine KP.op rfl (fun Hg og => by have hs := hsS.old og; have hy := hyS.old og; have bx := og.blk bxS; have s22 := s22S.old og; have sc := scS.old og; have o0 := ob.trans og; exact R.move rfl rfl) rfl rfl rfl ?_
          refine KP.op rfl (fun Hg og => by have hs := hsS.old og; have hy := hyS.old og; have bx := og.blk bxS; have s22 := s22S.old og; have sc := scS.old og; have o0 := ob.trans og; exact R.move rfl rfl) rfl rfl rfl ?_
          refine KP.op rfl (fun Hg og => by have hs := hsS.old og; have hy := hyS.old og; have bx := og.blk bxS; have s22 := s22S.old og; have sc := scS.old og; have o0 := ob.trans og; exact (R.neq rfl rfl rfl).val ((congrArg (fun b => Value.bool (!b)) (decide_eq_true (by rfl))))) rfl rfl rfl ?_
          refine KP.op rfl (fun Hg og => by have hs := hsS.old og; have hy := hyS.old og; have bx := og.blk bxS; have s22 := s22S.old og; have sc := scS.old og; have o0 := ob.trans og; exact R.move rfl rfl) rfl rfl rfl ?_
          refine KP.skip rfl rfl rfl ?_
          refine KP.skip rfl rfl rfl ?_
          refine KP.skip rfl rfl rfl ?_
          refine KP.skip rfl rfl rfl ?_
          refine KP.skip rfl rfl rfl ?_
          refine KP.skip rfl rfl rfl ?_
          refine KP.skip rfl rfl rfl ?_
          refine KP.op rfl (fun Hg og => by have hs := hsS.old og; have hy := hyS.old og; have bx := og.blk bxS; have s22 := s22S.old og; have sc := scS.old og; have o0 := ob.trans og; exact R.pick rfl rfl rfl) rfl rfl rfl ?_
          refine KP.op rfl (fun Hg og => by have hs := hsS.old og; have hy := hyS.old og; have bx := og.blk bxS; have s22 := s22S.old og; have sc := scS.old og; have o0 := ob.trans og; exact R.pick rfl rfl rfl) rfl rfl rfl ?_
          refine KP.op rfl (fun Hg og => by have hs := hsS.old og; have hy := hyS.old og; have bx := og.blk bxS; have s22 := s22S.old og; have sc := scS.old og; have o0 := ob.trans og; exact R.move rfl rfl) rfl rfl rfl ?_
          refine KP.op rfl (fun Hg og => by have hs := hsS.old og; have hy := hyS.old og; have bx := og.blk bxS; have s22 := s22S.old og; have sc := scS.old og; have o0 := ob.trans og; exact R.move rfl rfl) rfl rfl rfl ?_
          refine KP.op rfl (fun Hg og => by have hs := hsS.old og; have hy := hyS.old og; have bx := og.blk bxS; have s22 := s22S.old og; have sc := scS.old og; have o0 := ob.trans og; exact (R.eql rfl rfl rfl).val (congrArg Value.bool (decide_eq_true (by rfl)))) rfl rfl rfl ?_
          refine KP.op rfl (fun Hg og => by have hs := hsS.old og; have hy := hyS.old og; have bx := og.blk bxS; have s22 := s22S.old og; have sc := scS.old og; have o0 := ob.trans og; exact R.move rfl rfl) rfl rfl rfl ?_
          refine KP.op rfl (fun Hg og => by have hs := hsS.old og; have hy := hyS.old og; have bx := og.blk bxS; have s22 := s22S.old og; have sc := scS.old og; have o0 := ob.trans og; exact R.move rfl rfl) rfl rfl rfl ?_
          refine KP.op rfl (fun Hg og => by have hs := hsS.old og; have hy := hyS.old og; have bx := og.blk bxS; have s22 := s22S.old og; have sc := scS.old og; have o0 := ob.trans og; exact R.convBS rfl Try.underlying23 Try.underlying5 Try.underlying9 rfl (by exact sc)) rfl rfl rfl ?_
          refine KP.op rfl (fun Hg og => by have hs := hsS.old og; have hy := hyS.old og; have bx := og.blk bxS; have s22 := s22S.old og; have sc := scS.old og; have o0 := ob.trans og; exact R.move rfl rfl) rfl rfl rfl ?_
          refine KP.op rfl (fun Hg og => by have hs := hsS.old og; have hy := hyS.old og; have bx := og.blk bxS; have s22 := s22S.old og; have sc := scS.old og; have o0 := ob.trans og; exact R.convBS rfl Try.underlying23 Try.underlying5 Try.underlying9 rfl (by exact hs)) rfl rfl rfl ?_
          refine KP.op rfl (fun Hg og => by have hs := hsS.old og; have hy := hyS.old og; have bx := og.blk bxS; have s22 := s22S.old og; have sc := scS.old og; have o0 := ob.trans og; exact R.loadAgg rfl Try.underlying36 rfl sz36 rfl (cells_of bx) rfl) rfl rfl rfl ?_
          refine KP.call rfl rfl rfl rfl rfl Try.call13 rfl rfl rfl (RBytes_any hx (by omega) (hsx0.old o0) hM) (fun _ _ h _ _ _ => os.trans h.2) ?_
          rintro vB H10 ⟨wB, ox⟩
          have zc_H10 := (ox).1
          have o0 := o0.trans ox
          have os := os.trans ox
          have hs := hs.old ox
          have hy := hy.old ox
          have bx := (ox).blk bx
          have s22 := s22.old ox
          have sc := sc.old ox
          have sB := wB.sl (emptyOld _) (by omega)
          refine KP.now rfl (R.convBS rfl Try.underlying23 Try.underlying5 Try.underlying9 rfl (by exact sB)) rfl rfl rfl ?_
          refine KP.op rfl (fun Hg og => by have hs := hsS.old og; have hy := hyS.old og; have bx := og.blk bxS; have s22 := s22S.old og; have sc := scS.old og; have o0 := ob.trans og; exact (R.addStr rfl rfl rfl (by rw [bstr_size hs.int_range, bstr_size sB.int_range]; omega)).val (congrArg Value.string (bstr_app _ _))) rfl rfl rfl ?_
          refine KP.op rfl (fun Hg og => by have hs := hsS.old og; have hy := hyS.old og; have bx := og.blk bxS; have s22 := s22S.old og; have sc := scS.old og; have o0 := ob.trans og; exact (R.neqStr rfl rfl rfl).val (congrArg (fun b => Value.bool (!b)) (beq_self_eq_true _))) rfl rfl rfl ?_
          refine KP.op rfl (fun Hg og => by have hs := hsS.old og; have hy := hyS.old og; have bx := og.blk bxS; have s22 := s22S.old og; have sc := scS.old og; have o0 := ob.trans og; exact R.pick rfl rfl rfl) rfl rfl rfl ?_
          refine KP.op rfl (fun Hg og => by have hs := hsS.old og; have hy := hyS.old og; have bx := og.blk bxS; have s22 := s22S.old og; have sc := scS.old og; have o0 := ob.trans og; exact R.pick rfl rfl rfl) rfl rfl rfl ?_
          refine KP.nil ?_
          refine KQ.seq ?_
          refine KC.condF rfl ?_
          refine KC.skip ?_
          refine KQ.seq ?_
          refine KC.seq ?_
          refine KC.region ?_
          refine KL.op (R.move rfl rfl) rfl rfl rfl ?_
          refine KL.op (R.move rfl rfl) rfl rfl rfl ?_
          refine KL.call rfl rfl rfl rfl Try.call8 rfl rfl rfl (AppendExpr_any hs (by omega) hy (by omega)) ?_
          rintro u H11 ⟨hR, ox⟩
          rcases hR with ⟨hno, rfl⟩ | ⟨hH, c2, rfl, w2⟩
          · skip
            have o0 := o0.trans ox
            have hs := hs.old ox
            have hy := hy.old ox
            have bx := (ox).blk bx
            have s22 := s22.old ox
            have sc := sc.old ox
            have sB := sB.old ox
            have zox := ox.1
            refine KL.op (R.move rfl rfl) rfl rfl rfl ?_
            refine KL.op (R.extract rfl rfl rfl) rfl rfl rfl ?_
            refine KL.op (R.extract rfl rfl rfl) rfl rfl rfl ?_
            refine KL.op (R.assign rfl rfl) rfl rfl rfl ?_
            refine KL.op (R.assign rfl rfl) rfl rfl rfl ?_
            refine KL.nil ?_
            refine KQ.seq ?_
            refine KC.seq ?_
            refine KC.region ?_
            refine KL.op (R.move rfl rfl) rfl rfl rfl ?_
            refine KL.call rfl rfl rfl rfl Try.call14 rfl rfl rfl (RExpr_any hy (by omega)) ?_
            rintro _ H12 ⟨⟨c3, b3, rfl, hb3, hw3⟩, ox⟩
            obtain rfl : b3 = false := by
              cases b3 with
              | false => rfl
              | true => exact absurd (hb3.1 rfl) hno
            have zc_H12 := (ox).1
            have o0 := o0.trans ox
            have hs := hs.old ox
            have hy := hy.old ox
            have bx := (ox).blk bx
            have s22 := s22.old ox
            have sc := sc.old ox
            have sB := sB.old ox
            refine KL.op (R.move rfl rfl) rfl rfl rfl ?_
            refine KL.op (R.extract rfl rfl rfl) rfl rfl rfl ?_
            refine KL.op (R.extract rfl rfl rfl) rfl rfl rfl ?_
            refine KL.op (R.assign rfl rfl) rfl rfl rfl ?_
            refine KL.op (R.assign rfl rfl) rfl rfl rfl ?_
            refine KL.nil ?_
            refine KQ.seq ?_
            refine KC.seq ?_
            refine KC.seq ?_
            refine KC.region ?_
            refine KL.op (R.move rfl rfl) rfl rfl rfl ?_
            refine KL.op (R.not rfl rfl) rfl rfl rfl ?_
            refine KL.nil ?_
            refine KQ.seq ?_
            refine KC.condT rfl ?_
            refine KC.seq ?_
            refine KC.region ?_
            refine KL.op (R.move rfl rfl) rfl rfl rfl ?_
            refine KL.op ((R.eql rfl rfl rfl).val (congrArg Value.bool (decide_eq_true (by rfl)))) rfl rfl rfl ?_
            refine KL.op (R.move rfl rfl) rfl rfl rfl ?_
            refine KL.op (R.move rfl rfl) rfl rfl rfl ?_
            refine KL.op (R.len (ty := 0) rfl Try.underlying23 rfl) rfl rfl rfl ?_
            refine KL.op ((R.eql rfl rfl rfl).val (congrArg Value.bool (decide_eq_true (by rfl)))) rfl rfl rfl ?_
            refine KL.op (R.pick rfl rfl rfl) rfl rfl rfl ?_
            refine KL.op (R.assign rfl rfl) rfl rfl rfl ?_
            refine KL.nil ?_
            refine KQ.seq ?_
            refine KC.ret ?_
            refine KQ.retThen ?_
            refine KQ.ofRet ?_
            refine KQ.fin1 Try.results4 rfl ?_
            exact ⟨rfl, o0⟩
          · skip
            have o0 := o0.trans ox
            have hs := hs.old ox
            have hy := hy.old ox
            have bx := (ox).blk bx
            have s22 := s22.old ox
            have sc := sc.old ox
            have sB := sB.old ox
            have zox := ox.1
            have s2 := w2.sl (emptyOld _) (by omega)
            have hfl := flatC hy0 (by omega)
            refine KL.op (R.move rfl rfl) rfl rfl rfl ?_
            refine KL.op (R.extract rfl rfl rfl) rfl rfl rfl ?_
            refine KL.op (R.extract rfl rfl rfl) rfl rfl rfl ?_
            refine KL.op (R.assign rfl rfl) rfl rfl rfl ?_
            refine KL.op (R.assign rfl rfl) rfl rfl rfl ?_
            refine KL.nil ?_
            refine KQ.seq ?_
            refine KC.seq ?_
            refine KC.region ?_
            refine KL.op (R.move rfl rfl) rfl rfl rfl ?_
            refine KL.call rfl rfl rfl rfl Try.call14 rfl rfl rfl (RExpr_any hy (by omega)) ?_
            rintro _ H13 ⟨⟨c3, b3, rfl, hb3, hw3⟩, ox⟩
            obtain rfl : b3 = true := hb3.2 hH
            have w3 := hw3 rfl
            have s3 := w3.sl (emptyOld _) (by omega)
            have zc_H13 := (ox).1
            have o0 := o0.trans ox
            have hs := hs.old ox
            have hy := hy.old ox
            have bx := (ox).blk bx
            have s22 := s22.old ox
            have sc := sc.old ox
            have sB := sB.old ox
            have s2 := s2.old ox
            refine KL.op (R.move rfl rfl) rfl rfl rfl ?_
            refine KL.op (R.extract rfl rfl rfl) rfl rfl rfl ?_
            refine KL.op (R.extract rfl rfl rfl) rfl rfl rfl ?_
            refine KL.op (R.assign rfl rfl) rfl rfl rfl ?_
            refine KL.op (R.assign rfl rfl) rfl rfl rfl ?_
            refine KL.nil ?_
            refine KQ.seq ?_
            refine KC.seq ?_
            refine KC.seq ?_
            refine KC.region ?_
            refine KL.op (R.move rfl rfl) rfl rfl rfl ?_
            refine KL.op (R.not rfl rfl) rfl rfl rfl ?_
            refine KL.nil ?_
            refine KQ.seq ?_
            refine KC.condF rfl ?_
            refine KC.skip ?_
            refine KQ.seq ?_
            refine KC.seq ?_
            refine KC.region ?_
            refine KL.op (R.move rfl rfl) rfl rfl rfl ?_
            refine KL.op ((R.eql rfl rfl rfl).val (congrArg Value.bool (decide_eq_true (by rfl)))) rfl rfl rfl ?_
            refine KL.op (R.move rfl rfl) rfl rfl rfl ?_
            refine KL.op (R.move rfl rfl) rfl rfl rfl ?_
            refine KL.op (R.convBS rfl Try.underlying23 Try.underlying5 Try.underlying9 rfl (by exact s2)) rfl rfl rfl ?_
            refine KL.op (R.move rfl rfl) rfl rfl rfl ?_
            refine KL.op (R.convBS rfl Try.underlying23 Try.underlying5 Try.underlying9 rfl (by exact hs)) rfl rfl rfl ?_
            refine KL.op (R.move rfl rfl) rfl rfl rfl ?_
            refine KL.op (R.convBS rfl Try.underlying23 Try.underlying5 Try.underlying9 rfl (by exact s3)) rfl rfl rfl ?_
            refine KL.op ((R.addStr rfl rfl rfl (by rw [bstr_size hs.int_range, bstr_size s3.int_range]; simp only [List.length_append, List.length_cons, List.length_nil]; omega)).val (congrArg Value.string (bstr_app _ _))) rfl rfl rfl ?_
            refine KL.op ((R.eqlStr rfl rfl rfl).val (congrArg Value.bool (beq_self_eq_true _))) rfl rfl rfl ?_
            refine KL.op (R.pick rfl rfl rfl) rfl rfl rfl ?_
            refine KL.op (R.assign rfl rfl) rfl rfl rfl ?_
            refine KL.nil ?_
            refine KQ.seq ?_
            refine KC.ret ?_
            refine KQ.ofRet ?_
            refine KQ.fin1 Try.results4 rfl ?_
            exact ⟨rfl, o0⟩

theorem InstrAppends_any {H : Heap} {va vy : Value} {la : List Int} {c : List Value} {x : Ins} {ys : List Ins} (hs0 : Sl 1 (EInt .u8) H va la) (hx : EIns H c x) (hwx : x.l.length ≤ 70368744177664) (hy0 : Sl 5 EIns H vy ys) (hwy : ∀ x ∈ ys, x.l.length ≤ 70368744177664) : Ct Try.prog 4 [va, .agg c.toArray, vy] H (fun u H' => u = .bool true ∧ Old H H') := by
  obtain ⟨vl, rfl, h1, h2⟩ := hx
  exact InstrAppends_any0 hs0 h2 hwx h1 hy0 hwy

end Go.Proofs.Ytnjodpgahbpiaaa
