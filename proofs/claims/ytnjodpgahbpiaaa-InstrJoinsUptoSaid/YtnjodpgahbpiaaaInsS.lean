/- What the statements ask first. No condition. -/
import Derived.Test.YtnjodpgahbpiaaaInsR
namespace Go.Proofs.Ytnjodpgahbpiaaa
open Go Go.RowKit
set_option linter.unusedVariables false
set_option linter.unusedSimpArgs false
set_option linter.unnecessarySimpa false
set_option maxRecDepth 100000 in
set_option maxHeartbeats 4000000 in
theorem is_any {H : Heap} {va : Value} {la : List Int} {x : Ins} {vl : Value} (hs0 : Sl 1 (EInt .u8) H va la) (hll : x.l.length ≤ 100000000) (hsx : Sl 1 (EInt .u32) H vl x.l) (hI : Isp.insP la = .ok (x, la.length)) : Ct Try.prog 15 [va, insV x vl] H (fun u H' => u = .bool true ∧ Old H H') := by
  refine Ct.mk Try.func15 rfl Try.ntmps15 rfl ?_
  intro W0 hW0
  have o0 : Old H H := Old.refl H
  have hsx0 := hsx
  unfold insV
  refine KC.seq ?_
  refine KC.region ?_
  refine KL.opM (M.box rfl rfl rfl) rfl rfl rfl ?_
  rintro _ H1 ⟨rfl, n1⟩
  have z1 := n1.2.1
  have o0 := o0.trans n1.1
  have hsx := hsx.old n1.1
  have b1 := n1.2.2
  have bx := b1
  refine KL.op (R.assign rfl rfl) rfl rfl rfl ?_
  refine KL.nil ?_
  refine KQ.seq ?_
  refine KC.seq ?_
  refine KC.region ?_
  refine KL.op (R.move rfl rfl) rfl rfl rfl ?_
  refine KL.call rfl rfl rfl rfl Try.call16 rfl rfl rfl (TakeI_any (hs0.old o0)) ?_
  rintro u H2 ⟨ox, hm⟩
  rw [hI] at hm
  obtain ⟨vl2, rfl, w2, hx2⟩ := hm
  unfold insV
  have hw2 := w2.lt
  have zc_H2 := (ox).1
  have o0 := o0.trans ox
  have hsx := hsx.old ox
  have bx := (ox).blk bx
  refine KL.op (R.move rfl rfl) rfl rfl rfl ?_
  refine KL.op (R.extract rfl rfl rfl) rfl rfl rfl ?_
  refine KL.op (R.extract rfl rfl rfl) rfl rfl rfl ?_
  refine KL.op (R.extract rfl rfl rfl) rfl rfl rfl ?_
  refine KL.opM (M.alloc rfl zr36 rfl) rfl rfl rfl ?_
  rintro _ H3 ⟨rfl, n3⟩
  have z3 := n3.2.1
  have o0 := o0.trans n3.1
  have hsx := hsx.old n3.1
  have bx := (n3.1).blk bx
  have w2 := w2.old n3.1
  have b3 := n3.2.2
  have by5 := b3
  refine KL.opS (S.storeAgg rfl sz36 rfl rfl (rfl) (by intro u hu; simp only [List.mem_cons, List.not_mem_nil, or_false] at hu; rcases hu with rfl | rfl | rfl | rfl | rfl <;> first | rfl | exact w2.one) by5 (by simp)) rfl rfl ?_
  rintro H4 ⟨u4, b4⟩
  have o0 := o0.upd u4 (by omega)
  have zu4 := u4.1
  have bx := ((u4).2 _ (by omega)).trans bx
  have w2 := w2.upd u4 (by first | exact .inl rfl | exact .inr (by omega) | exact hw2.imp id (fun h => by omega) | exact w2.lt.imp id (fun h => by omega))
  have by5 := b4
  rw [over_all (by rfl)] at by5
  refine KL.op (R.assign rfl rfl) rfl rfl rfl ?_
  refine KL.op (R.assign rfl rfl) rfl rfl rfl ?_
  refine KL.nil ?_
  refine KQ.seq ?_
  refine KC.seq ?_
  refine KC.region ?_
  refine KL.op (R.move rfl rfl) rfl rfl rfl ?_
  refine KL.op ((R.eql rfl rfl rfl).val (congrArg Value.bool (decide_eq_true (by rfl)))) rfl rfl rfl ?_
  refine KL.op (R.move rfl rfl) rfl rfl rfl ?_
  refine KL.op (R.move rfl rfl) rfl rfl rfl ?_
  refine KL.op (R.move rfl rfl) rfl rfl rfl ?_
  refine KL.op (R.lenS rfl Try.underlying23 rfl (hs0.old o0)) rfl rfl rfl ?_
  refine KL.op ((R.eql rfl rfl rfl).val (congrArg Value.bool (decide_eq_true (by rfl)))) rfl rfl rfl ?_
  refine KL.op (R.pick rfl rfl rfl) rfl rfl rfl ?_
  refine KL.op (R.move rfl rfl) rfl rfl rfl ?_
  refine KL.op (R.loadAgg rfl Try.underlying36 rfl sz36 rfl (by first | exact cells_of bx | exact cells_of by5 | assumption) rfl) rfl rfl rfl ?_
  refine KL.op (R.loadAgg rfl Try.underlying36 rfl sz36 rfl (by first | exact cells_of bx | exact cells_of by5 | assumption) rfl) rfl rfl rfl ?_
  refine KL.call rfl rfl rfl rfl Try.call22 rfl rfl rfl (Same_any (hsx0.old o0) (w2.sl (emptyOld _) (by omega)) hll) ?_
  rintro _ H5 ⟨rfl, ox2⟩
  rw [decide_eq_true rfl]
  have zc_H5 := (ox2).1
  have o0 := o0.trans ox2
  have bx := (ox2).blk bx
  have w2 := w2.old ox2
  have by5 := (ox2).blk by5
  refine KL.op (R.pick rfl rfl rfl) rfl rfl rfl ?_
  refine KL.op (R.assign rfl rfl) rfl rfl rfl ?_
  refine KL.nil ?_
  refine KQ.seq ?_
  refine KC.ret ?_
  refine KQ.ofRet ?_
  refine KQ.fin1 Try.results15 rfl ?_
  exact ⟨rfl, o0⟩


theorem ins5 {cs : List Value} {H : Heap} {x : Ins} {v : Value} (hc : cs = [.int .u8 x.op, .int .u32 x.a, .int .u32 x.b, .int .i64 x.c, v]) (hs : Sl 1 (EInt .u32) H v x.l) (hx : InsR x) : EIns H cs x := ⟨v, hc, hs, hx⟩
def kBad : List (List Int) := [[2, 125], [67], [192], [63, 1], []]
theorem kBad_at {k : Nat} (hk : k < 5) : Isp.insP (kBad.getD k default) = .error (if k < 2 then 61 else 60) := by
  have : k = 0 ∨ k = 1 ∨ k = 2 ∨ k = 3 ∨ k = 4 := by omega
  rcases this with rfl | rfl | rfl | rfl | rfl
  · exact (show Isp.insP [2, 125] = .error 61 by kernel_rfl)
  · exact (show Isp.insP [67] = .error 61 by kernel_rfl)
  · exact (show Isp.insP [192] = .error 60 by kernel_rfl)
  · exact (show Isp.insP [63, 1] = .error 60 by kernel_rfl)
  · exact (show Isp.insP [] = .error 60 by kernel_rfl)
def kX : List Ins := [⟨2, 64, 0, 0, []⟩, ⟨1, 0, 0, 0, []⟩, ⟨11, 0, 0, 0, []⟩]


set_option maxRecDepth 100000 in
set_option maxHeartbeats 4000000 in
theorem known_any {H : Heap} : Ct Try.prog 6 [] H (fun u H' => u = .bool true ∧ Old H H') := by
  refine Ct.mk Try.func6 rfl Try.ntmps6 rfl ?_
  intro W0 hW0
  have o0 : Old H H := Old.refl H
  refine KC.seq ?_
  refine KC.region ?_
  refine KL.op (R.assign rfl rfl) rfl rfl rfl ?_
  refine KL.nil ?_
  refine KQ.seq ?_
  refine KC.seq ?_
  refine KC.seq ?_
  refine KC.region ?_
  refine KL.opM (M.lit rfl Try.underlying23 zs5 (by decide) rfl rfl rfl) rfl rfl rfl ?_
  rintro _ H1 ⟨rfl, n1⟩
  have z1 := n1.2.1
  have o0 := o0.trans n1.1
  have b1 := n1.2.2
  have q1 : Sl 1 (EInt .u8) H1 _ [65, 127] := Sl.lits (l := [65, 127]) n1 rfl (by simp) (by decide)
  refine KL.op (R.buildL rfl Try.underlying36 zr36 [(0, 1), (1, 1), (2, 1), (3, 1), (4, 1)] (fun w => by kernel_rfl) rfl ⟨⟨_, rfl, rfl⟩, ⟨_, rfl, rfl⟩, trivial⟩ rfl rfl ⟨⟨_, rfl, by first | rfl | exact q1.cells1⟩, ⟨_, rfl, by first | rfl | exact q1.cells1⟩, trivial⟩ rfl) rfl rfl rfl ?_
  refine KL.call rfl rfl rfl rfl Try.call15 rfl rfl rfl (is_any (x := ⟨65, 0, 0, -1, []⟩) q1 (by decide) (Sl.nil _ _ _) (by kernel_rfl)) ?_
  rintro _ H2 ⟨rfl, ox⟩
  have zc_H2 := (ox).1
  have o0 := o0.trans ox
  have q1 := q1.old ox
  refine KL.op (R.not rfl rfl) rfl rfl rfl ?_
  refine KL.op (R.move rfl rfl) rfl rfl rfl ?_
  refine KL.opM (M.lit rfl Try.underlying23 zs5 (by decide) rfl rfl rfl) rfl rfl rfl ?_
  rintro _ H3 ⟨rfl, n3⟩
  have z3 := n3.2.1
  have o0 := o0.trans n3.1
  have q1 := q1.old n3.1
  have b3 := n3.2.2
  have q2 : Sl 1 (EInt .u8) H3 _ [40, 2, 16] := Sl.lits (l := [40, 2, 16]) n3 rfl (by simp) (by decide)
  refine KL.op (R.buildL rfl Try.underlying36 zr36 [(0, 1), (1, 1), (2, 1), (3, 1), (4, 1)] (fun w => by kernel_rfl) rfl ⟨⟨_, rfl, rfl⟩, ⟨_, rfl, rfl⟩, ⟨_, rfl, rfl⟩, trivial⟩ rfl rfl ⟨⟨_, rfl, by first | rfl | exact q1.cells1 | exact q2.cells1⟩, ⟨_, rfl, by first | rfl | exact q1.cells1 | exact q2.cells1⟩, ⟨_, rfl, by first | rfl | exact q1.cells1 | exact q2.cells1⟩, trivial⟩ rfl) rfl rfl rfl ?_
  refine KL.call rfl rfl rfl rfl Try.call15 rfl rfl rfl (is_any (x := ⟨40, 2, 16, 0, []⟩) q2 (by decide) (Sl.nil _ _ _) (by kernel_rfl)) ?_
  rintro _ H4 ⟨rfl, ox⟩
  have zc_H4 := (ox).1
  have o0 := o0.trans ox
  have q1 := q1.old ox
  have q2 := q2.old ox
  refine KL.op (R.not rfl rfl) rfl rfl rfl ?_
  refine KL.op (R.pick rfl rfl rfl) rfl rfl rfl ?_
  refine KL.op (R.move rfl rfl) rfl rfl rfl ?_
  refine KL.opM (M.lit rfl Try.underlying23 zs5 (by decide) rfl rfl rfl) rfl rfl rfl ?_
  rintro _ H5 ⟨rfl, n5⟩
  have z5 := n5.2.1
  have o0 := o0.trans n5.1
  have q1 := q1.old n5.1
  have q2 := q2.old n5.1
  have b5 := n5.2.2
  have q3 : Sl 1 (EInt .u8) H5 _ [14, 2, 0, 1, 2] := Sl.lits (l := [14, 2, 0, 1, 2]) n5 rfl (by simp) (by decide)
  refine KL.opM (M.lit rfl Try.underlying34 zs33 (by decide) rfl rfl rfl) rfl rfl rfl ?_
  rintro _ H6 ⟨rfl, n6⟩
  have z6 := n6.2.1
  have o0 := o0.trans n6.1
  have q1 := q1.old n6.1
  have q2 := q2.old n6.1
  have q3 := q3.old n6.1
  have b6 := n6.2.2
  have q4 : Sl 1 (EInt .u32) H6 _ [0, 1] := Sl.lits (l := [0, 1]) n6 rfl (by simp) (by decide)
  refine KL.op (R.buildL rfl Try.underlying36 zr36 [(0, 1), (1, 1), (2, 1), (3, 1), (4, 1)] (fun w => by kernel_rfl) rfl ⟨⟨_, rfl, rfl⟩, ⟨_, rfl, rfl⟩, ⟨_, rfl, rfl⟩, trivial⟩ rfl rfl ⟨⟨_, rfl, by first | rfl | exact q1.cells1 | exact q2.cells1 | exact q3.cells1 | exact q4.cells1⟩, ⟨_, rfl, by first | rfl | exact q1.cells1 | exact q2.cells1 | exact q3.cells1 | exact q4.cells1⟩, ⟨_, rfl, by first | rfl | exact q1.cells1 | exact q2.cells1 | exact q3.cells1 | exact q4.cells1⟩, trivial⟩ rfl) rfl rfl rfl ?_
  refine KL.call rfl rfl rfl rfl Try.call15 rfl rfl rfl (is_any (x := ⟨14, 2, 0, 0, [0, 1]⟩) q3 (by decide) q4 (by kernel_rfl)) ?_
  rintro _ H7 ⟨rfl, ox⟩
  have zc_H7 := (ox).1
  have o0 := o0.trans ox
  have q1 := q1.old ox
  have q2 := q2.old ox
  have q3 := q3.old ox
  have q4 := q4.old ox
  refine KL.op (R.not rfl rfl) rfl rfl rfl ?_
  refine KL.op (R.pick rfl rfl rfl) rfl rfl rfl ?_
  refine KL.op (R.move rfl rfl) rfl rfl rfl ?_
  refine KL.opM (M.lit rfl Try.underlying23 zs5 (by decide) rfl rfl rfl) rfl rfl rfl ?_
  rintro _ H8 ⟨rfl, n8⟩
  have z8 := n8.2.1
  have o0 := o0.trans n8.1
  have q1 := q1.old n8.1
  have q2 := q2.old n8.1
  have q3 := q3.old n8.1
  have q4 := q4.old n8.1
  have b8 := n8.2.2
  have q5 : Sl 1 (EInt .u8) H8 _ [17, 3, 0] := Sl.lits (l := [17, 3, 0]) n8 rfl (by simp) (by decide)
  refine KL.op (R.buildL rfl Try.underlying36 zr36 [(0, 1), (1, 1), (2, 1), (3, 1), (4, 1)] (fun w => by kernel_rfl) rfl ⟨⟨_, rfl, rfl⟩, ⟨_, rfl, rfl⟩, trivial⟩ rfl rfl ⟨⟨_, rfl, by first | rfl | exact q1.cells1 | exact q2.cells1 | exact q3.cells1 | exact q4.cells1 | exact q5.cells1⟩, ⟨_, rfl, by first | rfl | exact q1.cells1 | exact q2.cells1 | exact q3.cells1 | exact q4.cells1 | exact q5.cells1⟩, trivial⟩ rfl) rfl rfl rfl ?_
  refine KL.call rfl rfl rfl rfl Try.call15 rfl rfl rfl (is_any (x := ⟨17, 3, 0, 0, []⟩) q5 (by decide) (Sl.nil _ _ _) (by kernel_rfl)) ?_
  rintro _ H9 ⟨rfl, ox⟩
  have zc_H9 := (ox).1
  have o0 := o0.trans ox
  have q1 := q1.old ox
  have q2 := q2.old ox
  have q3 := q3.old ox
  have q4 := q4.old ox
  have q5 := q5.old ox
  refine KL.op (R.not rfl rfl) rfl rfl rfl ?_
  refine KL.op (R.pick rfl rfl rfl) rfl rfl rfl ?_
  refine KL.nil ?_
  refine KQ.seq ?_
  refine KC.condF rfl ?_
  refine KC.skip ?_
  refine KQ.seq ?_
  refine KC.seq ?_
  refine KC.seq ?_
  refine KC.region ?_
  refine KL.opM (M.lit rfl Try.underlying23 zs5 (by decide) rfl rfl rfl) rfl rfl rfl ?_
  rintro _ H10 ⟨rfl, n10⟩
  have z10 := n10.2.1
  have o0 := o0.trans n10.1
  have q1 := q1.old n10.1
  have q2 := q2.old n10.1
  have q3 := q3.old n10.1
  have q4 := q4.old n10.1
  have q5 := q5.old n10.1
  have b10 := n10.2.2
  have r1 : Sl 1 (EInt .u8) H10 _ [2, 125] := Sl.lits (l := [2, 125]) n10 rfl (by simp) (by decide)
  refine KL.opM (M.lit rfl Try.underlying23 zs5 (by decide) rfl rfl rfl) rfl rfl rfl ?_
  rintro _ H11 ⟨rfl, n11⟩
  have z11 := n11.2.1
  have o0 := o0.trans n11.1
  have q1 := q1.old n11.1
  have q2 := q2.old n11.1
  have q3 := q3.old n11.1
  have q4 := q4.old n11.1
  have q5 := q5.old n11.1
  have r1 := r1.old n11.1
  have b11 := n11.2.2
  have r2 : Sl 1 (EInt .u8) H11 _ [67] := Sl.lits (l := [67]) n11 rfl (by simp) (by decide)
  refine KL.opM (M.lit rfl Try.underlying23 zs5 (by decide) rfl rfl rfl) rfl rfl rfl ?_
  rintro _ H12 ⟨rfl, n12⟩
  have z12 := n12.2.1
  have o0 := o0.trans n12.1
  have q1 := q1.old n12.1
  have q2 := q2.old n12.1
  have q3 := q3.old n12.1
  have q4 := q4.old n12.1
  have q5 := q5.old n12.1
  have r1 := r1.old n12.1
  have r2 := r2.old n12.1
  have b12 := n12.2.2
  have r3 : Sl 1 (EInt .u8) H12 _ [192] := Sl.lits (l := [192]) n12 rfl (by simp) (by decide)
  refine KL.opM (M.lit rfl Try.underlying23 zs5 (by decide) rfl rfl rfl) rfl rfl rfl ?_
  rintro _ H13 ⟨rfl, n13⟩
  have z13 := n13.2.1
  have o0 := o0.trans n13.1
  have q1 := q1.old n13.1
  have q2 := q2.old n13.1
  have q3 := q3.old n13.1
  have q4 := q4.old n13.1
  have q5 := q5.old n13.1
  have r1 := r1.old n13.1
  have r2 := r2.old n13.1
  have r3 := r3.old n13.1
  have b13 := n13.2.2
  have r4 : Sl 1 (EInt .u8) H13 _ [63, 1] := Sl.lits (l := [63, 1]) n13 rfl (by simp) (by decide)
  refine KL.opM (M.lit rfl Try.underlying23 zs5 (by decide) rfl rfl rfl) rfl rfl rfl ?_
  rintro _ H14 ⟨rfl, n14⟩
  have z14 := n14.2.1
  have o0 := o0.trans n14.1
  have q1 := q1.old n14.1
  have q2 := q2.old n14.1
  have q3 := q3.old n14.1
  have q4 := q4.old n14.1
  have q5 := q5.old n14.1
  have r1 := r1.old n14.1
  have r2 := r2.old n14.1
  have r3 := r3.old n14.1
  have r4 := r4.old n14.1
  have b14 := n14.2.2
  have r5 : Sl 1 (EInt .u8) H14 _ [] := Sl.lits (l := []) n14 rfl (by simp) (by intro x hx; cases hx)
  refine KL.opM (M.lit rfl Try.underlying45 zs23 (by decide) rfl rfl rfl) rfl rfl rfl ?_
  rintro _ H15 ⟨rfl, n15⟩
  have z15 := n15.2.1
  have o0 := o0.trans n15.1
  have q1 := q1.old n15.1
  have q2 := q2.old n15.1
  have q3 := q3.old n15.1
  have q4 := q4.old n15.1
  have q5 := q5.old n15.1
  have r1 := r1.old n15.1
  have r2 := r2.old n15.1
  have r3 := r3.old n15.1
  have r4 := r4.old n15.1
  have r5 := r5.old n15.1
  have b15 := n15.2.2
  have hn44 := n15
  have wl : Own 1 (ESl 1 (EInt .u8)) 23 H15 H.size H15 _ kBad := Own.lit (l := kBad) hn44 (by omega) rfl (by decide) rfl (by
    intro j x u hj hu
    match j, hj, hu with
    | 0, hj, hu => injection hj with hj; injection hu with hu; subst hj hu; exact ⟨_, rfl, r1⟩
    | 1, hj, hu => injection hj with hj; injection hu with hu; subst hj hu; exact ⟨_, rfl, r2⟩
    | 2, hj, hu => injection hj with hj; injection hu with hu; subst hj hu; exact ⟨_, rfl, r3⟩
    | 3, hj, hu => injection hj with hj; injection hu with hu; subst hj hu; exact ⟨_, rfl, r4⟩
    | 4, hj, hu => injection hj with hj; injection hu with hu; subst hj hu; exact ⟨_, rfl, r5⟩
    | j + 5, hj, hu => cases hj)
  have hbl := wl.sl (Old.refl _) (by omega)
  refine KL.op ((R.lenS rfl Try.underlying45 rfl hbl).val (congrArg (Value.int .i64) (show ((kBad.length : Nat) : Int) = 5 from rfl))) rfl rfl rfl ?_
  refine KL.op (R.move rfl rfl) rfl rfl rfl ?_
  refine KL.nil ?_
  refine KQ.seq ?_
  refine KC.block ?_
  refine KC.loopD (κ := Nat) [47, 48, 49, 50, 1, 2, 3, 51, 52, 54, 55, 53, 56, 57, 58, 4, 5, 6, 59, 60, 61, 62, 63, 64, 65, 0, 66, 46] (fun k => [(46, .int .i64 (k : Nat))]) (fun k Hl => k ≤ 5 ∧ Old H15 Hl) (fun k => 5 - k) 0 ?_ ?_ ?_
  · exact (Sub.cons rfl (Ext.sub (Ext.refl _ _)))
  · exact ⟨by omega, Old.refl _⟩
  · rintro k H16 ⟨hk, oL⟩
    have zl := oL.1
    have o0 := o0.trans oL
    have hbl0 := hbl.old oL
    have oLx : Old H15 H16 := oL
    refine KC.seq ?_
    refine KC.region ?_
    refine KL.op (R.lss rfl rfl rfl) rfl rfl rfl ?_
    refine KL.nil ?_
    refine KQ.seq ?_
    refine KC.seq ?_
    refine KC.iteL rfl ?_ ?_
    · intro hc47
      try simp only [decide_eq_true_eq, decide_eq_false_iff_not, Bool.not_eq_true', Bool.not_eq_false', Bool.and_eq_true, Bool.or_eq_false_iff] at hc47
      have hbk := kBad_at (k := k) (by omega)
      obtain ⟨cs, hcl, hcc, ve, rfl, hse⟩ := hbl0.at k (by show k < 5; omega)
      refine KC.skip ?_
      refine KQ.seq ?_
      refine KC.seq ?_
      refine KC.block ?_
      refine KC.seq ?_
      refine KC.region ?_
      refine KL.op (R.move rfl rfl) rfl rfl rfl ?_
      refine KL.op (R.index1 (j := k) rfl Try.underlying45 sz23 rfl rfl hbl0 rfl (by show k < 5; omega)) rfl rfl rfl ?_
      refine KL.op (R.load rfl Try.underlying23 rfl rfl (by have hq := hcc 0 _ rfl; rw [Nat.mul_one] at hq; exact hq)) rfl rfl rfl ?_
      refine KL.op (R.assign rfl rfl) rfl rfl rfl ?_
      refine KL.op (R.assign rfl rfl) rfl rfl rfl ?_
      refine KL.nil ?_
      refine KQ.seq ?_
      refine KC.seq ?_
      refine KC.region ?_
      refine KL.op (R.assign rfl rfl) rfl rfl rfl ?_
      refine KL.nil ?_
      refine KQ.seq ?_
      refine KC.seq ?_
      refine KC.seq ?_
      refine KC.region ?_
      refine KL.op (R.move rfl rfl) rfl rfl rfl ?_
      refine KL.op (R.lss rfl rfl rfl) rfl rfl rfl ?_
      refine KL.nil ?_
      refine KQ.seq ?_
      refine KC.iteL rfl ?_ ?_
      · intro hc52
        try simp only [decide_eq_true_eq, decide_eq_false_iff_not, Bool.not_eq_true', Bool.not_eq_false', Bool.and_eq_true, Bool.or_eq_false_iff] at hc52
        rw [if_pos (by omega)] at hbk
        refine KC.region ?_
        refine KL.op (R.assign rfl rfl) rfl rfl rfl ?_
        refine KL.nil ?_
        refine KQ.seq ?_
        refine KC.seq ?_
        refine KC.region ?_
        refine KL.op (R.move rfl rfl) rfl rfl rfl ?_
        refine KL.call rfl rfl rfl rfl Try.call16 rfl rfl rfl (TakeI_any (hse.old (by first | exact oLL | exact Old.refl _))) ?_
        rintro u H17 ⟨ox, hm⟩
        rw [hbk] at hm
        dsimp only at hm
        subst hm
        have zc_H17 := (ox).1
        have o0 := o0.trans ox
        have oLx := oLx.trans ox
        refine KL.op (R.move rfl rfl) rfl rfl rfl ?_
        refine KL.op (R.extract rfl rfl rfl) rfl rfl rfl ?_
        refine KL.op (R.extract rfl rfl rfl) rfl rfl rfl ?_
        refine KL.op (R.extract rfl rfl rfl) rfl rfl rfl ?_
        refine KL.opM (M.alloc rfl zr36 rfl) rfl rfl rfl ?_
        rintro _ H18 ⟨rfl, n18⟩
        have z18 := n18.2.1
        have o0 := o0.trans n18.1
        have oLx := oLx.trans n18.1
        have b18 := n18.2.2
        have b4x := b18
        refine KL.opS (S.storeAgg rfl sz36 rfl rfl (rfl) (by intro u hu; simp only [List.mem_cons, List.not_mem_nil, or_false] at hu; rcases hu with rfl | rfl | rfl | rfl | rfl <;> rfl) b4x (by simp)) rfl rfl ?_
        rintro H19 ⟨u19, b19⟩
        have o0 := o0.upd u19 (by omega)
        have zu19 := u19.1
        have oLx := oLx.upd u19 (by omega)
        have b4x := b19
        refine KL.op (R.assign rfl rfl) rfl rfl rfl ?_
        refine KL.op (R.assign rfl rfl) rfl rfl rfl ?_
        refine KL.nil ?_
        refine KQ.seq ?_
        refine KC.seq ?_
        refine KC.region ?_
        refine KL.op (R.move rfl rfl) rfl rfl rfl ?_
        refine KL.op (R.move rfl rfl) rfl rfl rfl ?_
        refine KL.op ((R.neq rfl rfl rfl).val ((congrArg (fun b => Value.bool (!b)) (decide_eq_true (by omega))))) rfl rfl rfl ?_
        refine KL.op (R.move rfl rfl) rfl rfl rfl ?_
        refine KL.op (R.move rfl rfl) rfl rfl rfl ?_
        refine KL.op ((R.neq rfl rfl rfl).val ((congrArg (fun b => Value.bool (!b)) (decide_eq_true (by rfl))))) rfl rfl rfl ?_
        refine KL.op (R.pick rfl rfl rfl) rfl rfl rfl ?_
        refine KL.nil ?_
        refine KQ.seq ?_
        refine KC.condF rfl ?_
        refine KC.skip ?_
        refine KQ.normBlock ?_
        refine KQ.seq ?_
        refine KC.region ?_
        refine KL.op ((R.add rfl rfl rfl (by dsimp only [InR]; omega)).val (congrArg (Value.int .i64) (show (k : Int) + 1 = ((k + 1 : Nat) : Int) by omega))) rfl rfl rfl ?_
        refine KL.op (R.move rfl rfl) rfl rfl rfl ?_
        refine KL.nil ?_
        refine KQ.again (k + 1) ?_ ?_ ?_
        · exact (Sub.cons rfl (Ext.sub (by repeat (first | exact Ext.refl _ _ | refine Ext.put rfl ?_ | refine Ext.drop rfl ?_))))
        · omega
        · exact ⟨by omega, oLx⟩
      · intro hc52
        try simp only [decide_eq_true_eq, decide_eq_false_iff_not, Bool.not_eq_true', Bool.not_eq_false', Bool.and_eq_true, Bool.or_eq_false_iff] at hc52
        rw [if_neg (by omega)] at hbk
        refine KC.skip ?_
        refine KQ.seq ?_
        refine KC.seq ?_
        refine KC.region ?_
        refine KL.op (R.move rfl rfl) rfl rfl rfl ?_
        refine KL.call rfl rfl rfl rfl Try.call16 rfl rfl rfl (TakeI_any (hse.old (by first | exact oLL | exact Old.refl _))) ?_
        rintro u H20 ⟨ox, hm⟩
        rw [hbk] at hm
        dsimp only at hm
        subst hm
        have zc_H20 := (ox).1
        have o0 := o0.trans ox
        have oLx := oLx.trans ox
        refine KL.op (R.move rfl rfl) rfl rfl rfl ?_
        refine KL.op (R.extract rfl rfl rfl) rfl rfl rfl ?_
        refine KL.op (R.extract rfl rfl rfl) rfl rfl rfl ?_
        refine KL.op (R.extract rfl rfl rfl) rfl rfl rfl ?_
        refine KL.opM (M.alloc rfl zr36 rfl) rfl rfl rfl ?_
        rintro _ H21 ⟨rfl, n21⟩
        have z21 := n21.2.1
        have o0 := o0.trans n21.1
        have oLx := oLx.trans n21.1
        have b21 := n21.2.2
        have b4x := b21
        refine KL.opS (S.storeAgg rfl sz36 rfl rfl (rfl) (by intro u hu; simp only [List.mem_cons, List.not_mem_nil, or_false] at hu; rcases hu with rfl | rfl | rfl | rfl | rfl <;> rfl) b4x (by simp)) rfl rfl ?_
        rintro H22 ⟨u22, b22⟩
        have o0 := o0.upd u22 (by omega)
        have zu22 := u22.1
        have oLx := oLx.upd u22 (by omega)
        have b4x := b22
        refine KL.op (R.assign rfl rfl) rfl rfl rfl ?_
        refine KL.op (R.assign rfl rfl) rfl rfl rfl ?_
        refine KL.nil ?_
        refine KQ.seq ?_
        refine KC.seq ?_
        refine KC.region ?_
        refine KL.op (R.move rfl rfl) rfl rfl rfl ?_
        refine KL.op (R.move rfl rfl) rfl rfl rfl ?_
        refine KL.op ((R.neq rfl rfl rfl).val ((congrArg (fun b => Value.bool (!b)) (decide_eq_true (by omega))))) rfl rfl rfl ?_
        refine KL.op (R.move rfl rfl) rfl rfl rfl ?_
        refine KL.op (R.move rfl rfl) rfl rfl rfl ?_
        refine KL.op ((R.neq rfl rfl rfl).val ((congrArg (fun b => Value.bool (!b)) (decide_eq_true (by rfl))))) rfl rfl rfl ?_
        refine KL.op (R.pick rfl rfl rfl) rfl rfl rfl ?_
        refine KL.nil ?_
        refine KQ.seq ?_
        refine KC.condF rfl ?_
        refine KC.skip ?_
        refine KQ.normBlock ?_
        refine KQ.seq ?_
        refine KC.region ?_
        refine KL.op ((R.add rfl rfl rfl (by dsimp only [InR]; omega)).val (congrArg (Value.int .i64) (show (k : Int) + 1 = ((k + 1 : Nat) : Int) by omega))) rfl rfl rfl ?_
        refine KL.op (R.move rfl rfl) rfl rfl rfl ?_
        refine KL.nil ?_
        refine KQ.again (k + 1) ?_ ?_ ?_
        · exact (Sub.cons rfl (Ext.sub (by repeat (first | exact Ext.refl _ _ | refine Ext.put rfl ?_ | refine Ext.drop rfl ?_))))
        · omega
        · exact ⟨by omega, oLx⟩
    · intro hc47
      try simp only [decide_eq_true_eq, decide_eq_false_iff_not, Bool.not_eq_true', Bool.not_eq_false', Bool.and_eq_true, Bool.or_eq_false_iff] at hc47
      have hk5 : k = 5 := by omega
      refine KC.exit ?_
      refine KQ.exitThen ?_
      refine KQ.exitThen ?_
      refine KQ.hit ?_
      refine KQ.seq ?_
      refine KC.seq ?_
      refine KC.region ?_
      refine KL.opM (M.lit rfl Try.underlying23 zs5 (by decide) rfl rfl rfl) rfl rfl rfl ?_
      rintro _ H23 ⟨rfl, n23⟩
      have z23 := n23.2.1
      have o0 := o0.trans n23.1
      have oLx := oLx.trans n23.1
      have b23 := n23.2.2
      have s1 : Sl 1 (EInt .u8) H23 _ [2, 64, 1, 11, 11, 1] := Sl.lits (l := [2, 64, 1, 11, 11, 1]) n23 rfl (by simp) (by decide)
      refine KL.call rfl rfl rfl rfl Try.call9 rfl rfl rfl (TakeExpr_any s1 (by decide)) ?_
      rintro u H24 ⟨ox, hm⟩
      have hp1 : Isp.exprP (([2, 64, 1, 11, 11, 1] : List Int).length + 1) [] [2, 64, 1, 11, 11, 1] = .ok (kX, 5) := by kernel_rfl
      rw [hp1] at hm
      obtain ⟨c1, rfl, e1⟩ := hm
      have zc_H24 := (ox).1
      have o0 := o0.trans ox
      have oLx := oLx.trans ox
      have s1 := s1.old ox
      refine KL.op (R.move rfl rfl) rfl rfl rfl ?_
      refine KL.op (R.extract rfl rfl rfl) rfl rfl rfl ?_
      refine KL.op (R.extract rfl rfl rfl) rfl rfl rfl ?_
      refine KL.op (R.extract rfl rfl rfl) rfl rfl rfl ?_
      refine KL.op (R.assign rfl rfl) rfl rfl rfl ?_
      refine KL.op (R.assign rfl rfl) rfl rfl rfl ?_
      refine KL.op (R.assign rfl rfl) rfl rfl rfl ?_
      refine KL.nil ?_
      refine KQ.seq ?_
      refine KC.seq ?_
      refine KC.region ?_
      refine KL.opM (M.lit rfl Try.underlying23 zs5 (by decide) rfl rfl rfl) rfl rfl rfl ?_
      rintro _ H25 ⟨rfl, n25⟩
      have z25 := n25.2.1
      have o0 := o0.trans n25.1
      have oLx := oLx.trans n25.1
      have s1 := s1.old n25.1
      have e1 := e1.old n25.1
      have b25 := n25.2.2
      have s2 : Sl 1 (EInt .u8) H25 _ [5, 11] := Sl.lits (l := [5, 11]) n25 rfl (by simp) (by decide)
      refine KL.call rfl rfl rfl rfl Try.call9 rfl rfl rfl (TakeExpr_any s2 (by decide)) ?_
      rintro u H26 ⟨ox, hm⟩
      have hp2 : Isp.exprP (([5, 11] : List Int).length + 1) [] [5, 11] = .error 60 := by kernel_rfl
      rw [hp2] at hm
      dsimp only at hm
      subst hm
      have zc_H26 := (ox).1
      have o0 := o0.trans ox
      have oLx := oLx.trans ox
      have s1 := s1.old ox
      have e1 := e1.old ox
      have s2 := s2.old ox
      refine KL.op (R.move rfl rfl) rfl rfl rfl ?_
      refine KL.op (R.extract rfl rfl rfl) rfl rfl rfl ?_
      refine KL.op (R.extract rfl rfl rfl) rfl rfl rfl ?_
      refine KL.op (R.extract rfl rfl rfl) rfl rfl rfl ?_
      refine KL.op (R.assign rfl rfl) rfl rfl rfl ?_
      refine KL.op (R.assign rfl rfl) rfl rfl rfl ?_
      refine KL.op (R.assign rfl rfl) rfl rfl rfl ?_
      refine KL.nil ?_
      refine KQ.seq ?_
      refine KC.seq ?_
      refine KC.region ?_
      refine KL.opM (M.lit rfl Try.underlying23 zs5 (by decide) rfl rfl rfl) rfl rfl rfl ?_
      rintro _ H27 ⟨rfl, n27⟩
      have z27 := n27.2.1
      have o0 := o0.trans n27.1
      have oLx := oLx.trans n27.1
      have s1 := s1.old n27.1
      have e1 := e1.old n27.1
      have s2 := s2.old n27.1
      have b27 := n27.2.2
      have s3 : Sl 1 (EInt .u8) H27 _ [1] := Sl.lits (l := [1]) n27 rfl (by simp) (by decide)
      refine KL.call rfl rfl rfl rfl Try.call9 rfl rfl rfl (TakeExpr_any s3 (by decide)) ?_
      rintro u H28 ⟨ox, hm⟩
      have hp3 : Isp.exprP (([1] : List Int).length + 1) [] [1] = .error 60 := by kernel_rfl
      rw [hp3] at hm
      dsimp only at hm
      subst hm
      have zc_H28 := (ox).1
      have o0 := o0.trans ox
      have oLx := oLx.trans ox
      have s1 := s1.old ox
      have e1 := e1.old ox
      have s2 := s2.old ox
      have s3 := s3.old ox
      refine KL.op (R.move rfl rfl) rfl rfl rfl ?_
      refine KL.op (R.extract rfl rfl rfl) rfl rfl rfl ?_
      refine KL.op (R.extract rfl rfl rfl) rfl rfl rfl ?_
      refine KL.op (R.extract rfl rfl rfl) rfl rfl rfl ?_
      refine KL.op (R.assign rfl rfl) rfl rfl rfl ?_
      refine KL.op (R.assign rfl rfl) rfl rfl rfl ?_
      refine KL.op (R.assign rfl rfl) rfl rfl rfl ?_
      refine KL.nil ?_
      refine KQ.seq ?_
      refine KC.seq ?_
      refine KC.region ?_
      refine KL.op (R.move rfl rfl) rfl rfl rfl ?_
      refine KL.op (R.buildL rfl Try.underlying36 zr36 [(0, 1), (1, 1), (2, 1), (3, 1), (4, 1)] (fun w => by kernel_rfl) rfl ⟨⟨_, rfl, rfl⟩, ⟨_, rfl, rfl⟩, trivial⟩ rfl rfl ⟨⟨_, rfl, by first | rfl | exact s1.cells1 | exact e1.cells1 | exact s2.cells1 | exact s3.cells1⟩, ⟨_, rfl, by first | rfl | exact s1.cells1 | exact e1.cells1 | exact s2.cells1 | exact s3.cells1⟩, trivial⟩ rfl) rfl rfl rfl ?_
      refine KL.op (R.buildL rfl Try.underlying36 zr36 [(0, 1), (1, 1), (2, 1), (3, 1), (4, 1)] (fun w => by kernel_rfl) rfl ⟨⟨_, rfl, rfl⟩, trivial⟩ rfl rfl ⟨⟨_, rfl, by first | rfl | exact s1.cells1 | exact e1.cells1 | exact s2.cells1 | exact s3.cells1⟩, trivial⟩ rfl) rfl rfl rfl ?_
      refine KL.op (R.buildL rfl Try.underlying36 zr36 [(0, 1), (1, 1), (2, 1), (3, 1), (4, 1)] (fun w => by kernel_rfl) rfl ⟨⟨_, rfl, rfl⟩, trivial⟩ rfl rfl ⟨⟨_, rfl, by first | rfl | exact s1.cells1 | exact e1.cells1 | exact s2.cells1 | exact s3.cells1⟩, trivial⟩ rfl) rfl rfl rfl ?_
      refine KL.opM (M.lit rfl Try.underlying22 zs36 (by decide) rfl rfl rfl) rfl rfl rfl ?_
      rintro _ H29 ⟨rfl, n29⟩
      have z29 := n29.2.1
      have o0 := o0.trans n29.1
      have oLx := oLx.trans n29.1
      have s1 := s1.old n29.1
      have e1 := e1.old n29.1
      have s2 := s2.old n29.1
      have s3 := s3.old n29.1
      have b29 := n29.2.2
      have hn89 := n29
      have wk : Own 5 EIns 36 H29 H.size H29 _ kX := Own.litN (l := kX) hn89 (by omega) rfl (by decide) rfl (by
        intro j x hj
        match j, hj with
        | 0, hj => injection hj with hj; subst hj; exact ins5 rfl (Sl.nil _ _ _) ⟨by decide, by decide, by decide, by decide⟩
        | 1, hj => injection hj with hj; subst hj; exact ins5 rfl (Sl.nil _ _ _) ⟨by decide, by decide, by decide, by decide⟩
        | 2, hj => injection hj with hj; subst hj; exact ins5 rfl (Sl.nil _ _ _) ⟨by decide, by decide, by decide, by decide⟩
        | j + 3, hj => cases hj)
      have hk3 := wk.sl (Old.refl _) (by omega)
      refine KL.call rfl rfl rfl rfl Try.call10 rfl rfl rfl (SameAll_any e1 hk3 (by decide)) ?_
      rintro _ H30 ⟨rfl, ox⟩
      rw [decide_eq_true rfl]
      have zc_H30 := (ox).1
      have o0 := o0.trans ox
      have oLx := oLx.trans ox
      have s1 := s1.old ox
      have e1 := e1.old ox
      have s2 := s2.old ox
      have s3 := s3.old ox
      have hk3 := hk3.old ox
      refine KL.op (R.move rfl rfl) rfl rfl rfl ?_
      refine KL.op (R.move rfl rfl) rfl rfl rfl ?_
      refine KL.op ((R.eql rfl rfl rfl).val (congrArg Value.bool (decide_eq_true (by rfl)))) rfl rfl rfl ?_
      refine KL.op (R.pick rfl rfl rfl) rfl rfl rfl ?_
      refine KL.op (R.move rfl rfl) rfl rfl rfl ?_
      refine KL.op (R.move rfl rfl) rfl rfl rfl ?_
      refine KL.op ((R.eql rfl rfl rfl).val (congrArg Value.bool (decide_eq_true (by rfl)))) rfl rfl rfl ?_
      refine KL.op (R.pick rfl rfl rfl) rfl rfl rfl ?_
      refine KL.op (R.move rfl rfl) rfl rfl rfl ?_
      refine KL.op (R.move rfl rfl) rfl rfl rfl ?_
      refine KL.op ((R.eql rfl rfl rfl).val (congrArg Value.bool (decide_eq_true (by rfl)))) rfl rfl rfl ?_
      refine KL.op (R.pick rfl rfl rfl) rfl rfl rfl ?_
      refine KL.op (R.move rfl rfl) rfl rfl rfl ?_
      refine KL.op (R.move rfl rfl) rfl rfl rfl ?_
      refine KL.op ((R.eql rfl rfl rfl).val (congrArg Value.bool (decide_eq_true (by rfl)))) rfl rfl rfl ?_
      refine KL.op (R.pick rfl rfl rfl) rfl rfl rfl ?_
      refine KL.op (R.assign rfl rfl) rfl rfl rfl ?_
      refine KL.nil ?_
      refine KQ.seq ?_
      refine KC.ret ?_
      refine KQ.ofRet ?_
      refine KQ.fin1 Try.results6 rfl ?_
      exact ⟨rfl, o0⟩

end Go.Proofs.Ytnjodpgahbpiaaa
