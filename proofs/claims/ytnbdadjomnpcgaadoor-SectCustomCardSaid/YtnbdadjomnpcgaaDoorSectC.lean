/- Sections are joined, by the code and by the document; sections in the document's type. No condition but those that each states. -/
import Derived.Test.YtnbdadjomnpcgaaDoorSectB
import Derived.Test.YtnbdadjomnpcgaaDoorLebW
namespace Go.Proofs.YtnbdadjomnpcgaaDoor
open Go Go.RowKit
set_option linter.unusedVariables false
set_option linter.unusedSimpArgs false
set_option linter.unnecessarySimpa false
set_option maxRecDepth 100000 in
set_option maxHeartbeats 4000000 in
theorem Join_any {H : Heap} (v : Value) (l : List Sec) (hs : Sl 2 ESec H v l) (hz : (Sc.body l).length ≤ 140737488351232) : Ct Tryd.prog 13 [v] H (fun u H' => Old H H' ∧ Sc.JRes (Sc.join l) (.int .i64 2) (.int .i64 0) u H') := by
  refine Ct.mk Tryd.func13 rfl Tryd.ntmps13 rfl ?_
  intro W0 hW0
  have o0 : Old H H := Old.refl H
  have hll := hs.len
  refine KC.seq ?_
  refine KC.region ?_
  refine KL.op (R.assign rfl rfl) rfl rfl rfl ?_
  refine KL.op (R.assign rfl rfl) rfl rfl rfl ?_
  refine KL.nil ?_
  refine KQ.seq ?_
  refine KC.seq ?_
  refine KC.region ?_
  refine KL.opM (M.lit rfl Tryd.underlying22 zs5 (by decide) rfl rfl rfl) rfl rfl rfl ?_
  rintro _ H1 ⟨rfl, n1⟩
  have z1 := n1.2.1
  have o0 := o0.trans n1.1
  have b1 := n1.2.2
  have bm := b1
  refine KL.opM (M.mark rfl Tryd.underlying22 Tryd.underlying5 rfl bm) rfl rfl rfl ?_
  rintro _ H2 ⟨rfl, um, bmk⟩
  have zum := um.1
  have o0 := o0.upd um (by omega)
  have sm : Full H.size H2 (.slice (some ⟨_, 0, none⟩) 8 8) Sc.beg := ⟨Sl.ofCells (l := Sc.beg) bmk (by decide) (by decide), by decide, _, rfl, Nat.le_refl _, blk_lt bmk⟩
  refine KL.op (R.assign rfl rfl) rfl rfl rfl ?_
  refine KL.nil ?_
  refine KQ.seq ?_
  refine KC.seq ?_
  refine KC.region ?_
  refine KL.call rfl rfl rfl rfl Tryd.call22 rfl rfl rfl (rising_any) ?_
  rintro _ H3 ⟨rfl, ox, bl, zr⟩
  have zc_H3 := (ox).1
  have o0 := o0.trans ox
  have wo : Out 5 H.size H3 _ Sc.beg := .inr (sm.sl.old ox |> fun s => ⟨s, sm.pos, sm.at_.imp fun g h => ⟨h.1, h.2.1, by omega⟩⟩)
  refine KL.op (R.assign rfl rfl) rfl rfl rfl ?_
  refine KL.nil ?_
  refine KQ.seq ?_
  refine KC.seq ?_
  refine KC.seq ?_
  refine KC.region ?_
  refine KL.op (R.move rfl rfl) rfl rfl rfl ?_
  refine KL.op (R.lenS rfl Tryd.underlying24 rfl hs) rfl rfl rfl ?_
  refine KL.op (R.move rfl rfl) rfl rfl rfl ?_
  refine KL.nil ?_
  refine KQ.seq ?_
  refine KC.block ?_
  refine KC.loopD (κ := Nat × Value) [14, 15, 16, 7, 17, 18, 19, 20, 21, 2, 3, 22, 23, 24, 25, 26, 27, 28, 29, 30, 31, 32, 33, 34, 4, 35, 13] (fun k => [(13, .int .i64 (k.1 : Nat)), (4, k.2)]) (fun k Hl => k.1 ≤ l.length ∧ Out 5 H.size Hl k.2 (Sc.beg ++ Sc.body (l.take k.1)) ∧ vblock k.2 ≠ (Array.size H2) ∧ Hl[(Array.size H2)]? = some (.cells [.int .u8 (Sc.lst 0 (l.take k.1))].toArray 5 (0, 0)) ∧ Sc.rise 0 (l.take k.1) = true ∧ Old H Hl) (fun k => l.length - k.1) (0, (Value.slice (some ⟨Array.size H, 0, none⟩) 8 8)) ?_ ?_ ?_
  · exact (Sub.cons rfl (Sub.cons rfl (Ext.sub (Ext.refl _ _))))
  · exact ⟨Nat.zero_le _, by simpa [Sc.body] using wo, by show Array.size H ≠ _; omega, bl, rfl, o0⟩
  · rintro ⟨k, vo⟩ H4 ⟨hk, wo, hne, bl, hr, o0⟩
    have zl_H4 := o0.1
    dsimp only at hk wo hne bl hr
    have zl := o0.1
    have hg := blk_lt bl
    have hvo := wo.lt
    refine KC.seq ?_
    refine KC.region ?_
    refine KL.op (R.lss rfl rfl rfl) rfl rfl rfl ?_
    refine KL.nil ?_
    refine KQ.seq ?_
    refine KC.seq ?_
    refine KC.iteL rfl ?_ ?_
    · intro hc14
      try simp only [decide_eq_true_eq, decide_eq_false_iff_not, Bool.not_eq_true', Bool.not_eq_false', Bool.and_eq_true, Bool.or_eq_false_iff] at hc14
      obtain ⟨u, hcx, hu, q0⟩ := hs.secAt k (by omega)
      have q1 := q0
      dsimp only [InR] at q1
      have hbs := Sc.body_bytes (l := l) (k := k) (by omega)
      have hbl := Sc.body_le l (k + 1)
      have hbk := Sc.body_le l k
      have hul := hu.len
      have hal := (Lb.ap_length (z := ((l.getD k default).2.length : Int)) (by omega) (by omega)).2
      refine KC.skip ?_
      refine KQ.seq ?_
      refine KC.seq ?_
      refine KC.block ?_
      refine KC.seq ?_
      refine KC.region ?_
      refine KL.op (R.index (j := k) rfl Tryd.underlying24 sz35 rfl rfl (hs.old o0) rfl (by omega)) rfl rfl rfl ?_
      refine KL.op (R.loadAgg rfl Tryd.underlying35 rfl sz35 rfl (o0.cells hcx) rfl) rfl rfl rfl ?_
      refine KL.opM (M.alloc rfl zr35 rfl) rfl rfl rfl ?_
      rintro _ H5 ⟨rfl, n5⟩
      have z5 := n5.2.1
      have o0 := o0.trans n5.1
      have bl := (n5.1).blk bl
      have b5 := n5.2.2
      have bx := b5
      have wo := wo.old n5.1
      have gx := n5.2.1
      refine KL.opS (S.storeAgg rfl sz35 rfl rfl (rfl) (by intro q hq; simp only [List.mem_cons, List.not_mem_nil, or_false] at hq; rcases hq with rfl | rfl <;> first | rfl | exact hu.one) bx (by simp)) rfl rfl ?_
      rintro H6 ⟨u6, b6⟩
      have o0 := o0.upd u6 (by omega)
      have zu6 := u6.1
      have bl := ((u6).2 _ (by omega)).trans bl
      have bx := b6
      have wo := wo.upd u6 (hvo.imp id (fun h => by omega))
      refine KL.nil ?_
      refine KQ.seq ?_
      refine KC.seq ?_
      refine KC.seq ?_
      refine KC.region ?_
      refine KL.op (R.move rfl rfl) rfl rfl rfl ?_
      refine KL.op ((by first | exact R.fieldAddr rfl Tryd.underlying35 rfl rfl sz5 rfl | exact R.fieldAddrP rfl Tryd.underlying35 rfl rfl sz5 rfl)) rfl rfl rfl ?_
      refine KL.op (R.load rfl Tryd.underlying5 rfl rfl (by first | exact cell_of bl rfl | exact cell_of bx rfl | exact cell_of hg rfl | assumption)) rfl rfl rfl ?_
      refine KL.call rfl rfl rfl rfl Tryd.call33 rfl rfl rfl (rising1_any _ _ _ bl) ?_
      rintro _ H7 ⟨rfl, uu, bl⟩
      have o0 := o0.upd uu (by omega)
      have zuu := uu.1
      have bx := ((uu).2 _ (by omega)).trans bx
      have wo := wo.upd uu (.inr hne)
      refine KL.op (R.not rfl rfl) rfl rfl rfl ?_
      refine KL.nil ?_
      refine KQ.seq ?_
      refine KC.iteL rfl ?_ ?_
      · intro hc21
        try simp only [decide_eq_true_eq, decide_eq_false_iff_not, Bool.not_eq_true', Bool.not_eq_false', Bool.and_eq_true, Bool.or_eq_false_iff] at hc21
        refine KC.seq ?_
        refine KC.region ?_
        refine KL.op (R.assign rfl rfl) rfl rfl rfl ?_
        refine KL.op (R.assign rfl rfl) rfl rfl rfl ?_
        refine KL.nil ?_
        refine KQ.seq ?_
        refine KC.ret ?_
        refine KQ.retThen ?_
        refine KQ.retBlock ?_
        refine KQ.retThen ?_
        refine KQ.retThen ?_
        refine KQ.retBlock ?_
        refine KQ.retThen ?_
        refine KQ.ofRet ?_
        refine KQ.fin2 Tryd.results13 rfl rfl ?_
        first
          | exact ⟨o0, by rw [Sc.join_no (l := l) (k := k) (by omega) hc21]; rfl⟩
          | exact ⟨o0, by rw [Sc.join_yes (l := l) (k := k) (by omega) hr]; exact ⟨vo, rfl, wo.sl⟩⟩
      · intro hc21
        try simp only [decide_eq_true_eq, decide_eq_false_iff_not, Bool.not_eq_true', Bool.not_eq_false', Bool.and_eq_true, Bool.or_eq_false_iff] at hc21
        refine KC.skip ?_
        refine KQ.seq ?_
        refine KC.text (clOf [(3, 2), (4, 2), (9, 2), (12, 2)]) (fun _ Hc => Hc[_]? = some _) (by kernel_rfl) (by kernel_rfl) (fun _ => bx) ?_
        refine KP.op rfl (fun Hg hg => R.move rfl rfl) rfl rfl rfl ?_
        refine KP.op rfl (fun Hg hg => (by first | exact R.fieldAddr rfl Tryd.underlying35 rfl rfl sz5 rfl | exact R.fieldAddrP rfl Tryd.underlying35 rfl rfl sz5 rfl)) rfl rfl rfl ?_
        refine KP.op rfl (fun Hg hg => R.load rfl Tryd.underlying5 rfl rfl (by first | exact cell_of bl rfl | exact cell_of bx rfl | exact cell_of hg rfl | assumption)) rfl rfl rfl ?_
        refine KP.opM rfl (M.lit rfl Tryd.underlying22 zs5 (by decide) rfl rfl rfl) rfl rfl rfl (fun _ _ h _ _ _ => h.2.1.blk bx) ?_
        rintro _ H8 ⟨rfl, n8⟩
        have z8 := n8.2.1
        have o0 := o0.trans n8.1
        have bl := (n8.1).blk bl
        have bx := (n8.1).blk bx
        have b8 := n8.2.2
        have s1 : Sl 1 (EInt .u8) H8 _ [(l.getD k default).1] := Sl.lits (l := [(l.getD k default).1]) n8 rfl (by simp) (by intro x hx; simp only [List.mem_singleton] at hx; subst hx; exact q0)
        have wo := wo.old n8.1
        have ltv := wo.lt
        have zo := o0.1
        have hnx : vblock vo ≠ Array.size H4 := by
          rcases hvo with h | h
          · rw [h]; show (0 : Nat) ≠ _; omega
          · omega
        refine KP.opM rfl (M.appendOut (m := [(l.getD k default).1]) rfl Tryd.underlying22 inf5 rfl rfl rfl wo s1 (by simp) (by omega) (by rw [List.length_append]; simp only [List.length_singleton, show Sc.beg.length = 8 from rfl, List.length_append]; omega) (by unfold maxLen; rw [List.length_append]; simp only [List.length_singleton, show Sc.beg.length = 8 from rfl]; omega)) rfl rfl rfl (fun _ _ h _ _ _ => (h.2.1.2 _ (blk_lt bx) (.inr hnx.symm)).trans bx) ?_
        rintro v1 H10 ⟨w1, g1, nx1⟩
        dsimp only at g1 nx1
        have ob1 := OldB.trans (OldB.refl H.size _) ((⟨g1.1, fun i hi => g1.2 i (by omega) (ltv.imp id (fun h => by omega))⟩ : OldB H.size H8 H10))
        have o0 := o0.then ob1 (by omega)
        have bx := (g1.2 _ (blk_lt bx) (.inr hnx.symm)).trans bx
        have bl := (g1.2 _ (blk_lt bl) (.inr (Ne.symm hne))).trans bl
        have zg1 := g1.1
        have sw := w1.sl (emptyOld _) (by omega)
        refine KP.op rfl (fun Hg hg => (by first | exact R.fieldAddr rfl Tryd.underlying35 rfl rfl sz22 rfl | exact R.fieldAddrP rfl Tryd.underlying35 rfl rfl sz22 rfl)) rfl rfl rfl ?_
        refine KP.op rfl (fun Hg hg => R.load rfl Tryd.underlying22 rfl rfl (by first | exact cell_of bl rfl | exact cell_of bx rfl | exact cell_of hg rfl | assumption)) rfl rfl rfl ?_
        refine KP.op rfl (fun Hg hg => R.lenS rfl Tryd.underlying22 rfl hu) rfl rfl rfl ?_
        refine KP.op rfl (fun Hg hg => R.convI rfl Tryd.underlying3 Tryd.underlying43 rfl (by dsimp only [InR]; omega)) rfl rfl rfl ?_
        refine KP.call rfl rfl rfl rfl rfl Tryd.call18 rfl rfl rfl (AppendU_big _ _ _ sw (by rw [List.length_append, List.length_append]; simp only [List.length_singleton, show Sc.beg.length = 8 from rfl]; omega) (by omega) (by omega)) (fun _ _ h _ _ _ => h.2.blk bx) ?_
        rintro va H11 ⟨wa, ox⟩
        have zc_H11 := (ox).1
        have o0 := o0.trans ox
        have bl := (ox).blk bl
        have bx := (ox).blk bx
        have hva := wa.lt
        refine KP.op rfl (fun Hg hg => (by first | exact R.fieldAddr rfl Tryd.underlying35 rfl rfl sz22 rfl | exact R.fieldAddrP rfl Tryd.underlying35 rfl rfl sz22 rfl)) rfl rfl rfl ?_
        refine KP.op rfl (fun Hg hg => R.load rfl Tryd.underlying22 rfl rfl (by first | exact cell_of bl rfl | exact cell_of bx rfl | exact cell_of hg rfl | assumption)) rfl rfl rfl ?_
        have lt12 := wa.lt
        refine KP.opM rfl (M.appendN rfl Tryd.underlying22 inf5 rfl (by decide) rfl rfl wa (by exact (hu.old o0)) (fun _ _ h _ => h) (by omega) (by simp only [List.length_append, List.length_singleton, show Sc.beg.length = 8 from rfl]; omega) (by unfold maxLen; simp only [List.length_append, List.length_singleton, show Sc.beg.length = 8 from rfl]; omega)) rfl rfl rfl (fun _ _ h _ _ _ => (h.2.1.2 _ (blk_lt bx) (wa.lt.imp id (fun h => by omega))).trans bx) ?_
        rintro v12 H12 ⟨w12, g12, nx12⟩
        try dsimp only at g12 nx12
        have ob12 := g12.oldB wa (by omega)
        have o0 := o0.then ob12 (by omega)
        have z12 := ob12.1
        have bl := (g12.2 _ (blk_lt bl) (by first | exact .inr (by omega) | exact .inl rfl | exact lt12.imp id (fun h => by omega))).trans bl
        have bx := (g12.2 _ (blk_lt bx) (by first | exact .inr (by omega) | exact .inl rfl | exact lt12.imp id (fun h => by omega))).trans bx
        have wa := w12
        have hne2 : vblock v12 ≠ (Array.size H2) := by
          rcases wa.lt with h | h
          · exact absurd (congrArg (fun v => match v with | Value.slice _ n _ => n | _ => 0) h) (by obtain ⟨a, c, hv, _⟩ := wa.val; rw [hv]; simp only [List.length_append, List.length_singleton, show Sc.beg.length = 8 from rfl]; omega)
          · omega
        refine KP.op rfl (fun Hg hg => R.assign rfl rfl) rfl rfl rfl ?_
        refine KP.nil ?_
        refine KQ.normBlock ?_
        refine KQ.seq ?_
        refine KC.region ?_
        refine KL.op ((R.add rfl rfl rfl (by dsimp only [InR]; omega)).val (congrArg (Value.int .i64) (show (k : Int) + 1 = ((k + 1 : Nat) : Int) by omega))) rfl rfl rfl ?_
        refine KL.op (R.move rfl rfl) rfl rfl rfl ?_
        refine KL.nil ?_
        refine KQ.again ((k + 1, v12)) ?_ ?_ ?_
        · exact (Sub.cons rfl (Sub.cons rfl (Ext.sub (by repeat (first | exact Ext.refl _ _ | refine Ext.put rfl ?_ | refine Ext.drop rfl ?_)))))
        · show l.length - (k + 1) < l.length - k; omega
        · exact ⟨by show k + 1 ≤ _; omega, .inl (by have h9 := wa.weak (B' := H.size) (by omega); rw [Sc.body_step (by omega)]; simpa only [List.append_assoc] using h9), hne2, by rw [Sc.lst_step (by omega)]; exact bl, Sc.rise_yes (by omega) hr hc21, o0⟩
    · intro hc14
      try simp only [decide_eq_true_eq, decide_eq_false_iff_not, Bool.not_eq_true', Bool.not_eq_false', Bool.and_eq_true, Bool.or_eq_false_iff] at hc14
      refine KC.exit ?_
      refine KQ.exitThen ?_
      refine KQ.exitThen ?_
      refine KQ.hit ?_
      refine KQ.seq ?_
      refine KC.seq ?_
      refine KC.region ?_
      refine KL.op (R.move rfl rfl) rfl rfl rfl ?_
      refine KL.op (R.assign rfl rfl) rfl rfl rfl ?_
      refine KL.op (R.assign rfl rfl) rfl rfl rfl ?_
      refine KL.nil ?_
      refine KQ.seq ?_
      refine KC.ret ?_
      refine KQ.ofRet ?_
      refine KQ.fin2 Tryd.results13 rfl rfl ?_
      first
        | exact ⟨o0, by rw [Sc.join_no (l := l) (k := k) (by omega) hc21]; rfl⟩
        | exact ⟨o0, by rw [Sc.join_yes (l := l) (k := k) (by omega) hr]; exact ⟨vo, rfl, wo.sl⟩⟩

set_option maxRecDepth 100000 in
set_option maxHeartbeats 4000000 in
theorem RJoin_any {H : Heap} (v : Value) (l : List Sec) (hs : Sl 2 ESec H v l) (hz : (Sc.body l).length ≤ 140737488351232) : Ct Tryd.prog 14 [v] H (fun u H' => Old H H' ∧ Sc.JRes (Sc.join l) (.bool false) (.bool true) u H') := by
  refine Ct.mk Tryd.func14 rfl Tryd.ntmps14 rfl ?_
  intro W0 hW0
  have o0 : Old H H := Old.refl H
  have hll := hs.len
  refine KC.seq ?_
  refine KC.region ?_
  refine KL.op (R.assign rfl rfl) rfl rfl rfl ?_
  refine KL.op (R.assign rfl rfl) rfl rfl rfl ?_
  refine KL.nil ?_
  refine KQ.seq ?_
  refine KC.seq ?_
  refine KC.region ?_
  refine KL.call rfl rfl rfl rfl Tryd.call20 rfl rfl rfl (Begin_any) ?_
  rintro vo H1 ⟨wo, ox⟩
  have zc_H1 := (ox).1
  have o0 := o0.trans ox
  refine KL.op (R.assign rfl rfl) rfl rfl rfl ?_
  refine KL.nil ?_
  refine KQ.seq ?_
  refine KC.seq ?_
  refine KC.seq ?_
  refine KC.region ?_
  refine KL.op (R.assign rfl rfl) rfl rfl rfl ?_
  refine KL.nil ?_
  refine KQ.seq ?_
  refine KC.block ?_
  refine KC.loopD (κ := Nat × Value) [7, 8, 9, 10, 13, 14, 15, 16, 17, 18, 19, 20, 21, 22, 23, 24, 25, 26, 27, 28, 29, 30, 31, 32, 33, 34, 35, 36, 37, 38, 39, 40, 41, 42, 43, 44, 2, 3, 45, 46, 47, 48, 49, 50, 51, 52, 4, 53, 54, 55, 56, 57, 58, 59, 60, 61, 62, 63, 64, 65, 66, 67, 68, 69, 11, 12, 5] (fun k => [(5, .int .i64 (k.1 : Nat)), (4, k.2)]) (fun k Hl => k.1 ≤ l.length ∧ Own 1 (EInt .u8) 5 #[] H.size Hl k.2 (Sc.beg ++ Sc.body (l.take k.1)) ∧ Sc.rise 0 (l.take k.1) = true ∧ Old H Hl) (fun k => l.length - k.1) (0, vo) ?_ ?_ ?_
  · exact (Sub.cons rfl (Sub.cons rfl (Ext.sub (Ext.refl _ _))))
  · exact ⟨Nat.zero_le _, by simpa [Sc.body] using wo, rfl, o0⟩
  · rintro ⟨k, vo⟩ H2 ⟨hk, wo, hr, o0⟩
    have zl_H2 := o0.1
    dsimp only at hk wo hr
    have zl := o0.1
    refine KC.seq ?_
    refine KC.seq ?_
    refine KC.region ?_
    refine KL.op (R.move rfl rfl) rfl rfl rfl ?_
    refine KL.op (R.move rfl rfl) rfl rfl rfl ?_
    refine KL.op (R.lenS rfl Tryd.underlying28 rfl hs) rfl rfl rfl ?_
    refine KL.op (R.lss rfl rfl rfl) rfl rfl rfl ?_
    refine KL.nil ?_
    refine KQ.seq ?_
    refine KC.iteL rfl ?_ ?_
    · intro hc10
      try simp only [decide_eq_true_eq, decide_eq_false_iff_not, Bool.not_eq_true', Bool.not_eq_false', Bool.and_eq_true, Bool.or_eq_false_iff] at hc10
      obtain ⟨u, hcx0, hu, q0⟩ := hs.secAt k (by omega)
      have hcx := o0.cells hcx0
      have q1 := q0
      dsimp only [InR] at q1
      have hbs := Sc.body_bytes (l := l) (k := k) (by omega)
      have hbl := Sc.body_le l (k + 1)
      have hbk := Sc.body_le l k
      have hul := hu.len
      have hal := (Lb.ap_length (z := ((l.getD k default).2.length : Int)) (by omega) (by omega)).2
      have hlp : (k = 0 ∧ Sc.lst 0 (l.take k) = 0) ∨ (0 < k ∧ Sc.lst 0 (l.take k) = (l.getD (k - 1) default).1 ∧ 0 ≤ (l.getD (k - 1) default).1) := by
        rcases Nat.eq_zero_or_pos k with h | h
        · exact .inl ⟨h, by rw [h]; rfl⟩
        · obtain ⟨u3, -, -, q3⟩ := hs.secAt (k - 1) (by omega)
          dsimp only [InR] at q3
          exact .inr ⟨h, Sc.lst_prev h hk, q3.1⟩
      refine KC.skip ?_
      refine KQ.seq ?_
      refine KC.seq ?_
      refine KC.block ?_
      refine KC.seq ?_
      refine KC.seq ?_
      refine KC.quiet (by kernel_rfl) (by kernel_rfl) ?_
      refine KD.op (R.move rfl rfl) rfl rfl rfl ?_
      refine KD.op (R.move rfl rfl) rfl rfl rfl ?_
      refine KD.op (R.index (j := k) rfl Tryd.underlying28 sz51 rfl rfl (hs.old o0) rfl (by omega)) rfl rfl rfl ?_
      refine KD.op ((by first | exact R.fieldAddr rfl Tryd.underlying51 rfl rfl sz5 rfl | exact R.fieldAddrP rfl Tryd.underlying51 rfl rfl sz5 rfl)) rfl rfl rfl ?_
      refine KD.op (R.load rfl Tryd.underlying5 rfl rfl (hcx 0 _ rfl)) rfl rfl rfl ?_
      refine KD.op (R.lss rfl rfl rfl) rfl rfl rfl ?_
      refine KD.op (R.move rfl rfl) rfl rfl rfl ?_
      refine KD.case (d := 19) rfl ?_ ?_
      · intro hg19
        try simp only [decide_eq_true_eq, decide_eq_false_iff_not, Bool.not_eq_true', Bool.not_eq_false', Bool.and_eq_true, Bool.or_eq_false_iff] at hg19
        refine KD.skip rfl rfl rfl ?_
        refine KD.skip rfl rfl rfl ?_
        refine KD.skip rfl rfl rfl ?_
        refine KD.skip rfl rfl rfl ?_
        refine KD.skip rfl rfl rfl ?_
        refine KD.skip rfl rfl rfl ?_
        refine KD.op (R.pick rfl rfl rfl) rfl rfl rfl ?_
        refine KD.op (R.move rfl rfl) rfl rfl rfl ?_
        refine KD.skip rfl rfl rfl ?_
        refine KD.skip rfl rfl rfl ?_
        refine KD.skip rfl rfl rfl ?_
        refine KD.skip rfl rfl rfl ?_
        refine KD.skip rfl rfl rfl ?_
        refine KD.skip rfl rfl rfl ?_
        refine KD.skip rfl rfl rfl ?_
        refine KD.skip rfl rfl rfl ?_
        refine KD.skip rfl rfl rfl ?_
        refine KD.skip rfl rfl rfl ?_
        refine KD.skip rfl rfl rfl ?_
        refine KD.skip rfl rfl rfl ?_
        refine KD.skip rfl rfl rfl ?_
        refine KD.skip rfl rfl rfl ?_
        refine KD.skip rfl rfl rfl ?_
        refine KD.skip rfl rfl rfl ?_
        refine KD.op (R.pick rfl rfl rfl) rfl rfl rfl ?_
        refine KD.nil ?_
        refine KQ.seq ?_
        refine KC.condT rfl ?_
        refine KC.seq ?_
        refine KC.region ?_
        refine KL.op (R.assign rfl rfl) rfl rfl rfl ?_
        refine KL.op (R.assign rfl rfl) rfl rfl rfl ?_
        refine KL.nil ?_
        refine KQ.seq ?_
        refine KC.ret ?_
        refine KQ.retThen ?_
        refine KQ.retBlock ?_
        refine KQ.retThen ?_
        refine KQ.retThen ?_
        refine KQ.retBlock ?_
        refine KQ.retThen ?_
        refine KQ.ofRet ?_
        refine KQ.fin2 Tryd.results14 rfl rfl ?_
        first
          | exact ⟨o0, by rw [Sc.join_yes (l := l) (k := k) (by omega) hr]; exact ⟨vo, rfl, wo.sl (emptyOld _) (by omega)⟩⟩
          | exact ⟨o0, by rw [Sc.join_no (l := l) (k := k) (by omega) (by have h9 := hlp; omega)]; rfl⟩
      · intro hg19
        try simp only [decide_eq_true_eq, decide_eq_false_iff_not, Bool.not_eq_true', Bool.not_eq_false', Bool.and_eq_true, Bool.or_eq_false_iff] at hg19
        refine KD.op (R.move rfl rfl) rfl rfl rfl ?_
        refine KD.op (R.move rfl rfl) rfl rfl rfl ?_
        refine KD.op (R.index (j := k) rfl Tryd.underlying28 sz51 rfl rfl (hs.old o0) rfl (by omega)) rfl rfl rfl ?_
        refine KD.op ((by first | exact R.fieldAddr rfl Tryd.underlying51 rfl rfl sz5 rfl | exact R.fieldAddrP rfl Tryd.underlying51 rfl rfl sz5 rfl)) rfl rfl rfl ?_
        refine KD.op (R.load rfl Tryd.underlying5 rfl rfl (hcx 0 _ rfl)) rfl rfl rfl ?_
        refine KD.op (R.gtr rfl rfl rfl) rfl rfl rfl ?_
        refine KD.op (R.pick rfl rfl rfl) rfl rfl rfl ?_
        refine KD.op (R.move rfl rfl) rfl rfl rfl ?_
        refine KD.case (d := 27) rfl ?_ ?_
        · intro hg27
          try simp only [decide_eq_true_eq, decide_eq_false_iff_not, Bool.not_eq_true', Bool.not_eq_false', Bool.and_eq_true, Bool.or_eq_false_iff] at hg27
          refine KD.skip rfl rfl rfl ?_
          refine KD.skip rfl rfl rfl ?_
          refine KD.skip rfl rfl rfl ?_
          refine KD.skip rfl rfl rfl ?_
          refine KD.skip rfl rfl rfl ?_
          refine KD.skip rfl rfl rfl ?_
          refine KD.skip rfl rfl rfl ?_
          refine KD.skip rfl rfl rfl ?_
          refine KD.skip rfl rfl rfl ?_
          refine KD.skip rfl rfl rfl ?_
          refine KD.skip rfl rfl rfl ?_
          refine KD.skip rfl rfl rfl ?_
          refine KD.skip rfl rfl rfl ?_
          refine KD.skip rfl rfl rfl ?_
          refine KD.skip rfl rfl rfl ?_
          refine KD.skip rfl rfl rfl ?_
          refine KD.op (R.pick rfl rfl rfl) rfl rfl rfl ?_
          refine KD.nil ?_
          refine KQ.seq ?_
          refine KC.condT rfl ?_
          refine KC.seq ?_
          refine KC.region ?_
          refine KL.op (R.assign rfl rfl) rfl rfl rfl ?_
          refine KL.op (R.assign rfl rfl) rfl rfl rfl ?_
          refine KL.nil ?_
          refine KQ.seq ?_
          refine KC.ret ?_
          refine KQ.retThen ?_
          refine KQ.retBlock ?_
          refine KQ.retThen ?_
          refine KQ.retThen ?_
          refine KQ.retBlock ?_
          refine KQ.retThen ?_
          refine KQ.ofRet ?_
          refine KQ.fin2 Tryd.results14 rfl rfl ?_
          first
            | exact ⟨o0, by rw [Sc.join_yes (l := l) (k := k) (by omega) hr]; exact ⟨vo, rfl, wo.sl (emptyOld _) (by omega)⟩⟩
            | exact ⟨o0, by rw [Sc.join_no (l := l) (k := k) (by omega) (by have h9 := hlp; omega)]; rfl⟩
        · intro hg27
          try simp only [decide_eq_true_eq, decide_eq_false_iff_not, Bool.not_eq_true', Bool.not_eq_false', Bool.and_eq_true, Bool.or_eq_false_iff] at hg27
          refine KD.op (R.move rfl rfl) rfl rfl rfl ?_
          refine KD.op (R.gtr rfl rfl rfl) rfl rfl rfl ?_
          refine KD.op (R.move rfl rfl) rfl rfl rfl ?_
          refine KD.case (d := 30) rfl ?_ ?_
          · intro hg30
            try simp only [decide_eq_true_eq, decide_eq_false_iff_not, Bool.not_eq_true', Bool.not_eq_false', Bool.and_eq_true, Bool.or_eq_false_iff] at hg30
            refine KD.op (R.move rfl rfl) rfl rfl rfl ?_
            refine KD.op (R.move rfl rfl) rfl rfl rfl ?_
            refine KD.op (R.index (j := k) rfl Tryd.underlying28 sz51 rfl rfl (hs.old o0) rfl (by omega)) rfl rfl rfl ?_
            refine KD.op ((by first | exact R.fieldAddr rfl Tryd.underlying51 rfl rfl sz5 rfl | exact R.fieldAddrP rfl Tryd.underlying51 rfl rfl sz5 rfl)) rfl rfl rfl ?_
            refine KD.op (R.load rfl Tryd.underlying5 rfl rfl (hcx 0 _ rfl)) rfl rfl rfl ?_
            refine KD.op (R.move rfl rfl) rfl rfl rfl ?_
            refine KD.op (R.move rfl rfl) rfl rfl rfl ?_
            refine KD.op ((R.sub rfl rfl rfl (by dsimp only [InR]; omega)).val (congrArg (Value.int .i64) (show _ = ((k - 1 : Nat) : Int) from by omega))) rfl rfl rfl ?_
            obtain ⟨u2, hcy0, -, -⟩ := hs.secAt (k - 1) (by omega)
            have hcy := o0.cells hcy0
            refine KD.op (R.index (j := (k - 1)) rfl Tryd.underlying28 sz51 rfl rfl (hs.old o0) rfl (by omega)) rfl rfl rfl ?_
            refine KD.op ((by first | exact R.fieldAddr rfl Tryd.underlying51 rfl rfl sz5 rfl | exact R.fieldAddrP rfl Tryd.underlying51 rfl rfl sz5 rfl)) rfl rfl rfl ?_
            refine KD.op (R.load rfl Tryd.underlying5 rfl rfl (hcy 0 _ rfl)) rfl rfl rfl ?_
            refine KD.op (R.leq rfl rfl rfl) rfl rfl rfl ?_
            refine KD.op (R.pick rfl rfl rfl) rfl rfl rfl ?_
            refine KD.op (R.pick rfl rfl rfl) rfl rfl rfl ?_
            refine KD.nil ?_
            refine KQ.seq ?_
            refine KC.iteL rfl ?_ ?_
            · intro hc44
              try simp only [decide_eq_true_eq, decide_eq_false_iff_not, Bool.not_eq_true', Bool.not_eq_false', Bool.and_eq_true, Bool.or_eq_false_iff] at hc44
              refine KC.seq ?_
              refine KC.region ?_
              refine KL.op (R.assign rfl rfl) rfl rfl rfl ?_
              refine KL.op (R.assign rfl rfl) rfl rfl rfl ?_
              refine KL.nil ?_
              refine KQ.seq ?_
              refine KC.ret ?_
              refine KQ.retThen ?_
              refine KQ.retBlock ?_
              refine KQ.retThen ?_
              refine KQ.retThen ?_
              refine KQ.retBlock ?_
              refine KQ.retThen ?_
              refine KQ.ofRet ?_
              refine KQ.fin2 Tryd.results14 rfl rfl ?_
              first
                | exact ⟨o0, by rw [Sc.join_yes (l := l) (k := k) (by omega) hr]; exact ⟨vo, rfl, wo.sl (emptyOld _) (by omega)⟩⟩
                | exact ⟨o0, by rw [Sc.join_no (l := l) (k := k) (by omega) (by have h9 := hlp; omega)]; rfl⟩
            · intro hc44
              try simp only [decide_eq_true_eq, decide_eq_false_iff_not, Bool.not_eq_true', Bool.not_eq_false', Bool.and_eq_true, Bool.or_eq_false_iff] at hc44
              refine KC.skip ?_
              refine KQ.seq ?_
              refine KC.seq ?_
              refine KC.region ?_
              refine KL.op (R.move rfl rfl) rfl rfl rfl ?_
              refine KL.op (R.move rfl rfl) rfl rfl rfl ?_
              refine KL.op (R.move rfl rfl) rfl rfl rfl ?_
              refine KL.op (R.index (j := k) rfl Tryd.underlying28 sz51 rfl rfl (hs.old o0) rfl (by omega)) rfl rfl rfl ?_
              refine KL.op ((by first | exact R.fieldAddr rfl Tryd.underlying51 rfl rfl sz5 rfl | exact R.fieldAddrP rfl Tryd.underlying51 rfl rfl sz5 rfl)) rfl rfl rfl ?_
              refine KL.op (R.load rfl Tryd.underlying5 rfl rfl ((o0.cells hcx0) 0 _ rfl)) rfl rfl rfl ?_
              refine KL.opM (M.lit rfl Tryd.underlying22 zs5 (by decide) rfl rfl rfl) rfl rfl rfl ?_
              rintro _ H3 ⟨rfl, n3⟩
              have z3 := n3.2.1
              have o0 := o0.trans n3.1
              have wo := wo.old n3.1
              have b3 := n3.2.2
              have s1 : Sl 1 (EInt .u8) H3 _ [(l.getD k default).1] := Sl.lits (l := [(l.getD k default).1]) n3 rfl (by simp) (by intro x hx; simp only [List.mem_singleton] at hx; subst hx; exact q0)
              have lt4 := wo.lt
              refine KL.opM (M.append rfl Tryd.underlying22 inf5 rfl (by decide) rfl rfl wo (by exact s1) (fun _ _ h _ => h) (by omega) (by simp only [List.length_append, List.length_singleton, show Sc.beg.length = 8 from rfl]; omega) (by unfold maxLen; simp only [List.length_append, List.length_singleton, show Sc.beg.length = 8 from rfl]; omega)) rfl rfl rfl ?_
              rintro v4 H4 ⟨w4, g4⟩
              try dsimp only at g4
              have ob4 := g4.oldB wo (by omega)
              have o0 := o0.then ob4 (by omega)
              have z4 := ob4.1
              have wo := w4
              refine KL.op (R.assign rfl rfl) rfl rfl rfl ?_
              refine KL.nil ?_
              refine KQ.seq ?_
              refine KC.seq ?_
              refine KC.region ?_
              refine KL.op (R.move rfl rfl) rfl rfl rfl ?_
              refine KL.op (R.move rfl rfl) rfl rfl rfl ?_
              refine KL.op (R.move rfl rfl) rfl rfl rfl ?_
              refine KL.op (R.index (j := k) rfl Tryd.underlying28 sz51 rfl rfl (hs.old o0) rfl (by omega)) rfl rfl rfl ?_
              refine KL.op ((by first | exact R.fieldAddr rfl Tryd.underlying51 rfl rfl sz22 rfl | exact R.fieldAddrP rfl Tryd.underlying51 rfl rfl sz22 rfl)) rfl rfl rfl ?_
              refine KL.op (R.load rfl Tryd.underlying22 rfl rfl ((o0.cells hcx0) 1 _ rfl)) rfl rfl rfl ?_
              refine KL.op (R.lenS rfl Tryd.underlying22 rfl hu) rfl rfl rfl ?_
              refine KL.op (R.convI rfl Tryd.underlying3 Tryd.underlying43 rfl (by dsimp only [InR]; omega)) rfl rfl rfl ?_
              refine KL.call rfl rfl rfl rfl Tryd.call27 rfl rfl rfl (Fewest_k _ (by omega) (by omega)) ?_
              rintro vf H5 ⟨wf, ox⟩
              have zc_H5 := (ox).1
              have o0 := o0.trans ox
              have wo := wo.old ox
              have sf := wf.sl (emptyOld _) (by omega)
              have lt6 := wo.lt
              refine KL.opM (M.append rfl Tryd.underlying22 inf5 rfl (by decide) rfl rfl wo (by exact sf) (fun _ _ h _ => h) (by omega) (by simp only [List.length_append, List.length_singleton, show Sc.beg.length = 8 from rfl]; omega) (by unfold maxLen; simp only [List.length_append, List.length_singleton, show Sc.beg.length = 8 from rfl]; omega)) rfl rfl rfl ?_
              rintro v6 H6 ⟨w6, g6⟩
              try dsimp only at g6
              have ob6 := g6.oldB wo (by omega)
              have o0 := o0.then ob6 (by omega)
              have z6 := ob6.1
              have wo := w6
              refine KL.op (R.assign rfl rfl) rfl rfl rfl ?_
              refine KL.nil ?_
              refine KQ.seq ?_
              refine KC.region ?_
              refine KL.op (R.move rfl rfl) rfl rfl rfl ?_
              refine KL.op (R.move rfl rfl) rfl rfl rfl ?_
              refine KL.op (R.move rfl rfl) rfl rfl rfl ?_
              refine KL.op (R.index (j := k) rfl Tryd.underlying28 sz51 rfl rfl (hs.old o0) rfl (by omega)) rfl rfl rfl ?_
              refine KL.op ((by first | exact R.fieldAddr rfl Tryd.underlying51 rfl rfl sz22 rfl | exact R.fieldAddrP rfl Tryd.underlying51 rfl rfl sz22 rfl)) rfl rfl rfl ?_
              refine KL.op (R.load rfl Tryd.underlying22 rfl rfl ((o0.cells hcx0) 1 _ rfl)) rfl rfl rfl ?_
              have lt7 := wo.lt
              refine KL.opM (M.append rfl Tryd.underlying22 inf5 rfl (by decide) rfl rfl wo (by exact (hu.old o0)) (fun _ _ h _ => h) (by omega) (by simp only [List.length_append, List.length_singleton, show Sc.beg.length = 8 from rfl]; omega) (by unfold maxLen; simp only [List.length_append, List.length_singleton, show Sc.beg.length = 8 from rfl]; omega)) rfl rfl rfl ?_
              rintro v7 H7 ⟨w7, g7⟩
              try dsimp only at g7
              have ob7 := g7.oldB wo (by omega)
              have o0 := o0.then ob7 (by omega)
              have z7 := ob7.1
              have wo := w7
              refine KL.op (R.assign rfl rfl) rfl rfl rfl ?_
              refine KL.nil ?_
              refine KQ.normBlock ?_
              refine KQ.seq ?_
              refine KC.region ?_
              refine KL.op (R.move rfl rfl) rfl rfl rfl ?_
              refine KL.op ((R.add rfl rfl rfl (by dsimp only [InR]; omega)).val (congrArg (Value.int .i64) (show (k : Int) + 1 = ((k + 1 : Nat) : Int) by omega))) rfl rfl rfl ?_
              refine KL.op (R.assign rfl rfl) rfl rfl rfl ?_
              refine KL.nil ?_
              refine KQ.again ((k + 1, v7)) ?_ ?_ ?_
              · exact (Sub.cons rfl (Sub.cons rfl (Ext.sub (by repeat (first | exact Ext.refl _ _ | refine Ext.put rfl ?_ | refine Ext.drop rfl ?_)))))
              · show l.length - (k + 1) < l.length - k; omega
              · exact ⟨by show k + 1 ≤ _; omega, by rw [Sc.body_step (by omega)]; simpa only [List.append_assoc] using wo, Sc.rise_yes (by omega) hr (by have h9 := hlp; omega), o0⟩
          · intro hg30
            try simp only [decide_eq_true_eq, decide_eq_false_iff_not, Bool.not_eq_true', Bool.not_eq_false', Bool.and_eq_true, Bool.or_eq_false_iff] at hg30
            refine KD.skip rfl rfl rfl ?_
            refine KD.skip rfl rfl rfl ?_
            refine KD.skip rfl rfl rfl ?_
            refine KD.skip rfl rfl rfl ?_
            refine KD.skip rfl rfl rfl ?_
            refine KD.skip rfl rfl rfl ?_
            refine KD.skip rfl rfl rfl ?_
            refine KD.skip rfl rfl rfl ?_
            refine KD.skip rfl rfl rfl ?_
            refine KD.skip rfl rfl rfl ?_
            refine KD.skip rfl rfl rfl ?_
            refine KD.skip rfl rfl rfl ?_
            refine KD.op (R.pick rfl rfl rfl) rfl rfl rfl ?_
            refine KD.op (R.pick rfl rfl rfl) rfl rfl rfl ?_
            refine KD.nil ?_
            refine KQ.seq ?_
            refine KC.condF rfl ?_
            refine KC.skip ?_
            refine KQ.seq ?_
            refine KC.seq ?_
            refine KC.region ?_
            refine KL.op (R.move rfl rfl) rfl rfl rfl ?_
            refine KL.op (R.move rfl rfl) rfl rfl rfl ?_
            refine KL.op (R.move rfl rfl) rfl rfl rfl ?_
            refine KL.op (R.index (j := k) rfl Tryd.underlying28 sz51 rfl rfl (hs.old o0) rfl (by omega)) rfl rfl rfl ?_
            refine KL.op ((by first | exact R.fieldAddr rfl Tryd.underlying51 rfl rfl sz5 rfl | exact R.fieldAddrP rfl Tryd.underlying51 rfl rfl sz5 rfl)) rfl rfl rfl ?_
            refine KL.op (R.load rfl Tryd.underlying5 rfl rfl ((o0.cells hcx0) 0 _ rfl)) rfl rfl rfl ?_
            refine KL.opM (M.lit rfl Tryd.underlying22 zs5 (by decide) rfl rfl rfl) rfl rfl rfl ?_
            rintro _ H8 ⟨rfl, n8⟩
            have z8 := n8.2.1
            have o0 := o0.trans n8.1
            have wo := wo.old n8.1
            have b8 := n8.2.2
            have s1 : Sl 1 (EInt .u8) H8 _ [(l.getD k default).1] := Sl.lits (l := [(l.getD k default).1]) n8 rfl (by simp) (by intro x hx; simp only [List.mem_singleton] at hx; subst hx; exact q0)
            have lt9 := wo.lt
            refine KL.opM (M.append rfl Tryd.underlying22 inf5 rfl (by decide) rfl rfl wo (by exact s1) (fun _ _ h _ => h) (by omega) (by simp only [List.length_append, List.length_singleton, show Sc.beg.length = 8 from rfl]; omega) (by unfold maxLen; simp only [List.length_append, List.length_singleton, show Sc.beg.length = 8 from rfl]; omega)) rfl rfl rfl ?_
            rintro v9 H9 ⟨w9, g9⟩
            try dsimp only at g9
            have ob9 := g9.oldB wo (by omega)
            have o0 := o0.then ob9 (by omega)
            have z9 := ob9.1
            have wo := w9
            refine KL.op (R.assign rfl rfl) rfl rfl rfl ?_
            refine KL.nil ?_
            refine KQ.seq ?_
            refine KC.seq ?_
            refine KC.region ?_
            refine KL.op (R.move rfl rfl) rfl rfl rfl ?_
            refine KL.op (R.move rfl rfl) rfl rfl rfl ?_
            refine KL.op (R.move rfl rfl) rfl rfl rfl ?_
            refine KL.op (R.index (j := k) rfl Tryd.underlying28 sz51 rfl rfl (hs.old o0) rfl (by omega)) rfl rfl rfl ?_
            refine KL.op ((by first | exact R.fieldAddr rfl Tryd.underlying51 rfl rfl sz22 rfl | exact R.fieldAddrP rfl Tryd.underlying51 rfl rfl sz22 rfl)) rfl rfl rfl ?_
            refine KL.op (R.load rfl Tryd.underlying22 rfl rfl ((o0.cells hcx0) 1 _ rfl)) rfl rfl rfl ?_
            refine KL.op (R.lenS rfl Tryd.underlying22 rfl hu) rfl rfl rfl ?_
            refine KL.op (R.convI rfl Tryd.underlying3 Tryd.underlying43 rfl (by dsimp only [InR]; omega)) rfl rfl rfl ?_
            refine KL.call rfl rfl rfl rfl Tryd.call27 rfl rfl rfl (Fewest_k _ (by omega) (by omega)) ?_
            rintro vf H10 ⟨wf, ox⟩
            have zc_H10 := (ox).1
            have o0 := o0.trans ox
            have wo := wo.old ox
            have sf := wf.sl (emptyOld _) (by omega)
            have lt11 := wo.lt
            refine KL.opM (M.append rfl Tryd.underlying22 inf5 rfl (by decide) rfl rfl wo (by exact sf) (fun _ _ h _ => h) (by omega) (by simp only [List.length_append, List.length_singleton, show Sc.beg.length = 8 from rfl]; omega) (by unfold maxLen; simp only [List.length_append, List.length_singleton, show Sc.beg.length = 8 from rfl]; omega)) rfl rfl rfl ?_
            rintro v11 H11 ⟨w11, g11⟩
            try dsimp only at g11
            have ob11 := g11.oldB wo (by omega)
            have o0 := o0.then ob11 (by omega)
            have z11 := ob11.1
            have wo := w11
            refine KL.op (R.assign rfl rfl) rfl rfl rfl ?_
            refine KL.nil ?_
            refine KQ.seq ?_
            refine KC.region ?_
            refine KL.op (R.move rfl rfl) rfl rfl rfl ?_
            refine KL.op (R.move rfl rfl) rfl rfl rfl ?_
            refine KL.op (R.move rfl rfl) rfl rfl rfl ?_
            refine KL.op (R.index (j := k) rfl Tryd.underlying28 sz51 rfl rfl (hs.old o0) rfl (by omega)) rfl rfl rfl ?_
            refine KL.op ((by first | exact R.fieldAddr rfl Tryd.underlying51 rfl rfl sz22 rfl | exact R.fieldAddrP rfl Tryd.underlying51 rfl rfl sz22 rfl)) rfl rfl rfl ?_
            refine KL.op (R.load rfl Tryd.underlying22 rfl rfl ((o0.cells hcx0) 1 _ rfl)) rfl rfl rfl ?_
            have lt12 := wo.lt
            refine KL.opM (M.append rfl Tryd.underlying22 inf5 rfl (by decide) rfl rfl wo (by exact (hu.old o0)) (fun _ _ h _ => h) (by omega) (by simp only [List.length_append, List.length_singleton, show Sc.beg.length = 8 from rfl]; omega) (by unfold maxLen; simp only [List.length_append, List.length_singleton, show Sc.beg.length = 8 from rfl]; omega)) rfl rfl rfl ?_
            rintro v12 H12 ⟨w12, g12⟩
            try dsimp only at g12
            have ob12 := g12.oldB wo (by omega)
            have o0 := o0.then ob12 (by omega)
            have z12 := ob12.1
            have wo := w12
            refine KL.op (R.assign rfl rfl) rfl rfl rfl ?_
            refine KL.nil ?_
            refine KQ.normBlock ?_
            refine KQ.seq ?_
            refine KC.region ?_
            refine KL.op (R.move rfl rfl) rfl rfl rfl ?_
            refine KL.op ((R.add rfl rfl rfl (by dsimp only [InR]; omega)).val (congrArg (Value.int .i64) (show (k : Int) + 1 = ((k + 1 : Nat) : Int) by omega))) rfl rfl rfl ?_
            refine KL.op (R.assign rfl rfl) rfl rfl rfl ?_
            refine KL.nil ?_
            refine KQ.again ((k + 1, v12)) ?_ ?_ ?_
            · exact (Sub.cons rfl (Sub.cons rfl (Ext.sub (by repeat (first | exact Ext.refl _ _ | refine Ext.put rfl ?_ | refine Ext.drop rfl ?_)))))
            · show l.length - (k + 1) < l.length - k; omega
            · exact ⟨by show k + 1 ≤ _; omega, by rw [Sc.body_step (by omega)]; simpa only [List.append_assoc] using wo, Sc.rise_yes (by omega) hr (by have h9 := hlp; omega), o0⟩
    · intro hc10
      try simp only [decide_eq_true_eq, decide_eq_false_iff_not, Bool.not_eq_true', Bool.not_eq_false', Bool.and_eq_true, Bool.or_eq_false_iff] at hc10
      refine KC.exit ?_
      refine KQ.exitThen ?_
      refine KQ.exitThen ?_
      refine KQ.hit ?_
      refine KQ.seq ?_
      refine KC.seq ?_
      refine KC.region ?_
      refine KL.op (R.move rfl rfl) rfl rfl rfl ?_
      refine KL.op (R.assign rfl rfl) rfl rfl rfl ?_
      refine KL.op (R.assign rfl rfl) rfl rfl rfl ?_
      refine KL.nil ?_
      refine KQ.seq ?_
      refine KC.ret ?_
      refine KQ.ofRet ?_
      refine KQ.fin2 Tryd.results14 rfl rfl ?_
      first
        | exact ⟨o0, by rw [Sc.join_yes (l := l) (k := k) (by omega) hr]; exact ⟨vo, rfl, wo.sl (emptyOld _) (by omega)⟩⟩
        | exact ⟨o0, by rw [Sc.join_no (l := l) (k := k) (by omega) (by have h9 := hlp; omega)]; rfl⟩

set_option maxRecDepth 100000 in
set_option maxHeartbeats 4000000 in
theorem others_any {H : Heap} (v : Value) (l : List Sec) (hs : Sl 2 ESec H v l) (hz : l.length ≤ 100000) : Ct Tryd.prog 15 [v] H (fun u H' => Sl 2 ESec H' u l ∧ Old H H') := by
  refine Ct.mk Tryd.func15 rfl Tryd.ntmps15 rfl ?_
  intro W0 hW0
  have o0 : Old H H := Old.refl H
  refine KC.seq ?_
  refine KC.region ?_
  refine KL.op (R.assign rfl rfl) rfl rfl rfl ?_
  refine KL.nil ?_
  refine KQ.seq ?_
  refine KC.seq ?_
  refine KC.region ?_
  refine KL.op (R.assign rfl rfl) rfl rfl rfl ?_
  refine KL.nil ?_
  refine KQ.seq ?_
  refine KC.seq ?_
  refine KC.seq ?_
  refine KC.region ?_
  refine KL.op (R.move rfl rfl) rfl rfl rfl ?_
  refine KL.op (R.lenS rfl Tryd.underlying24 rfl hs) rfl rfl rfl ?_
  refine KL.op (R.move rfl rfl) rfl rfl rfl ?_
  refine KL.nil ?_
  refine KQ.seq ?_
  refine KC.block ?_
  refine KC.loopD (κ := Nat × Value) [9, 10, 11, 5, 12, 13, 14, 15, 3, 16, 8] (fun k => [(8, .int .i64 (k.1 : Nat)), (3, k.2)]) (fun k Hl => k.1 ≤ l.length ∧ Own 2 (EFix ESec H) 51 #[] H.size Hl k.2 (l.take k.1) ∧ Old H Hl) (fun k => l.length - k.1) (0, .slice none 0 0) ?_ ?_ ?_
  · exact (Sub.cons rfl (Sub.cons rfl (Ext.sub (Ext.refl _ _))))
  · exact ⟨Nat.zero_le _, Own.nil _ _ _ _ _ _, o0⟩
  · rintro ⟨k, vo⟩ H1 ⟨hk, wo, o0⟩
    have zl_H1 := o0.1
    dsimp only at hk wo
    have zl := o0.1
    have hvo := wo.lt
    refine KC.seq ?_
    refine KC.region ?_
    refine KL.op (R.lss rfl rfl rfl) rfl rfl rfl ?_
    refine KL.nil ?_
    refine KQ.seq ?_
    refine KC.seq ?_
    refine KC.iteL rfl ?_ ?_
    · intro hc9
      try simp only [decide_eq_true_eq, decide_eq_false_iff_not, Bool.not_eq_true', Bool.not_eq_false', Bool.and_eq_true, Bool.or_eq_false_iff] at hc9
      obtain ⟨u, hcx, hu, q0⟩ := hs.secAt k (by omega)
      refine KC.skip ?_
      refine KQ.seq ?_
      refine KC.seq ?_
      refine KC.block ?_
      refine KC.seq ?_
      refine KC.region ?_
      refine KL.op (R.index (j := k) rfl Tryd.underlying24 sz35 rfl rfl (hs.old o0) rfl (by omega)) rfl rfl rfl ?_
      refine KL.op (R.loadAgg rfl Tryd.underlying35 rfl sz35 rfl (o0.cells hcx) rfl) rfl rfl rfl ?_
      refine KL.opM (M.alloc rfl zr35 rfl) rfl rfl rfl ?_
      rintro _ H2 ⟨rfl, n2⟩
      have z2 := n2.2.1
      have o0 := o0.trans n2.1
      have wo := wo.old n2.1
      have b2 := n2.2.2
      have bx := b2
      refine KL.opS (S.storeAgg rfl sz35 rfl rfl (rfl) (by intro q hq; simp only [List.mem_cons, List.not_mem_nil, or_false] at hq; rcases hq with rfl | rfl <;> first | rfl | exact hu.one) bx (by simp)) rfl rfl ?_
      rintro H3 ⟨u3, b3⟩
      have o0 := o0.upd u3 (by omega)
      have zu3 := u3.1
      have wo := wo.upd u3 (by first | exact .inr (by omega) | exact hvo.imp id (fun h => by omega) | exact wo.lt.imp id (fun h => by omega))
      have bx := b3
      refine KL.nil ?_
      refine KQ.seq ?_
      refine KC.region ?_
      refine KL.op (R.move rfl rfl) rfl rfl rfl ?_
      refine KL.op (R.loadAgg rfl Tryd.underlying35 rfl sz35 rfl (by first | exact cells_of bx | assumption) rfl) rfl rfl rfl ?_
      refine KL.opM (M.lit rfl Tryd.underlying28 zs51 (by decide) rfl rfl rfl) rfl rfl rfl ?_
      rintro _ H4 ⟨rfl, n4⟩
      have z4 := n4.2.1
      have o0 := o0.trans n4.1
      have wo := wo.old n4.1
      have bx := (n4.1).blk bx
      have b4 := n4.2.2
      have se : Sl 2 (EFix ESec H) H4 _ [(l.getD k default)] := Sl.lit1N n4 rfl (by decide) ⟨u, rfl, hu, q0⟩
      have lt5 := wo.lt
      refine KL.opM (M.append rfl Tryd.underlying28 inf51 rfl (by decide) rfl rfl wo (by exact se) (fun _ _ h _ => h) (by omega) (by simp; omega) (by unfold maxLen; simp; omega)) rfl rfl rfl ?_
      rintro v5 H5 ⟨w5, g5⟩
      try dsimp only at g5
      have ob5 := g5.oldB wo (by omega)
      have o0 := o0.then ob5 (by omega)
      have z5 := ob5.1
      have bx := (g5.2 _ (blk_lt bx) (by first | exact .inr (by omega) | exact .inl rfl | exact hvo.imp id (fun h => by omega) | exact lt5.imp id (fun h => by omega))).trans bx
      have wo := w5
      refine KL.op (R.assign rfl rfl) rfl rfl rfl ?_
      refine KL.nil ?_
      refine KQ.normBlock ?_
      refine KQ.seq ?_
      refine KC.region ?_
      refine KL.op ((R.add rfl rfl rfl (by dsimp only [InR]; omega)).val (congrArg (Value.int .i64) (show (k : Int) + 1 = ((k + 1 : Nat) : Int) by omega))) rfl rfl rfl ?_
      refine KL.op (R.move rfl rfl) rfl rfl rfl ?_
      refine KL.nil ?_
      refine KQ.again ((k + 1, v5)) ?_ ?_ ?_
      · exact (Sub.cons rfl (Sub.cons rfl (Ext.sub (by repeat (first | exact Ext.refl _ _ | refine Ext.put rfl ?_ | refine Ext.drop rfl ?_)))))
      · show l.length - (k + 1) < l.length - k; omega
      · exact ⟨by show k + 1 ≤ _; omega, by rw [take_succ_getD (by omega)]; exact wo, o0⟩
    · intro hc9
      try simp only [decide_eq_true_eq, decide_eq_false_iff_not, Bool.not_eq_true', Bool.not_eq_false', Bool.and_eq_true, Bool.or_eq_false_iff] at hc9
      refine KC.exit ?_
      refine KQ.exitThen ?_
      refine KQ.exitThen ?_
      refine KQ.hit ?_
      refine KQ.seq ?_
      refine KC.seq ?_
      refine KC.region ?_
      refine KL.op (R.move rfl rfl) rfl rfl rfl ?_
      refine KL.op (R.assign rfl rfl) rfl rfl rfl ?_
      refine KL.nil ?_
      refine KQ.seq ?_
      refine KC.ret ?_
      refine KQ.ofRet ?_
      refine KQ.fin1 Tryd.results15 rfl ?_
      exact ⟨by rw [List.take_of_length_le (by omega)] at wo; exact (wo.sl (emptyOld _) (by omega)).unfix o0, o0⟩

end Go.Proofs.YtnbdadjomnpcgaaDoor
