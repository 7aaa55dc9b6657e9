/- The small examples of sections; SectSplits and SectJoins, walked. No condition but that the library tables are laid. -/
import Derived.Test.YtnbdadjomnpcgaaDoorSectC
namespace Go.Proofs.YtnbdadjomnpcgaaDoor
open Go Go.RowKit
set_option linter.unusedVariables false
set_option linter.unusedSimpArgs false
set_option linter.unnecessarySimpa false

theorem Split_is {H : Heap} (v : Value) (l : List Int) (hs : Sl 1 (EInt .u8) H v l) (hT : TabU H) (hl : l.length ≤ 140737488351232) {o : Option (List Sec)} (e : Sc.split l = o) : Ct Tryd.prog 9 [v] H (fun u H' => Old H H' ∧ Sc.Res o (.int .i64 60) (.int .i64 0) u H') := by
  have := Split_any v l hs hT hl; rw [e] at this; exact this
theorem RSplit_is {H : Heap} (v : Value) (l : List Int) (hs : Sl 1 (EInt .u8) H v l) (hl : l.length ≤ 100000) {o : Option (List Sec)} (e : Sc.split l = o) : Ct Tryd.prog 10 [v] H (fun u H' => Old H H' ∧ Sc.Res o (.bool false) (.bool true) u H') := by
  have := RSplit_any v l hs hl; rw [e] at this; exact this
theorem Join_is {H : Heap} (v : Value) (l : List Sec) (hs : Sl 2 ESec H v l) (hz : (Sc.body l).length ≤ 140737488351232) {o : Option (List Int)} (e : Sc.join l = o) : Ct Tryd.prog 13 [v] H (fun u H' => Old H H' ∧ Sc.JRes o (.int .i64 2) (.int .i64 0) u H') := by
  have := Join_any v l hs hz; rw [e] at this; exact this
theorem RJoin_is {H : Heap} (v : Value) (l : List Sec) (hs : Sl 2 ESec H v l) (hz : (Sc.body l).length ≤ 140737488351232) {o : Option (List Int)} (e : Sc.join l = o) : Ct Tryd.prog 14 [v] H (fun u H' => Old H H' ∧ Sc.JRes o (.bool false) (.bool true) u H') := by
  have := RJoin_any v l hs hz; rw [e] at this; exact this
theorem Split_or {H : Heap} (v : Value) (l : List Int) (hs : Sl 1 (EInt .u8) H v l) (hT : TabU H) (hl : l.length ≤ 140737488351232) : Ct Tryd.prog 9 [v] H (fun u H' => Old H H' ∧ ((Sc.split l = none ∧ u = .tuple #[.slice none 0 0, .int .i64 60]) ∨ ∃ m vo, Sc.split l = some m ∧ u = .tuple #[vo, .int .i64 0] ∧ Sl 2 ESec H' vo m)) := by
  cases h : Sc.split l with
  | none => exact (Split_is v l hs hT hl h).mono fun u H' h2 => ⟨h2.1, .inl ⟨rfl, h2.2⟩⟩
  | some m => exact (Split_is v l hs hT hl h).mono fun u H' ⟨h1, vo, h2, h3⟩ => ⟨h1, .inr ⟨m, vo, rfl, h2, h3⟩⟩
theorem Join_or {H : Heap} (v : Value) (l : List Sec) (hs : Sl 2 ESec H v l) (hz : (Sc.body l).length ≤ 140737488351232) : Ct Tryd.prog 13 [v] H (fun u H' => Old H H' ∧ ((Sc.join l = none ∧ u = .tuple #[.slice none 0 0, .int .i64 2]) ∨ ∃ m vo, Sc.join l = some m ∧ u = .tuple #[vo, .int .i64 0] ∧ Sl 1 (EInt .u8) H' vo m)) := by
  cases h : Sc.join l with
  | none => exact (Join_is v l hs hz h).mono fun u H' h2 => ⟨h2.1, .inl ⟨rfl, h2.2⟩⟩
  | some m => exact (Join_is v l hs hz h).mono fun u H' ⟨h1, vo, h2, h3⟩ => ⟨h1, .inr ⟨m, vo, rfl, h2, h3⟩⟩
theorem getD_bd {l : List Sec} {b : Nat} (hb : ∀ s ∈ l, s.2.length ≤ b) (k : Nat) (h : k < l.length) : (l.getD k default).2.length ≤ b := by
  rw [List.getD_eq_getElem?_getD, List.getElem?_eq_getElem h]; exact hb _ (List.getElem_mem h)
theorem Sc.len_wt (l : List Sec) : l.length ≤ Sc.wt l := by
  induction l with
  | nil => simp
  | cons s l ih => simp only [Sc.wt, List.length_cons]; omega
theorem Sc.no3 : ∀ k, k < 3 → Sc.split (Sc.beg ++ ([[3, 0, 3, 0], [12, 0], [0, 0]] : List (List Int)).getD k default) = none ∧ (([[3, 0, 3, 0], [12, 0], [0, 0]] : List (List Int)).getD k default).length ≤ 4 := by decide +kernel

set_option maxRecDepth 100000 in
set_option maxHeartbeats 4000000 in
theorem known_any {H : Heap} (hT : TabU H) : Ct Tryd.prog 8 [] H (fun u H' => u = .bool true ∧ Old H H') := by
  refine Ct.mk Tryd.func8 rfl Tryd.ntmps8 rfl ?_
  intro W0 hW0
  have o0 : Old H H := Old.refl H
  refine KC.seq ?_
  refine KC.region ?_
  refine KL.op (R.assign rfl rfl) rfl rfl rfl ?_
  refine KL.nil ?_
  refine KQ.seq ?_
  refine KC.seq ?_
  refine KC.region ?_
  refine KL.call rfl rfl rfl rfl Tryd.call20 rfl rfl rfl (Begin_any) ?_
  rintro vb H1 ⟨wb, ox⟩
  have zc_H1 := (ox).1
  have o0 := o0.trans ox
  have sb := wb.sl (emptyOld _) (by omega)
  refine KL.op (R.assign rfl rfl) rfl rfl rfl ?_
  refine KL.nil ?_
  refine KQ.seq ?_
  refine KC.seq ?_
  refine KC.region ?_
  refine KL.call rfl rfl rfl rfl Tryd.call13 rfl rfl rfl (Join_is _ [] (Sl.nil _ _ _) (by decide) (o := some Sc.beg) rfl) ?_
  rintro _ H2 ⟨ox, vj, rfl, sj⟩
  have zc_H2 := (ox).1
  have o0 := o0.trans ox
  have sb := sb.old ox
  refine KL.op (R.move rfl rfl) rfl rfl rfl ?_
  refine KL.op (R.extract rfl rfl rfl) rfl rfl rfl ?_
  refine KL.op (R.extract rfl rfl rfl) rfl rfl rfl ?_
  refine KL.op (R.assign rfl rfl) rfl rfl rfl ?_
  refine KL.op (R.assign rfl rfl) rfl rfl rfl ?_
  refine KL.nil ?_
  refine KQ.seq ?_
  refine KC.seq ?_
  refine KC.region ?_
  refine KL.op (R.move rfl rfl) rfl rfl rfl ?_
  refine KL.call rfl rfl rfl rfl Tryd.call9 rfl rfl rfl (Split_is _ _ sb (hT.old o0) (by decide) (o := some []) (by decide +kernel)) ?_
  rintro _ H3 ⟨ox, vo, rfl, so⟩
  have zc_H3 := (ox).1
  have o0 := o0.trans ox
  have sb := sb.old ox
  have sj := sj.old ox
  refine KL.op (R.move rfl rfl) rfl rfl rfl ?_
  refine KL.op (R.extract rfl rfl rfl) rfl rfl rfl ?_
  refine KL.op (R.extract rfl rfl rfl) rfl rfl rfl ?_
  refine KL.op (R.assign rfl rfl) rfl rfl rfl ?_
  refine KL.op (R.assign rfl rfl) rfl rfl rfl ?_
  refine KL.nil ?_
  refine KQ.seq ?_
  refine KC.seq ?_
  refine KC.seq ?_
  refine KC.region ?_
  refine KL.op (R.move rfl rfl) rfl rfl rfl ?_
  refine KL.op (R.convBS rfl Tryd.underlying22 Tryd.underlying5 Tryd.underlying9 rfl sj) rfl rfl rfl ?_
  refine KL.op (R.move rfl rfl) rfl rfl rfl ?_
  refine KL.op (R.convBS rfl Tryd.underlying22 Tryd.underlying5 Tryd.underlying9 rfl sb) rfl rfl rfl ?_
  refine KL.op ((R.neqStr rfl rfl rfl).val (congrArg (fun b => Value.bool (!b)) ((bstr_eq (sj).int_range (sb).int_range).trans (decide_eq_true rfl)))) rfl rfl rfl ?_
  refine KL.op (R.move rfl rfl) rfl rfl rfl ?_
  refine KL.op (R.move rfl rfl) rfl rfl rfl ?_
  refine KL.op ((R.neq rfl rfl rfl).val ((congrArg (fun b => Value.bool (!b)) (decide_eq_true (by rfl))))) rfl rfl rfl ?_
  refine KL.op (R.pick rfl rfl rfl) rfl rfl rfl ?_
  refine KL.op (R.move rfl rfl) rfl rfl rfl ?_
  refine KL.op (R.move rfl rfl) rfl rfl rfl ?_
  refine KL.op (R.lenS rfl Tryd.underlying24 rfl so) rfl rfl rfl ?_
  refine KL.op ((R.neq rfl rfl rfl).val ((congrArg (fun b => Value.bool (!b)) (decide_eq_true (by rfl))))) rfl rfl rfl ?_
  refine KL.op (R.pick rfl rfl rfl) rfl rfl rfl ?_
  refine KL.op (R.move rfl rfl) rfl rfl rfl ?_
  refine KL.op (R.move rfl rfl) rfl rfl rfl ?_
  refine KL.op ((R.neq rfl rfl rfl).val ((congrArg (fun b => Value.bool (!b)) (decide_eq_true (by rfl))))) rfl rfl rfl ?_
  refine KL.op (R.pick rfl rfl rfl) rfl rfl rfl ?_
  refine KL.nil ?_
  refine KQ.seq ?_
  refine KC.condF rfl ?_
  refine KC.skip ?_
  refine KQ.seq ?_
  refine KC.seq ?_
  refine KC.region ?_
  have sbP := sb
  have oP : Old H3 H3 := Old.refl _
  refine KL.call rfl rfl rfl rfl Tryd.call20 rfl rfl rfl (Begin_any) ?_
  rintro v39 H4 ⟨wv39, ox⟩
  have zc_H4 := (ox).1
  have o0 := o0.trans ox
  have sb := sb.old ox
  have sj := sj.old ox
  have so := so.old ox
  have oP := oP.trans ox
  refine KL.opM (M.lit rfl Tryd.underlying22 zs5 (by decide) rfl rfl rfl) rfl rfl rfl ?_
  rintro _ H5 ⟨rfl, n5⟩
  have z5 := n5.2.1
  have o0 := o0.trans n5.1
  have sb := sb.old n5.1
  have sj := sj.old n5.1
  have so := so.old n5.1
  have wv39 := wv39.old n5.1
  have oP := oP.trans n5.1
  have b5 := n5.2.2
  have s40 : Sl 1 (EInt .u8) H5 _ [3, 1, 0, 0, 2, 1, 97, 10, 0] := Sl.lits n5 rfl (by decide) (by decide)
  have lt6 := wv39.lt
  refine KL.opM (M.append rfl Tryd.underlying22 inf5 rfl (by decide) rfl rfl wv39 (by exact s40) (fun _ _ h _ => h) (by omega) (by decide) (by decide)) rfl rfl rfl ?_
  rintro v41 H6 ⟨w6, g6⟩
  try dsimp only at g6
  have ob6 := g6.oldB wv39 (by omega)
  have o0 := o0.then ob6 (by omega)
  have z6 := ob6.1
  have oP := oP.then ob6 (by omega)
  have wv39 := w6
  have s41 := wv39.sl (emptyOld _) (by omega)
  have sb := sbP.old oP
  refine KL.call rfl rfl rfl rfl Tryd.call9 rfl rfl rfl (Split_is _ _ s41 (hT.old o0) (by decide) (o := some [(3, [0]), (10, [])]) (by decide +kernel)) ?_
  rintro _ H7 ⟨ox, vo, rfl, so⟩
  have zc_H7 := (ox).1
  have o0 := o0.trans ox
  have s41 := s41.old ox
  have sb := sb.old ox
  refine KL.op (R.move rfl rfl) rfl rfl rfl ?_
  refine KL.op (R.extract rfl rfl rfl) rfl rfl rfl ?_
  refine KL.op (R.extract rfl rfl rfl) rfl rfl rfl ?_
  refine KL.op (R.assign rfl rfl) rfl rfl rfl ?_
  refine KL.op (R.assign rfl rfl) rfl rfl rfl ?_
  refine KL.nil ?_
  refine KQ.seq ?_
  refine KC.seq ?_
  refine KC.seq ?_
  refine KC.region ?_
  refine KL.op (R.move rfl rfl) rfl rfl rfl ?_
  refine KL.op ((R.neq rfl rfl rfl).val ((congrArg (fun b => Value.bool (!b)) (decide_eq_true (by rfl))))) rfl rfl rfl ?_
  refine KL.op (R.move rfl rfl) rfl rfl rfl ?_
  refine KL.op (R.move rfl rfl) rfl rfl rfl ?_
  refine KL.opM (M.lit rfl Tryd.underlying22 zs5 (by decide) rfl rfl rfl) rfl rfl rfl ?_
  rintro _ H8 ⟨rfl, n8⟩
  have z8 := n8.2.1
  have o0 := o0.trans n8.1
  have s41 := s41.old n8.1
  have sb := sb.old n8.1
  have so := so.old n8.1
  have b8 := n8.2.2
  have s49 : Sl 1 (EInt .u8) H8 _ [0] := Sl.lits n8 rfl (by decide) (by decide)
  refine KL.op (R.buildL rfl Tryd.underlying51 zr51 [(0, 1), (1, 1)] (fun w => by kernel_rfl) rfl ⟨⟨_, rfl, rfl⟩, ⟨_, rfl, rfl⟩, trivial⟩ rfl rfl ⟨⟨_, rfl, by first | rfl | exact s41.cells1 | exact sb.cells1 | exact so.cells1 | exact s49.cells1⟩, ⟨_, rfl, by first | rfl | exact s41.cells1 | exact sb.cells1 | exact so.cells1 | exact s49.cells1⟩, trivial⟩ rfl) rfl rfl rfl ?_
  refine KL.op (R.buildL rfl Tryd.underlying51 zr51 [(0, 1), (1, 1)] (fun w => by kernel_rfl) rfl ⟨⟨_, rfl, rfl⟩, trivial⟩ rfl rfl ⟨⟨_, rfl, by first | rfl | exact s41.cells1 | exact sb.cells1 | exact so.cells1 | exact s49.cells1⟩, trivial⟩ rfl) rfl rfl rfl ?_
  refine KL.opM (M.lit rfl Tryd.underlying28 zs51 (by decide) rfl rfl rfl) rfl rfl rfl ?_
  rintro _ H9 ⟨rfl, n9⟩
  have z9 := n9.2.1
  have o0 := o0.trans n9.1
  have s41 := s41.old n9.1
  have sb := sb.old n9.1
  have so := so.old n9.1
  have s49 := s49.old n9.1
  have b9 := n9.2.2
  have s52 : Sl 2 ESec H9 _ [(3, [0]), (10, [])] := (Own.litN (n := 2) (E := ESec) (H0 := H9) (B := 0) (l := [(3, [0]), (10, [])]) n9 (Nat.zero_le _) rfl (by decide) rfl (by intro j x hj; match j, hj with | 0, hj => cases hj; exact ⟨_, rfl, s49, by decide⟩ | 1, hj => cases hj; exact ⟨_, rfl, Sl.nil _ _ _, by decide⟩)).sl (Old.refl _) (by omega)
  refine KL.call rfl rfl rfl rfl Tryd.call11 rfl rfl rfl (same_is _ _ _ _ so s52 (b := true) (by decide)) ?_
  rintro _ H10 ⟨rfl, ox⟩
  have zc_H10 := (ox).1
  have o0 := o0.trans ox
  have s41 := s41.old ox
  have sb := sb.old ox
  have so := so.old ox
  have s49 := s49.old ox
  have s52 := s52.old ox
  refine KL.op (R.not rfl rfl) rfl rfl rfl ?_
  refine KL.op (R.pick rfl rfl rfl) rfl rfl rfl ?_
  refine KL.nil ?_
  refine KQ.seq ?_
  refine KC.condF rfl ?_
  refine KC.skip ?_
  refine KQ.seq ?_
  refine KC.seq ?_
  refine KC.seq ?_
  refine KC.region ?_
  refine KL.opM (M.lit rfl Tryd.underlying22 zs5 (by decide) rfl rfl rfl) rfl rfl rfl ?_
  rintro _ H11 ⟨rfl, n11⟩
  have z11 := n11.2.1
  have o0 := o0.trans n11.1
  have s41 := s41.old n11.1
  have sb := sb.old n11.1
  have so := so.old n11.1
  have s49 := s49.old n11.1
  have s52 := s52.old n11.1
  have b11 := n11.2.2
  have s56 : Sl 1 (EInt .u8) H11 _ [3, 0, 3, 0] := Sl.lits n11 rfl (by decide) (by decide)
  refine KL.opM (M.lit rfl Tryd.underlying22 zs5 (by decide) rfl rfl rfl) rfl rfl rfl ?_
  rintro _ H12 ⟨rfl, n12⟩
  have z12 := n12.2.1
  have o0 := o0.trans n12.1
  have s41 := s41.old n12.1
  have sb := sb.old n12.1
  have so := so.old n12.1
  have s49 := s49.old n12.1
  have s52 := s52.old n12.1
  have s56 := s56.old n12.1
  have b12 := n12.2.2
  have s57 : Sl 1 (EInt .u8) H12 _ [12, 0] := Sl.lits n12 rfl (by decide) (by decide)
  refine KL.opM (M.lit rfl Tryd.underlying22 zs5 (by decide) rfl rfl rfl) rfl rfl rfl ?_
  rintro _ H13 ⟨rfl, n13⟩
  have z13 := n13.2.1
  have o0 := o0.trans n13.1
  have s41 := s41.old n13.1
  have sb := sb.old n13.1
  have so := so.old n13.1
  have s49 := s49.old n13.1
  have s52 := s52.old n13.1
  have s56 := s56.old n13.1
  have s57 := s57.old n13.1
  have b13 := n13.2.2
  have s58 : Sl 1 (EInt .u8) H13 _ [0, 0] := Sl.lits n13 rfl (by decide) (by decide)
  refine KL.opM (M.lit rfl Tryd.underlying52 zs22 (by decide) rfl rfl rfl) rfl rfl rfl ?_
  rintro _ H14 ⟨rfl, n14⟩
  have z14 := n14.2.1
  have o0 := o0.trans n14.1
  have s41 := s41.old n14.1
  have sb := sb.old n14.1
  have so := so.old n14.1
  have s49 := s49.old n14.1
  have s52 := s52.old n14.1
  have s56 := s56.old n14.1
  have s57 := s57.old n14.1
  have s58 := s58.old n14.1
  have b14 := n14.2.2
  have s59 : Sl 1 (ESl 1 (EInt .u8)) H14 _ [[3, 0, 3, 0], [12, 0], [0, 0]] := (Own.lit (E := ESl 1 (EInt .u8)) (H0 := H14) (B := 0) (l := [[3, 0, 3, 0], [12, 0], [0, 0]]) n14 (Nat.zero_le _) rfl (by decide) rfl (by intro j x2 u hj hu; match j, hj, hu with | 0, hj, hu => cases hj; cases hu; exact ⟨_, rfl, s56⟩ | 1, hj, hu => cases hj; cases hu; exact ⟨_, rfl, s57⟩ | 2, hj, hu => cases hj; cases hu; exact ⟨_, rfl, s58⟩)).sl (Old.refl _) (by omega)
  have sb0 := sb
  refine KL.op (R.lenS rfl Tryd.underlying52 rfl s59) rfl rfl rfl ?_
  refine KL.op (R.move rfl rfl) rfl rfl rfl ?_
  refine KL.nil ?_
  refine KQ.seq ?_
  refine KC.block ?_
  refine KC.loopD (κ := Nat) [62, 63, 64, 7, 66, 67, 68, 69, 65, 70, 71, 8, 9, 72, 73, 74, 75, 76, 77, 78, 0, 79, 61] (fun k => [(61, .int .i64 (k : Nat))]) (fun k Hl => k ≤ 3 ∧ Old H Hl ∧ Old H14 Hl) (fun k => 3 - k) 0 ?_ ?_ ?_
  · exact (Sub.cons rfl (Ext.sub (Ext.refl _ _)))
  · exact ⟨Nat.zero_le _, o0, Old.refl _⟩
  · rintro k H15 ⟨hk, o0, oL⟩
    have zl_H15 := o0.1
    have sb := sb0.old oL
    have zl2 := oL.1
    refine KC.seq ?_
    refine KC.region ?_
    refine KL.op (R.lss rfl rfl rfl) rfl rfl rfl ?_
    refine KL.nil ?_
    refine KQ.seq ?_
    refine KC.seq ?_
    refine KC.iteL rfl ?_ ?_
    · intro hc62
      try simp only [decide_eq_true_eq, decide_eq_false_iff_not, Bool.not_eq_true', Bool.not_eq_false', Bool.and_eq_true, Bool.or_eq_false_iff] at hc62
      have hk3 : k < 3 := by
        have h9 : (k : Int) < 3 := hc62
        omega
      obtain ⟨u, hcu, hu⟩ := s59.sl1 k hk3
      obtain ⟨hno, hn4⟩ := Sc.no3 k hk3
      refine KC.skip ?_
      refine KQ.seq ?_
      refine KC.seq ?_
      refine KC.block ?_
      refine KC.seq ?_
      refine KC.region ?_
      refine KL.op (R.index1 (j := k) rfl Tryd.underlying52 sz22 rfl rfl (s59.old oL) rfl hk3) rfl rfl rfl ?_
      refine KL.op (R.load rfl Tryd.underlying22 rfl rfl (oL.cell hcu)) rfl rfl rfl ?_
      refine KL.op (R.assign rfl rfl) rfl rfl rfl ?_
      refine KL.nil ?_
      refine KQ.seq ?_
      refine KC.seq ?_
      refine KC.region ?_
      refine KL.call rfl rfl rfl rfl Tryd.call20 rfl rfl rfl (Begin_any) ?_
      rintro v66 H16 ⟨wv66, ox⟩
      have zc_H16 := (ox).1
      have o0 := o0.trans ox
      have oL := oL.trans ox
      have sb := sb.old ox
      have sv66 := wv66.sl (emptyOld _) (by omega)
      refine KL.op (R.move rfl rfl) rfl rfl rfl ?_
      have lt17 := wv66.lt
      refine KL.opM (M.append rfl Tryd.underlying22 inf5 rfl (by decide) rfl rfl wv66 (by exact (hu.old oL)) (fun _ _ h _ => h) (by omega) (by rw [show Sc.beg.length = 8 from rfl]; omega) (by unfold maxLen; rw [show Sc.beg.length = 8 from rfl]; omega)) rfl rfl rfl ?_
      rintro v68 H17 ⟨w17, g17⟩
      try dsimp only at g17
      have ob17 := g17.oldB wv66 (by omega)
      have o0 := o0.then ob17 (by omega)
      have z17 := ob17.1
      have oL := oL.then ob17 (by omega)
      have wv66 := w17
      have s68 := wv66.sl (emptyOld _) (by omega)
      refine KL.call rfl rfl rfl rfl Tryd.call9 rfl rfl rfl (Split_is _ _ s68 (hT.old o0) (by rw [List.length_append, show Sc.beg.length = 8 from rfl]; omega) (o := none) hno) ?_
      rintro _ H18 ⟨ox, rfl⟩
      have zc_H18 := (ox).1
      have o0 := o0.trans ox
      have oL := oL.trans ox
      have s68 := s68.old ox
      refine KL.op (R.move rfl rfl) rfl rfl rfl ?_
      refine KL.op (R.extract rfl rfl rfl) rfl rfl rfl ?_
      refine KL.op (R.extract rfl rfl rfl) rfl rfl rfl ?_
      refine KL.op (R.assign rfl rfl) rfl rfl rfl ?_
      refine KL.op (R.assign rfl rfl) rfl rfl rfl ?_
      refine KL.nil ?_
      refine KQ.seq ?_
      refine KC.seq ?_
      refine KC.region ?_
      refine KL.op (R.move rfl rfl) rfl rfl rfl ?_
      refine KL.op ((by first | exact R.lenS rfl Tryd.underlying24 rfl (by first | exact s68 | assumption) | exact R.len (ty := 0) rfl Tryd.underlying24 rfl)) rfl rfl rfl ?_
      refine KL.op ((R.neq rfl rfl rfl).val ((congrArg (fun b => Value.bool (!b)) (decide_eq_true (by rfl))))) rfl rfl rfl ?_
      refine KL.op (R.move rfl rfl) rfl rfl rfl ?_
      refine KL.op (R.move rfl rfl) rfl rfl rfl ?_
      refine KL.op ((R.neq rfl rfl rfl).val ((congrArg (fun b => Value.bool (!b)) (decide_eq_true (by rfl))))) rfl rfl rfl ?_
      refine KL.op (R.pick rfl rfl rfl) rfl rfl rfl ?_
      refine KL.nil ?_
      refine KQ.seq ?_
      refine KC.condF rfl ?_
      refine KC.skip ?_
      refine KQ.normBlock ?_
      refine KQ.seq ?_
      refine KC.region ?_
      refine KL.op ((R.add rfl rfl rfl (by dsimp only [InR]; omega)).val (congrArg (Value.int .i64) (show (k : Int) + 1 = ((k + 1 : Nat) : Int) by omega))) rfl rfl rfl ?_
      refine KL.op (R.move rfl rfl) rfl rfl rfl ?_
      refine KL.nil ?_
      refine KQ.again (k + 1) ?_ ?_ ?_
      · exact (Sub.cons rfl (Ext.sub (by repeat (first | exact Ext.refl _ _ | refine Ext.put rfl ?_ | refine Ext.drop rfl ?_))))
      · omega
      · exact ⟨by omega, o0, oL⟩
    · intro hc62
      try simp only [decide_eq_true_eq, decide_eq_false_iff_not, Bool.not_eq_true', Bool.not_eq_false', Bool.and_eq_true, Bool.or_eq_false_iff] at hc62
      refine KC.exit ?_
      refine KQ.exitThen ?_
      refine KQ.exitThen ?_
      refine KQ.hit ?_
      refine KQ.seq ?_
      refine KC.seq ?_
      refine KC.region ?_
      refine KL.op (R.move rfl rfl) rfl rfl rfl ?_
      refine KL.op (R.slice rfl Tryd.underlying22 sz5 rfl sb bnd.no (bnd.mk (r := 7) rfl rfl) (by decide) (by decide)) rfl rfl rfl ?_
      have s82 := sb.sub (lo := 0) (hi := 7) (by decide) (by decide)
      refine KL.call rfl rfl rfl rfl Tryd.call9 rfl rfl rfl (Split_is _ _ s82 (hT.old o0) (by decide) (o := none) (by decide +kernel)) ?_
      rintro _ H19 ⟨ox, rfl⟩
      have zc_H19 := (ox).1
      have o0 := o0.trans ox
      have oL := oL.trans ox
      have sb := sb.old ox
      refine KL.op (R.move rfl rfl) rfl rfl rfl ?_
      refine KL.op (R.extract rfl rfl rfl) rfl rfl rfl ?_
      refine KL.op (R.extract rfl rfl rfl) rfl rfl rfl ?_
      refine KL.op (R.assign rfl rfl) rfl rfl rfl ?_
      refine KL.nil ?_
      refine KQ.seq ?_
      refine KC.seq ?_
      refine KC.region ?_
      refine KL.op (R.move rfl rfl) rfl rfl rfl ?_
      refine KL.op ((R.eql rfl rfl rfl).val (congrArg Value.bool (decide_eq_true (by rfl)))) rfl rfl rfl ?_
      refine KL.op (R.assign rfl rfl) rfl rfl rfl ?_
      refine KL.nil ?_
      refine KQ.seq ?_
      refine KC.ret ?_
      refine KQ.ofRet ?_
      refine KQ.fin1 Tryd.results8 rfl ?_
      exact ⟨rfl, o0⟩

set_option maxRecDepth 100000 in
set_option maxHeartbeats 4000000 in
theorem SectSplits_any {H : Heap} (v : Value) (l : List Int) (hs : Sl 1 (EInt .u8) H v l) (hT : TabU H) : Ct Tryd.prog 3 [v] H (fun u H' => u = .bool true ∧ Old H H') := by
  refine Ct.mk Tryd.func3 rfl Tryd.ntmps3 rfl ?_
  intro W0 hW0
  have o0 : Old H H := Old.refl H
  refine KC.seq ?_
  refine KC.region ?_
  refine KL.op (R.assign rfl rfl) rfl rfl rfl ?_
  refine KL.nil ?_
  refine KQ.seq ?_
  refine KC.seq ?_
  refine KC.seq ?_
  refine KC.region ?_
  refine KL.call rfl rfl rfl rfl Tryd.call8 rfl rfl rfl (known_any (hT.old o0)) ?_
  rintro _ H1 ⟨rfl, ox⟩
  have zc_H1 := (ox).1
  have o0 := o0.trans ox
  refine KL.op (R.not rfl rfl) rfl rfl rfl ?_
  refine KL.nil ?_
  refine KQ.seq ?_
  refine KC.condF rfl ?_
  refine KC.skip ?_
  refine KQ.seq ?_
  refine KC.seq ?_
  refine KC.seq ?_
  refine KC.region ?_
  refine KL.op (R.move rfl rfl) rfl rfl rfl ?_
  refine KL.op (R.lenS rfl Tryd.underlying22 rfl hs) rfl rfl rfl ?_
  refine KL.op (R.gtr rfl rfl rfl) rfl rfl rfl ?_
  refine KL.nil ?_
  refine KQ.seq ?_
  refine KC.iteL rfl ?_ ?_
  · intro hc11
    try simp only [decide_eq_true_eq, decide_eq_false_iff_not, Bool.not_eq_true', Bool.not_eq_false', Bool.and_eq_true, Bool.or_eq_false_iff] at hc11
    refine KC.seq ?_
    refine KC.region ?_
    refine KL.op (R.assign rfl rfl) rfl rfl rfl ?_
    refine KL.nil ?_
    refine KQ.seq ?_
    refine KC.ret ?_
    refine KQ.retThen ?_
    refine KQ.ofRet ?_
    refine KQ.fin1 Tryd.results3 rfl ?_
    exact ⟨rfl, o0⟩
  · intro hc11
    try simp only [decide_eq_true_eq, decide_eq_false_iff_not, Bool.not_eq_true', Bool.not_eq_false', Bool.and_eq_true, Bool.or_eq_false_iff] at hc11
    refine KC.skip ?_
    refine KQ.seq ?_
    refine KC.seq ?_
    refine KC.region ?_
    refine KL.op (R.move rfl rfl) rfl rfl rfl ?_
    refine KL.call rfl rfl rfl rfl Tryd.call9 rfl rfl rfl (Split_or _ _ (hs.old o0) (hT.old o0) (by omega)) ?_
    rintro u9 H2 ⟨ox, hR⟩
    have zc_H2 := (ox).1
    have o0 := o0.trans ox
    rcases hR with ⟨hsp, rfl⟩ | ⟨m, vo, hsp, rfl, so⟩
    · skip
      have so := Sl.nil 2 ESec H2
      refine KL.op (R.move rfl rfl) rfl rfl rfl ?_
      refine KL.op (R.extract rfl rfl rfl) rfl rfl rfl ?_
      refine KL.op (R.extract rfl rfl rfl) rfl rfl rfl ?_
      refine KL.op (R.assign rfl rfl) rfl rfl rfl ?_
      refine KL.op (R.assign rfl rfl) rfl rfl rfl ?_
      refine KL.nil ?_
      refine KQ.seq ?_
      refine KC.seq ?_
      refine KC.region ?_
      refine KL.op (R.move rfl rfl) rfl rfl rfl ?_
      refine KL.call rfl rfl rfl rfl Tryd.call10 rfl rfl rfl (RSplit_is _ _ (hs.old o0) (by omega) hsp) ?_
      rintro _ H3 ⟨ox, rfl⟩
      have zc_H3 := (ox).1
      have o0 := o0.trans ox
      have so := so.old ox
      have sr := Sl.nil 2 ESec H3
      refine KL.op (R.move rfl rfl) rfl rfl rfl ?_
      refine KL.op (R.extract rfl rfl rfl) rfl rfl rfl ?_
      refine KL.op (R.extract rfl rfl rfl) rfl rfl rfl ?_
      refine KL.op (R.assign rfl rfl) rfl rfl rfl ?_
      refine KL.op (R.assign rfl rfl) rfl rfl rfl ?_
      refine KL.nil ?_
      refine KQ.seq ?_
      refine KC.seq ?_
      refine KC.region ?_
      refine KL.op (R.move rfl rfl) rfl rfl rfl ?_
      refine KL.op (R.move rfl rfl) rfl rfl rfl ?_
      refine KL.call rfl rfl rfl rfl Tryd.call11 rfl rfl rfl (same_is _ _ _ _ so sr (b := true) (decide_eq_true rfl)) ?_
      rintro _ H4 ⟨rfl, ox⟩
      have zc_H4 := (ox).1
      have o0 := o0.trans ox
      have so := so.old ox
      have sr := sr.old ox
      refine KL.op (R.move rfl rfl) rfl rfl rfl ?_
      refine KL.op (R.move rfl rfl) rfl rfl rfl ?_
      refine KL.op (R.move rfl rfl) rfl rfl rfl ?_
      refine KL.call rfl rfl rfl rfl Tryd.call12 rfl rfl rfl (E_f _) ?_
      rintro _ _ ⟨rfl, rfl⟩
      refine KL.op ((R.eql rfl rfl rfl).val (congrArg Value.bool (decide_eq_true (by rfl)))) rfl rfl rfl ?_
      refine KL.op (R.pick rfl rfl rfl) rfl rfl rfl ?_
      refine KL.op (R.assign rfl rfl) rfl rfl rfl ?_
      refine KL.nil ?_
      refine KQ.seq ?_
      refine KC.ret ?_
      refine KQ.ofRet ?_
      refine KQ.fin1 Tryd.results3 rfl ?_
      exact ⟨rfl, o0⟩
    · skip
      refine KL.op (R.move rfl rfl) rfl rfl rfl ?_
      refine KL.op (R.extract rfl rfl rfl) rfl rfl rfl ?_
      refine KL.op (R.extract rfl rfl rfl) rfl rfl rfl ?_
      refine KL.op (R.assign rfl rfl) rfl rfl rfl ?_
      refine KL.op (R.assign rfl rfl) rfl rfl rfl ?_
      refine KL.nil ?_
      refine KQ.seq ?_
      refine KC.seq ?_
      refine KC.region ?_
      refine KL.op (R.move rfl rfl) rfl rfl rfl ?_
      refine KL.call rfl rfl rfl rfl Tryd.call10 rfl rfl rfl (RSplit_is _ _ (hs.old o0) (by omega) hsp) ?_
      rintro _ H5 ⟨ox, vr, rfl, sr⟩
      have zc_H5 := (ox).1
      have o0 := o0.trans ox
      have so := so.old ox
      refine KL.op (R.move rfl rfl) rfl rfl rfl ?_
      refine KL.op (R.extract rfl rfl rfl) rfl rfl rfl ?_
      refine KL.op (R.extract rfl rfl rfl) rfl rfl rfl ?_
      refine KL.op (R.assign rfl rfl) rfl rfl rfl ?_
      refine KL.op (R.assign rfl rfl) rfl rfl rfl ?_
      refine KL.nil ?_
      refine KQ.seq ?_
      refine KC.seq ?_
      refine KC.region ?_
      refine KL.op (R.move rfl rfl) rfl rfl rfl ?_
      refine KL.op (R.move rfl rfl) rfl rfl rfl ?_
      refine KL.call rfl rfl rfl rfl Tryd.call11 rfl rfl rfl (same_is _ _ _ _ so sr (b := true) (decide_eq_true rfl)) ?_
      rintro _ H6 ⟨rfl, ox⟩
      have zc_H6 := (ox).1
      have o0 := o0.trans ox
      have so := so.old ox
      have sr := sr.old ox
      refine KL.op (R.move rfl rfl) rfl rfl rfl ?_
      refine KL.op (R.move rfl rfl) rfl rfl rfl ?_
      refine KL.op (R.move rfl rfl) rfl rfl rfl ?_
      refine KL.call rfl rfl rfl rfl Tryd.call12 rfl rfl rfl (E_t _) ?_
      rintro _ _ ⟨rfl, rfl⟩
      refine KL.op ((R.eql rfl rfl rfl).val (congrArg Value.bool (decide_eq_true (by rfl)))) rfl rfl rfl ?_
      refine KL.op (R.pick rfl rfl rfl) rfl rfl rfl ?_
      refine KL.op (R.assign rfl rfl) rfl rfl rfl ?_
      refine KL.nil ?_
      refine KQ.seq ?_
      refine KC.ret ?_
      refine KQ.ofRet ?_
      refine KQ.fin1 Tryd.results3 rfl ?_
      exact ⟨rfl, o0⟩

set_option maxRecDepth 100000 in
set_option maxHeartbeats 4000000 in
theorem SectJoins_any {H : Heap} (v : Value) (l : List Sec) (hs : Sl 2 ESec H v l) (hb : ∀ s ∈ l, s.2.length ≤ 140737488351232) (hT : TabU H) : Ct Tryd.prog 4 [v] H (fun u H' => u = .bool true ∧ Old H H') := by
  refine Ct.mk Tryd.func4 rfl Tryd.ntmps4 rfl ?_
  intro W0 hW0
  have o0 : Old H H := Old.refl H
  have hll := hs.len
  refine KC.seq ?_
  refine KC.region ?_
  refine KL.op (R.assign rfl rfl) rfl rfl rfl ?_
  refine KL.nil ?_
  refine KQ.seq ?_
  refine KC.seq ?_
  refine KC.seq ?_
  refine KC.region ?_
  refine KL.call rfl rfl rfl rfl Tryd.call8 rfl rfl rfl (known_any (hT.old o0)) ?_
  rintro _ H1 ⟨rfl, ox⟩
  have zc_H1 := (ox).1
  have o0 := o0.trans ox
  refine KL.op (R.not rfl rfl) rfl rfl rfl ?_
  refine KL.nil ?_
  refine KQ.seq ?_
  refine KC.condF rfl ?_
  refine KC.skip ?_
  refine KQ.seq ?_
  refine KC.seq ?_
  refine KC.region ?_
  refine KL.op (R.assign rfl rfl) rfl rfl rfl ?_
  refine KL.nil ?_
  refine KQ.seq ?_
  refine KC.seq ?_
  refine KC.seq ?_
  refine KC.region ?_
  refine KL.op (R.move rfl rfl) rfl rfl rfl ?_
  refine KL.op (R.lenS rfl Tryd.underlying24 rfl hs) rfl rfl rfl ?_
  refine KL.op (R.move rfl rfl) rfl rfl rfl ?_
  refine KL.nil ?_
  refine KQ.seq ?_
  refine KC.block ?_
  refine KC.loopD (κ := Nat) [15, 16, 17, 5, 18, 19, 20, 21, 22, 23, 3, 24, 25, 26, 27, 28, 29, 30, 2, 31, 14] (fun k => [(14, .int .i64 (k : Nat)), (3, .int .i64 (Sc.wt (l.take k) : Nat))]) (fun k Hl => k ≤ l.length ∧ Sc.wt (l.take k) ≤ 5000 ∧ Old H Hl) (fun k => l.length - k) 0 ?_ ?_ ?_
  · exact (Sub.cons rfl (Sub.cons rfl (Ext.sub (Ext.refl _ _))))
  · exact ⟨Nat.zero_le _, by show 0 ≤ 5000; omega, o0⟩
  · rintro k H2 ⟨hk, hw, o0⟩
    have zl_H2 := o0.1
    refine KC.seq ?_
    refine KC.region ?_
    refine KL.op (R.lss rfl rfl rfl) rfl rfl rfl ?_
    refine KL.nil ?_
    refine KQ.seq ?_
    refine KC.seq ?_
    refine KC.iteL rfl ?_ ?_
    · intro hc15
      try simp only [decide_eq_true_eq, decide_eq_false_iff_not, Bool.not_eq_true', Bool.not_eq_false', Bool.and_eq_true, Bool.or_eq_false_iff] at hc15
      obtain ⟨u, hcx, hu, q0⟩ := hs.secAt k (by omega)
      have hul := getD_bd hb k (by omega)
      have hwt := Sc.wt_step (l := l) (k := k) (by omega)
      refine KC.skip ?_
      refine KQ.seq ?_
      refine KC.seq ?_
      refine KC.block ?_
      refine KC.seq ?_
      refine KC.region ?_
      refine KL.op (R.index (j := k) rfl Tryd.underlying24 sz35 rfl rfl (hs.old o0) rfl (by omega)) rfl rfl rfl ?_
      refine KL.op (R.loadAgg rfl Tryd.underlying35 rfl sz35 rfl (o0.cells hcx) rfl) rfl rfl rfl ?_
      refine KL.opM (M.alloc rfl zr35 rfl) rfl rfl rfl ?_
      rintro _ H3 ⟨rfl, n3⟩
      have z3 := n3.2.1
      have o0 := o0.trans n3.1
      have b3 := n3.2.2
      have bx := b3
      refine KL.opS (S.storeAgg rfl sz35 rfl rfl (rfl) (by intro q hq; simp only [List.mem_cons, List.not_mem_nil, or_false] at hq; rcases hq with rfl | rfl <;> first | rfl | exact hu.one) bx (by simp)) rfl rfl ?_
      rintro H4 ⟨u4, b4⟩
      have o0 := o0.upd u4 (by omega)
      have zu4 := u4.1
      have bx := b4
      refine KL.nil ?_
      refine KQ.seq ?_
      refine KC.seq ?_
      refine KC.region ?_
      refine KL.op (R.move rfl rfl) rfl rfl rfl ?_
      refine KL.op ((by first | exact R.fieldAddr rfl Tryd.underlying35 rfl rfl sz22 rfl | exact R.fieldAddrP rfl Tryd.underlying35 rfl rfl sz22 rfl)) rfl rfl rfl ?_
      refine KL.op (R.load rfl Tryd.underlying22 rfl rfl (by first | exact cell_of bx rfl | assumption)) rfl rfl rfl ?_
      refine KL.op (R.lenS rfl Tryd.underlying22 rfl hu) rfl rfl rfl ?_
      refine KL.op (R.add rfl rfl rfl (by dsimp only [InR]; omega)) rfl rfl rfl ?_
      refine KL.op ((R.add rfl rfl rfl (by dsimp only [InR]; omega)).val (congrArg (Value.int .i64) (show _ = ((Sc.wt (l.take (k + 1)) : Nat) : Int) from by omega))) rfl rfl rfl ?_
      refine KL.op (R.assign rfl rfl) rfl rfl rfl ?_
      refine KL.nil ?_
      refine KQ.seq ?_
      refine KC.seq ?_
      refine KC.region ?_
      refine KL.op (R.move rfl rfl) rfl rfl rfl ?_
      refine KL.op (R.gtr rfl rfl rfl) rfl rfl rfl ?_
      refine KL.op (R.move rfl rfl) rfl rfl rfl ?_
      refine KL.case (d := 26) rfl ?_ ?_
      · intro hg26
        try simp only [decide_eq_true_eq, decide_eq_false_iff_not, Bool.not_eq_true', Bool.not_eq_false', Bool.and_eq_true, Bool.or_eq_false_iff] at hg26
        refine KL.skip rfl rfl rfl ?_
        refine KL.skip rfl rfl rfl ?_
        refine KL.skip rfl rfl rfl ?_
        refine KL.op (R.pick rfl rfl rfl) rfl rfl rfl ?_
        refine KL.nil ?_
        refine KQ.seq ?_
        refine KC.condT rfl ?_
        refine KC.seq ?_
        refine KC.region ?_
        refine KL.op (R.assign rfl rfl) rfl rfl rfl ?_
        refine KL.nil ?_
        refine KQ.seq ?_
        refine KC.ret ?_
        refine KQ.retBlock ?_
        refine KQ.retThen ?_
        refine KQ.retThen ?_
        refine KQ.retBlock ?_
        refine KQ.retThen ?_
        refine KQ.ofRet ?_
        refine KQ.fin1 Tryd.results4 rfl ?_
        exact ⟨rfl, o0⟩
      · intro hg26
        try simp only [decide_eq_true_eq, decide_eq_false_iff_not, Bool.not_eq_true', Bool.not_eq_false', Bool.and_eq_true, Bool.or_eq_false_iff] at hg26
        refine KL.op (R.move rfl rfl) rfl rfl rfl ?_
        refine KL.op (R.lenS rfl Tryd.underlying24 rfl hs) rfl rfl rfl ?_
        refine KL.op (R.gtr rfl rfl rfl) rfl rfl rfl ?_
        refine KL.op (R.pick rfl rfl rfl) rfl rfl rfl ?_
        refine KL.nil ?_
        refine KQ.seq ?_
        refine KC.iteL rfl ?_ ?_
        · intro hc30
          try simp only [decide_eq_true_eq, decide_eq_false_iff_not, Bool.not_eq_true', Bool.not_eq_false', Bool.and_eq_true, Bool.or_eq_false_iff] at hc30
          refine KC.seq ?_
          refine KC.region ?_
          refine KL.op (R.assign rfl rfl) rfl rfl rfl ?_
          refine KL.nil ?_
          refine KQ.seq ?_
          refine KC.ret ?_
          refine KQ.retBlock ?_
          refine KQ.retThen ?_
          refine KQ.retThen ?_
          refine KQ.retBlock ?_
          refine KQ.retThen ?_
          refine KQ.ofRet ?_
          refine KQ.fin1 Tryd.results4 rfl ?_
          exact ⟨rfl, o0⟩
        · intro hc30
          try simp only [decide_eq_true_eq, decide_eq_false_iff_not, Bool.not_eq_true', Bool.not_eq_false', Bool.and_eq_true, Bool.or_eq_false_iff] at hc30
          refine KC.skip ?_
          refine KQ.normBlock ?_
          refine KQ.seq ?_
          refine KC.region ?_
          refine KL.op ((R.add rfl rfl rfl (by dsimp only [InR]; omega)).val (congrArg (Value.int .i64) (show (k : Int) + 1 = ((k + 1 : Nat) : Int) by omega))) rfl rfl rfl ?_
          refine KL.op (R.move rfl rfl) rfl rfl rfl ?_
          refine KL.nil ?_
          refine KQ.again (k + 1) ?_ ?_ ?_
          · exact (Sub.cons rfl (Sub.cons rfl (Ext.sub (by repeat (first | exact Ext.refl _ _ | refine Ext.put rfl ?_ | refine Ext.drop rfl ?_)))))
          · omega
          · exact ⟨by omega, by omega, o0⟩
    · intro hc15
      try simp only [decide_eq_true_eq, decide_eq_false_iff_not, Bool.not_eq_true', Bool.not_eq_false', Bool.and_eq_true, Bool.or_eq_false_iff] at hc15
      rw [List.take_of_length_le (by omega)] at hw
      have hbz := Sc.body_wt l (by omega)
      have hlw := Sc.len_wt l
      refine KC.exit ?_
      refine KQ.exitThen ?_
      refine KQ.exitThen ?_
      refine KQ.hit ?_
      refine KQ.seq ?_
      refine KC.seq ?_
      refine KC.region ?_
      refine KL.op (R.move rfl rfl) rfl rfl rfl ?_
      refine KL.call rfl rfl rfl rfl Tryd.call13 rfl rfl rfl (Join_or _ _ (hs.old o0) (by omega)) ?_
      rintro u9 H5 ⟨ox, hR⟩
      have zc_H5 := (ox).1
      have o0 := o0.trans ox
      rcases hR with ⟨hjn, rfl⟩ | ⟨m, vo, hjn, rfl, sj⟩
      · skip
        have sj := Sl.nil 1 (EInt .u8) H5
        refine KL.op (R.move rfl rfl) rfl rfl rfl ?_
        refine KL.op (R.extract rfl rfl rfl) rfl rfl rfl ?_
        refine KL.op (R.extract rfl rfl rfl) rfl rfl rfl ?_
        refine KL.op (R.assign rfl rfl) rfl rfl rfl ?_
        refine KL.op (R.assign rfl rfl) rfl rfl rfl ?_
        refine KL.nil ?_
        refine KQ.seq ?_
        refine KC.seq ?_
        refine KC.region ?_
        refine KL.op (R.move rfl rfl) rfl rfl rfl ?_
        refine KL.call rfl rfl rfl rfl Tryd.call15 rfl rfl rfl (others_any _ _ (hs.old o0) (by omega)) ?_
        rintro vl H6 ⟨sl, ox⟩
        have zc_H6 := (ox).1
        have o0 := o0.trans ox
        have sj := sj.old ox
        refine KL.call rfl rfl rfl rfl Tryd.call14 rfl rfl rfl (RJoin_is _ _ sl (by omega) hjn) ?_
        rintro _ H7 ⟨ox, rfl⟩
        have zc_H7 := (ox).1
        have o0 := o0.trans ox
        have sj := sj.old ox
        have sr := Sl.nil 1 (EInt .u8) H7
        refine KL.op (R.move rfl rfl) rfl rfl rfl ?_
        refine KL.op (R.extract rfl rfl rfl) rfl rfl rfl ?_
        refine KL.op (R.extract rfl rfl rfl) rfl rfl rfl ?_
        refine KL.op (R.assign rfl rfl) rfl rfl rfl ?_
        refine KL.op (R.assign rfl rfl) rfl rfl rfl ?_
        refine KL.nil ?_
        refine KQ.seq ?_
        refine KC.seq ?_
        refine KC.region ?_
        refine KL.op (R.move rfl rfl) rfl rfl rfl ?_
        refine KL.op (R.convBS rfl Tryd.underlying22 Tryd.underlying5 Tryd.underlying9 rfl sj) rfl rfl rfl ?_
        refine KL.op (R.move rfl rfl) rfl rfl rfl ?_
        refine KL.op (R.convBS rfl Tryd.underlying22 Tryd.underlying5 Tryd.underlying9 rfl sr) rfl rfl rfl ?_
        refine KL.op ((R.eqlStr rfl rfl rfl).val (congrArg Value.bool ((bstr_eq sj.int_range sr.int_range).trans (decide_eq_true rfl)))) rfl rfl rfl ?_
        refine KL.op (R.move rfl rfl) rfl rfl rfl ?_
        refine KL.op (R.move rfl rfl) rfl rfl rfl ?_
        refine KL.op (R.move rfl rfl) rfl rfl rfl ?_
        refine KL.call rfl rfl rfl rfl Tryd.call12 rfl rfl rfl (E_f _) ?_
        rintro _ _ ⟨rfl, rfl⟩
        refine KL.op ((R.eql rfl rfl rfl).val (congrArg Value.bool (decide_eq_true (by rfl)))) rfl rfl rfl ?_
        refine KL.op (R.pick rfl rfl rfl) rfl rfl rfl ?_
        refine KL.op (R.assign rfl rfl) rfl rfl rfl ?_
        refine KL.nil ?_
        refine KQ.seq ?_
        refine KC.ret ?_
        refine KQ.ofRet ?_
        refine KQ.fin1 Tryd.results4 rfl ?_
        exact ⟨rfl, o0⟩
      · skip
        refine KL.op (R.move rfl rfl) rfl rfl rfl ?_
        refine KL.op (R.extract rfl rfl rfl) rfl rfl rfl ?_
        refine KL.op (R.extract rfl rfl rfl) rfl rfl rfl ?_
        refine KL.op (R.assign rfl rfl) rfl rfl rfl ?_
        refine KL.op (R.assign rfl rfl) rfl rfl rfl ?_
        refine KL.nil ?_
        refine KQ.seq ?_
        refine KC.seq ?_
        refine KC.region ?_
        refine KL.op (R.move rfl rfl) rfl rfl rfl ?_
        refine KL.call rfl rfl rfl rfl Tryd.call15 rfl rfl rfl (others_any _ _ (hs.old o0) (by omega)) ?_
        rintro vl H8 ⟨sl, ox⟩
        have zc_H8 := (ox).1
        have o0 := o0.trans ox
        have sj := sj.old ox
        refine KL.call rfl rfl rfl rfl Tryd.call14 rfl rfl rfl (RJoin_is _ _ sl (by omega) hjn) ?_
        rintro _ H9 ⟨ox, vr, rfl, sr⟩
        have zc_H9 := (ox).1
        have o0 := o0.trans ox
        have sj := sj.old ox
        refine KL.op (R.move rfl rfl) rfl rfl rfl ?_
        refine KL.op (R.extract rfl rfl rfl) rfl rfl rfl ?_
        refine KL.op (R.extract rfl rfl rfl) rfl rfl rfl ?_
        refine KL.op (R.assign rfl rfl) rfl rfl rfl ?_
        refine KL.op (R.assign rfl rfl) rfl rfl rfl ?_
        refine KL.nil ?_
        refine KQ.seq ?_
        refine KC.seq ?_
        refine KC.region ?_
        refine KL.op (R.move rfl rfl) rfl rfl rfl ?_
        refine KL.op (R.convBS rfl Tryd.underlying22 Tryd.underlying5 Tryd.underlying9 rfl sj) rfl rfl rfl ?_
        refine KL.op (R.move rfl rfl) rfl rfl rfl ?_
        refine KL.op (R.convBS rfl Tryd.underlying22 Tryd.underlying5 Tryd.underlying9 rfl sr) rfl rfl rfl ?_
        refine KL.op ((R.eqlStr rfl rfl rfl).val (congrArg Value.bool ((bstr_eq sj.int_range sr.int_range).trans (decide_eq_true rfl)))) rfl rfl rfl ?_
        refine KL.op (R.move rfl rfl) rfl rfl rfl ?_
        refine KL.op (R.move rfl rfl) rfl rfl rfl ?_
        refine KL.op (R.move rfl rfl) rfl rfl rfl ?_
        refine KL.call rfl rfl rfl rfl Tryd.call12 rfl rfl rfl (E_t _) ?_
        rintro _ _ ⟨rfl, rfl⟩
        refine KL.op ((R.eql rfl rfl rfl).val (congrArg Value.bool (decide_eq_true (by rfl)))) rfl rfl rfl ?_
        refine KL.op (R.pick rfl rfl rfl) rfl rfl rfl ?_
        refine KL.op (R.assign rfl rfl) rfl rfl rfl ?_
        refine KL.nil ?_
        refine KQ.seq ?_
        refine KC.ret ?_
        refine KQ.ofRet ?_
        refine KQ.fin1 Tryd.results4 rfl ?_
        exact ⟨rfl, o0⟩

end Go.Proofs.YtnbdadjomnpcgaaDoor
