/- SpaceRow walked. No condition but sizes. -/
import Derived.Test.YtbmikddaiedhiaaSpQ
namespace Go.Proofs.Ytbmikddaiedhiaa
open Go Go.RowKit
set_option linter.unusedVariables false
set_option linter.unusedSimpArgs false
set_option linter.unnecessarySimpa false

/-- a module with one import more -/
def addI (m : Mo) (x : Imp) : Mo := { m with imports := m.imports ++ [x] }
theorem ofK_add {k : Int} {l : List Imp} {x : Imp} (h : x.k = k) : ofK k (l ++ [x]) = ofK k l ++ [x] := by
  unfold ofK
  rw [List.filter_append, List.filter_cons, if_pos (by unfold isK; exact decide_eq_true h)]; rfl
/-- its place then -/
def jx (n i : Nat) : Nat := if n ≤ i then i + 1 else i
theorem jx_pos {n i : Nat} (h : n ≤ i) : jx n i = i + 1 := if_pos h
theorem jx_neg {n i : Nat} (h : ¬ n ≤ i) : jx n i = i := if_neg h
theorem jx_le (n i : Nat) : jx n i ≤ i + 1 := by unfold jx; split <;> omega
theorem shift_getD {α : Type} [Inhabited α] {A B : List α} {x : α} {i : Nat} : (A ++ [x] ++ B).getD (jx A.length i) default = (A ++ B).getD i default := by
  by_cases h : A.length ≤ i
  · rw [jx_pos h, getD_app2 (by simp; omega), getD_app2 h]
    congr 1; simp; try omega
  · rw [jx_neg h, List.append_assoc, getD_app1 (by omega), getD_app1 (by omega)]
theorem shift_lt {α : Type} {A B : List α} {x : α} {i : Nat} : jx A.length i < (A ++ [x] ++ B).length ↔ i < (A ++ B).length := by
  simp only [List.length_append, List.length_singleton]
  unfold jx; split <;> omega
theorem fnL_add {m : Mo} {x : Imp} (h : x.k = 0) : fnL (addI m x) = (ofK 0 m.imports).map (·.ty) ++ [x.ty] ++ m.funcs := by
  show (ofK 0 (m.imports ++ [x])).map (·.ty) ++ m.funcs = _
  rw [ofK_add h, List.map_append]; rfl
theorem glL_add {m : Mo} {x : Imp} (h : x.k = 3) : glL (addI m x) = (ofK 3 m.imports).map (·.glb) ++ [x.glb] ++ m.globals := by
  show (ofK 3 (m.imports ++ [x])).map (·.glb) ++ m.globals = _
  rw [ofK_add h, List.map_append]; rfl
theorem impN_add {m : Mo} {x : Imp} {k : Nat} (hk : k < 4) (h : x.k = k) : impN (addI m x) k = impN m k + 1 := by
  unfold impN
  rw [if_pos hk, if_pos hk]
  show (ofK k (m.imports ++ [x])).length = _
  rw [ofK_add h, List.length_append]; rfl
theorem ownK_add (m : Mo) (x : Imp) (k : Nat) : ownK (addI m x) k = ownK m k := by
  match k with
  | 0 => rfl
  | 1 => rfl
  | 2 => rfl
  | 3 => rfl
  | k + 4 => rfl
theorem fnAt_shift {m : Mo} {x : Imp} {i : Nat} (h : x.k = 0) : fnAt (fnsOf (addI m x)) (jx (impN m 0) i) = fnAt (fnsOf m) i := by
  have e1 : impN m 0 = ((ofK 0 m.imports).map (·.ty)).length := by simp [impN]
  have hl : jx (impN m 0) i < (fnL (addI m x)).length ↔ i < (fnL m).length := by rw [fnL_add h, e1]; exact shift_lt
  have hg : (fnL (addI m x)).getD (jx (impN m 0) i) default = (fnL m).getD i default := by rw [fnL_add h, e1]; exact shift_getD
  by_cases hi : i < (fnL m).length
  · rw [fnAt_of hi rfl, fnAt_of (hl.2 hi) hg]; rfl
  · rw [fnAt_no (m := m) (i := i) (by omega), fnAt_no (m := addI m x) (i := jx (impN m 0) i) (Nat.le_of_not_lt (fun hc => hi (hl.1 hc)))]
theorem glb_shift {m : Mo} {x : Imp} {i : Nat} (h : x.k = 3) : glbAt (glL (addI m x)) (jx (impN m 3) i) = glbAt (glL m) i ∧ (jx (impN m 3) i < (glL (addI m x)).length ↔ i < (glL m).length) := by
  have e1 : impN m 3 = ((ofK 3 m.imports).map (·.glb)).length := by simp [impN]
  have hl : jx (impN m 3) i < (glL (addI m x)).length ↔ i < (glL m).length := by rw [glL_add h, e1]; exact shift_lt
  have hg : (glL (addI m x)).getD (jx (impN m 3) i) default = (glL m).getD i default := by rw [glL_add h, e1]; exact shift_getD
  refine ⟨?_, hl⟩
  unfold glbAt
  by_cases hi : i < (glL m).length
  · rw [if_pos hi, if_pos (hl.2 hi), hg]
  · rw [if_neg hi, if_neg (fun hc => hi (hl.1 hc))]
theorem fn_there {m : Mo} {i : Nat} (h : (fnAt (fnsOf m) i).2 = true) : i < (fnL m).length := by
  by_cases hi : i < (fnL m).length
  · exact hi
  · rw [fnAt_no (by omega)] at h; cases h

set_option maxRecDepth 100000 in
set_option maxHeartbeats 4000000 in
theorem SpaceRow_any {H : Heap} {v0 v1 v2 v3 v4 v5 v6 v7 v8 v9 va vb : Value} {m : Mo} (mv : MV H v0 v1 v2 v3 v4 v5 v6 v7 v8 v9 va vb m) (hS : Small m) (i : Nat) (hi : i ≤ 4294967295) (kd : Nat) (hkd : kd ≤ 255) : Ct Try.prog 5 [.agg [v0, v1, v2, v3, v4, v5, v6, v7, v8, v9, va, vb].toArray, .int .u32 (i : Nat), .int .u8 (kd : Nat)] H (fun u H' => u = .bool true ∧ Old H H') := by
  refine Ct.mk Try.func5 rfl Try.ntmps5 rfl ?_
  intro W0 hW0
  have o0 : Old H H := Old.refl H
  refine KC.seq ?_
  refine KC.region ?_
  refine KL.opM (M.box rfl rfl rfl) rfl rfl rfl ?_
  rintro _ H1 ⟨rfl, n1⟩
  have z1 := n1.2.1
  have o0 := o0.trans n1.1
  have b1 := n1.2.2
  have bx := b1
  refine KL.op (R.assign rfl rfl) rfl rfl rfl ?_
  refine KL.nil ?_
  refine KQ.seq ?_
  refine KC.seq ?_
  refine KC.seq ?_
  refine KC.region ?_
  refine KL.call rfl rfl rfl rfl Try.call6 rfl rfl rfl (known_any) ?_
  rintro _ H2 ⟨rfl, ox⟩
  have zc_H2 := (ox).1
  have o0 := o0.trans ox
  have bx := (ox).blk bx
  refine KL.op (R.not rfl rfl) rfl rfl rfl ?_
  refine KL.nil ?_
  refine KQ.seq ?_
  refine KC.condF rfl ?_
  refine KC.skip ?_
  refine KQ.seq ?_
  refine KC.seq ?_
  refine KC.seq ?_
  refine KC.region ?_
  refine KL.op (R.loadAgg rfl Try.underlying38 rfl sz38 rfl (by first | exact cells_of bx | assumption) rfl) rfl rfl rfl ?_
  refine KL.call rfl rfl rfl rfl Try.call9 rfl rfl rfl (RGreat_any (mv.old o0) hS) ?_
  rintro _ H3 ⟨rfl, ox⟩
  have zc_H3 := (ox).1
  have o0 := o0.trans ox
  have bx := (ox).blk bx
  refine KL.op (R.move rfl rfl) rfl rfl rfl ?_
  refine KL.case (d := 31) rfl ?_ ?_
  · intro hg31
    try simp only [decide_eq_true_eq, decide_eq_false_iff_not, Bool.not_eq_true', Bool.not_eq_false', Bool.and_eq_true, Bool.or_eq_false_iff] at hg31
    refine KL.skip rfl rfl rfl ?_
    refine KL.skip rfl rfl rfl ?_
    refine KL.op (R.pick rfl rfl rfl) rfl rfl rfl ?_
    refine KL.nil ?_
    refine KQ.seq ?_
    refine KC.condT rfl ?_
    refine KC.seq ?_
    refine KC.region ?_
    refine KL.op (R.assign rfl rfl) rfl rfl rfl ?_
    refine KL.nil ?_
    refine KQ.seq ?_
    refine KC.ret ?_
    refine KQ.retThen ?_
    refine KQ.ofRet ?_
    refine KQ.fin1 Try.results5 rfl ?_
    exact ⟨rfl, o0⟩
  · intro hg31
    try simp only [decide_eq_true_eq, decide_eq_false_iff_not, Bool.not_eq_true', Bool.not_eq_false', Bool.and_eq_true, Bool.or_eq_false_iff] at hg31
    have hG : six m + tyN m.types ≤ 3000 := by simpa using hg31
    have hsm : m.Small := small_of (by omega)
    refine KL.op (R.move rfl rfl) rfl rfl rfl ?_
    refine KL.op (R.gtr rfl rfl rfl) rfl rfl rfl ?_
    refine KL.op (R.pick rfl rfl rfl) rfl rfl rfl ?_
    refine KL.nil ?_
    refine KQ.seq ?_
    refine KC.iteL rfl ?_ ?_
    · intro hc34
      try simp only [decide_eq_true_eq, decide_eq_false_iff_not, Bool.not_eq_true', Bool.not_eq_false', Bool.and_eq_true, Bool.or_eq_false_iff] at hc34
      refine KC.seq ?_
      refine KC.region ?_
      refine KL.op (R.assign rfl rfl) rfl rfl rfl ?_
      refine KL.nil ?_
      refine KQ.seq ?_
      refine KC.ret ?_
      refine KQ.retThen ?_
      refine KQ.ofRet ?_
      refine KQ.fin1 Try.results5 rfl ?_
      exact ⟨rfl, o0⟩
    · intro hc34
      try simp only [decide_eq_true_eq, decide_eq_false_iff_not, Bool.not_eq_true', Bool.not_eq_false', Bool.and_eq_true, Bool.or_eq_false_iff] at hc34
      have hk3 : kd < 4 := by first | (simp at hc34; omega) | omega
      refine KC.skip ?_
      refine KQ.seq ?_
      refine KC.seq ?_
      refine KC.region ?_
      refine KL.op (R.loadAgg rfl Try.underlying38 rfl sz38 rfl (by first | exact cells_of bx | assumption) rfl) rfl rfl rfl ?_
      refine KL.call rfl rfl rfl rfl Try.call10 rfl rfl rfl (Of_any (mv.old o0) hsm) ?_
      rintro _ H4 ⟨g, wt, wf, wg, wa, wm, we, rfl, sp, hg, ox⟩
      have zc_H4 := (ox).1
      have o0 := o0.trans ox
      have bx := (ox).blk bx
      have oS : Old H4 H4 := Old.refl _
      refine KL.op (R.assign rfl rfl) rfl rfl rfl ?_
      refine KL.nil ?_
      refine KQ.seq ?_
      refine KC.seq ?_
      refine KC.region ?_
      refine KL.op (R.move rfl rfl) rfl rfl rfl ?_
      refine KL.op (R.move rfl rfl) rfl rfl rfl ?_
      refine KL.call rfl rfl rfl rfl Try.call21 rfl rfl rfl (SCount_any (sp.old oS) kd) ?_
      rintro _ _ ⟨rfl, rfl⟩
      refine KL.op (R.assign rfl rfl) rfl rfl rfl ?_
      refine KL.nil ?_
      refine KQ.seq ?_
      refine KC.seq ?_
      refine KC.region ?_
      refine KL.op (R.move rfl rfl) rfl rfl rfl ?_
      refine KL.op (R.move rfl rfl) rfl rfl rfl ?_
      refine KL.call rfl rfl rfl rfl Try.call13 rfl rfl rfl (SGlobal_v (sp.old oS) i hi) ?_
      rintro _ H5 ⟨rfl, ox⟩
      have zc_H5 := (ox).1
      have o0 := o0.trans ox
      have bx := (ox).blk bx
      have oS := oS.trans ox
      refine KL.op (R.move rfl rfl) rfl rfl rfl ?_
      refine KL.op (R.extract rfl rfl rfl) rfl rfl rfl ?_
      refine KL.op (R.extract rfl rfl rfl) rfl rfl rfl ?_
      refine KL.opM (M.alloc rfl zr46 rfl) rfl rfl rfl ?_
      rintro _ H6 ⟨rfl, n6⟩
      have z6 := n6.2.1
      have o0 := o0.trans n6.1
      have bx := (n6.1).blk bx
      have oS := oS.trans n6.1
      have b6 := n6.2.2
      have q9 := b6
      refine KL.opS (S.storeAgg (us := Glb.cells _) rfl sz46 rfl rfl (rfl) (by exact one_glb) q9 (by simp [Glb.cells, Lim.cells])) rfl rfl ?_
      rintro H7 ⟨u7, b7⟩
      have o0 := o0.upd u7 (by omega)
      have zu7 := u7.1
      have bx := ((u7).2 _ (by omega)).trans bx
      have oS := oS.upd u7 (by omega)
      have q9 := b7
      rw [over_all (by rfl)] at q9
      refine KL.op (R.assign rfl rfl) rfl rfl rfl ?_
      refine KL.nil ?_
      refine KQ.seq ?_
      refine KC.seq ?_
      refine KC.region ?_
      refine KL.op (R.move rfl rfl) rfl rfl rfl ?_
      refine KL.op (R.move rfl rfl) rfl rfl rfl ?_
      refine KL.call rfl rfl rfl rfl Try.call15 rfl rfl rfl (STable_v (sp.old oS) i hi) ?_
      rintro _ H8 ⟨rfl, ox⟩
      have zc_H8 := (ox).1
      have o0 := o0.trans ox
      have bx := (ox).blk bx
      have oS := oS.trans ox
      have q9 := (ox).blk q9
      refine KL.op (R.move rfl rfl) rfl rfl rfl ?_
      refine KL.op (R.extract rfl rfl rfl) rfl rfl rfl ?_
      refine KL.op (R.extract rfl rfl rfl) rfl rfl rfl ?_
      refine KL.opM (M.alloc rfl zr51 rfl) rfl rfl rfl ?_
      rintro _ H9 ⟨rfl, n9⟩
      have z9 := n9.2.1
      have o0 := o0.trans n9.1
      have bx := (n9.1).blk bx
      have oS := oS.trans n9.1
      have q9 := (n9.1).blk q9
      have b9 := n9.2.2
      have q11 := b9
      refine KL.opS (S.storeAgg (us := Lim.cells _) rfl sz51 rfl rfl (rfl) (by exact one_lim) q11 (by simp [Glb.cells, Lim.cells])) rfl rfl ?_
      rintro H10 ⟨u10, b10⟩
      have o0 := o0.upd u10 (by omega)
      have zu10 := u10.1
      have bx := ((u10).2 _ (by omega)).trans bx
      have oS := oS.upd u10 (by omega)
      have q9 := ((u10).2 _ (by omega)).trans q9
      have q11 := b10
      rw [over_all (by rfl)] at q11
      refine KL.op (R.assign rfl rfl) rfl rfl rfl ?_
      refine KL.nil ?_
      refine KQ.seq ?_
      refine KC.seq ?_
      refine KC.region ?_
      refine KL.op (R.move rfl rfl) rfl rfl rfl ?_
      refine KL.op (R.move rfl rfl) rfl rfl rfl ?_
      refine KL.call rfl rfl rfl rfl Try.call17 rfl rfl rfl (SMem_v (sp.old oS) i hi) ?_
      rintro _ H11 ⟨rfl, ox⟩
      have zc_H11 := (ox).1
      have o0 := o0.trans ox
      have bx := (ox).blk bx
      have oS := oS.trans ox
      have q9 := (ox).blk q9
      have q11 := (ox).blk q11
      refine KL.op (R.move rfl rfl) rfl rfl rfl ?_
      refine KL.op (R.extract rfl rfl rfl) rfl rfl rfl ?_
      refine KL.op (R.extract rfl rfl rfl) rfl rfl rfl ?_
      refine KL.opM (M.alloc rfl zr51 rfl) rfl rfl rfl ?_
      rintro _ H12 ⟨rfl, n12⟩
      have z12 := n12.2.1
      have o0 := o0.trans n12.1
      have bx := (n12.1).blk bx
      have oS := oS.trans n12.1
      have q9 := (n12.1).blk q9
      have q11 := (n12.1).blk q11
      have b12 := n12.2.2
      have q13 := b12
      refine KL.opS (S.storeAgg (us := Lim.cells _) rfl sz51 rfl rfl (rfl) (by exact one_lim) q13 (by simp [Glb.cells, Lim.cells])) rfl rfl ?_
      rintro H13 ⟨u13, b13⟩
      have o0 := o0.upd u13 (by omega)
      have zu13 := u13.1
      have bx := ((u13).2 _ (by omega)).trans bx
      have oS := oS.upd u13 (by omega)
      have q9 := ((u13).2 _ (by omega)).trans q9
      have q11 := ((u13).2 _ (by omega)).trans q11
      have q13 := b13
      rw [over_all (by rfl)] at q13
      refine KL.op (R.assign rfl rfl) rfl rfl rfl ?_
      refine KL.nil ?_
      refine KQ.seq ?_
      refine KC.seq ?_
      refine KC.region ?_
      refine KL.op (R.move rfl rfl) rfl rfl rfl ?_
      refine KL.op (R.convI rfl Try.underlying33 Try.underlying55 rfl (by dsimp only [InR]; omega)) rfl rfl rfl ?_
      refine KL.op (R.move rfl rfl) rfl rfl rfl ?_
      have hcs := cnt_small hsm kd
      have hcn := cntK_of m kd
      refine KL.op (R.convI rfl Try.underlying3 Try.underlying55 rfl (by dsimp only [InR]; omega)) rfl rfl rfl ?_
      refine KL.op (R.lss rfl rfl rfl) rfl rfl rfl ?_
      refine KL.op (R.assign rfl rfl) rfl rfl rfl ?_
      refine KL.nil ?_
      refine KQ.seq ?_
      have oK : Old H13 H13 := Old.refl _
      refine KC.seq ?_
      refine KC.cutD (κ := Unit) [63, 65, 64, 67, 68, 69, 66, 70, 71, 16, 17, 72, 73, 74, 75, 76, 6, 78, 77, 79, 80, 81, 83, 82, 84, 85, 86, 88, 87, 89, 90, 91] (fun _ => []) (fun _ Hl => Old H13 Hl) ?_ ?_
      · skip
        refine KC.seq ?_
        refine KC.region ?_
        refine KL.op (R.move rfl rfl) rfl rfl rfl ?_
        refine KL.nil ?_
        refine KQ.seq ?_
        refine KC.block ?_
        refine KC.seq ?_
        refine KC.region ?_
        refine KL.op (R.eql rfl rfl rfl) rfl rfl rfl ?_
        refine KL.op (R.assign rfl rfl) rfl rfl rfl ?_
        refine KL.nil ?_
        refine KQ.seq ?_
        refine KC.iteL rfl ?_ ?_
        · intro hc64
          try simp only [decide_eq_true_eq, decide_eq_false_iff_not, Bool.not_eq_true', Bool.not_eq_false', Bool.and_eq_true, Bool.or_eq_false_iff] at hc64
          refine KC.seq ?_
          refine KC.region ?_
          refine KL.op (R.move rfl rfl) rfl rfl rfl ?_
          refine KL.op (R.move rfl rfl) rfl rfl rfl ?_
          refine KL.call rfl rfl rfl rfl Try.call11 rfl rfl rfl (SFunc_any (sp.old oS) i (by omega) (fnAt_small hsm i)) ?_
          rintro _ H14 ⟨⟨aA, bA, rfl, wA, xA⟩, ox⟩
          have zc_H14 := (ox).1
          have o0 := o0.trans ox
          have bx := (ox).blk bx
          have oS := oS.trans ox
          have q9 := (ox).blk q9
          have q11 := (ox).blk q11
          have q13 := (ox).blk q13
          have oK := oK.trans ox
          have sA := wA.sl (emptyOld _) (by decide)
          have tA := xA.sl (emptyOld _) (by decide)
          have oA : Old H14 H14 := Old.refl _
          refine KL.op (R.move rfl rfl) rfl rfl rfl ?_
          refine KL.op (R.extract rfl rfl rfl) rfl rfl rfl ?_
          refine KL.op (R.extract rfl rfl rfl) rfl rfl rfl ?_
          refine KL.opM (M.alloc rfl zr24 rfl) rfl rfl rfl ?_
          rintro _ H15 ⟨rfl, n15⟩
          have z15 := n15.2.1
          have o0 := o0.trans n15.1
          have bx := (n15.1).blk bx
          have oS := oS.trans n15.1
          have q9 := (n15.1).blk q9
          have q11 := (n15.1).blk q11
          have q13 := (n15.1).blk q13
          have oK := oK.trans n15.1
          have oA := oA.trans n15.1
          have b15 := n15.2.2
          have q16 := b15
          refine KL.opS (S.storeAgg rfl sz24 rfl rfl (rfl) (by intro u hu; simp only [List.mem_cons, List.not_mem_nil, or_false] at hu; rcases hu with rfl | rfl <;> first | rfl | exact sA.one | exact tA.one) q16 (by simp)) rfl rfl ?_
          rintro H16 ⟨u16, b16⟩
          have o0 := o0.upd u16 (by omega)
          have zu16 := u16.1
          have bx := ((u16).2 _ (by omega)).trans bx
          have oS := oS.upd u16 (by omega)
          have q9 := ((u16).2 _ (by omega)).trans q9
          have q11 := ((u16).2 _ (by omega)).trans q11
          have q13 := ((u16).2 _ (by omega)).trans q13
          have oK := oK.upd u16 (by omega)
          have oA := oA.upd u16 (by omega)
          have q16 := b16
          rw [over_all (by rfl)] at q16
          refine KL.op (R.assign rfl rfl) rfl rfl rfl ?_
          refine KL.nil ?_
          refine KQ.seq ?_
          refine KC.seq ?_
          refine KC.region ?_
          refine KL.op (R.move rfl rfl) rfl rfl rfl ?_
          refine KL.op (R.move rfl rfl) rfl rfl rfl ?_
          refine KL.case (d := 73) rfl ?_ ?_
          · intro hg73
            try simp only [decide_eq_true_eq, decide_eq_false_iff_not, Bool.not_eq_true', Bool.not_eq_false', Bool.and_eq_true, Bool.or_eq_false_iff] at hg73
            have e0 : kd = 0 := by omega
            have hth := fn_there hg73
            refine KL.op (R.move rfl rfl) rfl rfl rfl ?_
            refine KL.op ((R.not rfl rfl).val (congrArg Value.bool (show _ = false from by
                subst e0
                have e2 : cntK (spcOf m) 0 = (fnL m).length := fnsOf_len m
                rw [Bool.not_eq_false', decide_eq_true_eq]; omega))) rfl rfl rfl ?_
            refine KL.op (R.pick rfl rfl rfl) rfl rfl rfl ?_
            refine KL.nil ?_
            refine KQ.seq ?_
            refine KC.condF rfl ?_
            refine KC.skip ?_
            refine KQ.normBlock ?_
            refine KQ.meet () ?_ ?_
            · exact (Ext.sub (by repeat (first | exact Ext.refl _ _ | refine Ext.put rfl ?_ | refine Ext.drop rfl ?_)))
            · exact oK
          · intro hg73
            try simp only [decide_eq_true_eq, decide_eq_false_iff_not, Bool.not_eq_true', Bool.not_eq_false', Bool.and_eq_true, Bool.or_eq_false_iff] at hg73
            refine KL.skip rfl rfl rfl ?_
            refine KL.skip rfl rfl rfl ?_
            refine KL.op (R.pick rfl rfl rfl) rfl rfl rfl ?_
            refine KL.nil ?_
            refine KQ.seq ?_
            refine KC.condF rfl ?_
            refine KC.skip ?_
            refine KQ.normBlock ?_
            refine KQ.meet () ?_ ?_
            · exact (Ext.sub (by repeat (first | exact Ext.refl _ _ | refine Ext.put rfl ?_ | refine Ext.drop rfl ?_)))
            · exact oK
        · intro hc64
          try simp only [decide_eq_true_eq, decide_eq_false_iff_not, Bool.not_eq_true', Bool.not_eq_false', Bool.and_eq_true, Bool.or_eq_false_iff] at hc64
          refine KC.seq ?_
          refine KC.region ?_
          refine KL.op (R.eql rfl rfl rfl) rfl rfl rfl ?_
          refine KL.op (R.assign rfl rfl) rfl rfl rfl ?_
          refine KL.nil ?_
          refine KQ.seq ?_
          refine KC.iteL rfl ?_ ?_
          · intro hc77
            try simp only [decide_eq_true_eq, decide_eq_false_iff_not, Bool.not_eq_true', Bool.not_eq_false', Bool.and_eq_true, Bool.or_eq_false_iff] at hc77
            refine KC.seq ?_
            refine KC.region ?_
            refine KL.op (R.move rfl rfl) rfl rfl rfl ?_
            refine KL.op (R.move rfl rfl) rfl rfl rfl ?_
            refine KL.op ((R.neqB rfl Try.underlying4 rfl rfl).val (congrArg Value.bool (show _ = false from by
                have e : kd = 1 := by omega
                subst e
                show (!(decide (i < (lmL m 1).length) == decide ((i : Int) < (((lmL m 1).length : Nat) : Int)))) = false
                rw [Bool.not_eq_false', beq_iff_eq, decide_eq_decide]; omega))) rfl rfl rfl ?_
            refine KL.nil ?_
            refine KQ.seq ?_
            refine KC.condF rfl ?_
            refine KC.skip ?_
            refine KQ.normBlock ?_
            refine KQ.meet () ?_ ?_
            · exact (Ext.sub (by repeat (first | exact Ext.refl _ _ | refine Ext.put rfl ?_ | refine Ext.drop rfl ?_)))
            · exact oK
          · intro hc77
            try simp only [decide_eq_true_eq, decide_eq_false_iff_not, Bool.not_eq_true', Bool.not_eq_false', Bool.and_eq_true, Bool.or_eq_false_iff] at hc77
            refine KC.seq ?_
            refine KC.region ?_
            refine KL.op (R.eql rfl rfl rfl) rfl rfl rfl ?_
            refine KL.op (R.assign rfl rfl) rfl rfl rfl ?_
            refine KL.nil ?_
            refine KQ.seq ?_
            refine KC.iteL rfl ?_ ?_
            · intro hc82
              try simp only [decide_eq_true_eq, decide_eq_false_iff_not, Bool.not_eq_true', Bool.not_eq_false', Bool.and_eq_true, Bool.or_eq_false_iff] at hc82
              refine KC.seq ?_
              refine KC.region ?_
              refine KL.op (R.move rfl rfl) rfl rfl rfl ?_
              refine KL.op (R.move rfl rfl) rfl rfl rfl ?_
              refine KL.op ((R.neqB rfl Try.underlying4 rfl rfl).val (congrArg Value.bool (show _ = false from by
                  have e : kd = 2 := by omega
                  subst e
                  show (!(decide (i < (lmL m 2).length) == decide ((i : Int) < (((lmL m 2).length : Nat) : Int)))) = false
                  rw [Bool.not_eq_false', beq_iff_eq, decide_eq_decide]; omega))) rfl rfl rfl ?_
              refine KL.nil ?_
              refine KQ.seq ?_
              refine KC.condF rfl ?_
              refine KC.skip ?_
              refine KQ.normBlock ?_
              refine KQ.meet () ?_ ?_
              · exact (Ext.sub (by repeat (first | exact Ext.refl _ _ | refine Ext.put rfl ?_ | refine Ext.drop rfl ?_)))
              · exact oK
            · intro hc82
              try simp only [decide_eq_true_eq, decide_eq_false_iff_not, Bool.not_eq_true', Bool.not_eq_false', Bool.and_eq_true, Bool.or_eq_false_iff] at hc82
              refine KC.seq ?_
              refine KC.region ?_
              refine KL.op (R.eql rfl rfl rfl) rfl rfl rfl ?_
              refine KL.op (R.assign rfl rfl) rfl rfl rfl ?_
              refine KL.nil ?_
              refine KQ.seq ?_
              refine KC.iteL rfl ?_ ?_
              · intro hc87
                try simp only [decide_eq_true_eq, decide_eq_false_iff_not, Bool.not_eq_true', Bool.not_eq_false', Bool.and_eq_true, Bool.or_eq_false_iff] at hc87
                refine KC.seq ?_
                refine KC.region ?_
                refine KL.op (R.move rfl rfl) rfl rfl rfl ?_
                refine KL.op (R.move rfl rfl) rfl rfl rfl ?_
                refine KL.op ((R.neqB rfl Try.underlying4 rfl rfl).val (congrArg Value.bool (show _ = false from by
                    have e : kd = 3 := by omega
                    subst e
                    show (!(decide (i < (glL m).length) == decide ((i : Int) < (((glL m).length : Nat) : Int)))) = false
                    rw [Bool.not_eq_false', beq_iff_eq, decide_eq_decide]; omega))) rfl rfl rfl ?_
                refine KL.nil ?_
                refine KQ.seq ?_
                refine KC.condF rfl ?_
                refine KC.skip ?_
                refine KQ.normBlock ?_
                refine KQ.meet () ?_ ?_
                · exact (Ext.sub (by repeat (first | exact Ext.refl _ _ | refine Ext.put rfl ?_ | refine Ext.drop rfl ?_)))
                · exact oK
              · intro hc87
                try simp only [decide_eq_true_eq, decide_eq_false_iff_not, Bool.not_eq_true', Bool.not_eq_false', Bool.and_eq_true, Bool.or_eq_false_iff] at hc87
                refine KC.skip ?_
                refine KQ.normBlock ?_
                refine KQ.meet () ?_ ?_
                · exact (Ext.sub (by repeat (first | exact Ext.refl _ _ | refine Ext.put rfl ?_ | refine Ext.drop rfl ?_)))
                · exact oK
      · rintro _ H17 oQ
        have o0 := o0.trans oQ
        have bx := oQ.blk bx
        have oS := oS.trans oQ
        have zoq := oQ.1
        refine KQ.seq ?_
        refine KC.seq ?_
        refine KC.seq ?_
        refine KC.region ?_
        refine KL.op (R.move rfl rfl) rfl rfl rfl ?_
        refine KL.op (R.move rfl rfl) rfl rfl rfl ?_
        refine KL.call rfl rfl rfl rfl Try.call23 rfl rfl rfl (SImp_any (sp.old oS) kd) ?_
        rintro _ _ ⟨rfl, rfl⟩
        refine KL.op (R.move rfl rfl) rfl rfl rfl ?_
        refine KL.op ((R.gtr rfl rfl rfl).val (congrArg Value.bool (decide_eq_false (by have := cntK_of m kd; have := impK_of m kd; omega)))) rfl rfl rfl ?_
        refine KL.nil ?_
        refine KQ.seq ?_
        refine KC.condF rfl ?_
        refine KC.skip ?_
        refine KQ.seq ?_
        refine KC.seq ?_
        refine KC.region ?_
        refine KL.op (R.loadAgg rfl Try.underlying38 rfl sz38 rfl (by first | exact cells_of bx | assumption) rfl) rfl rfl rfl ?_
        refine KL.opM (M.alloc rfl zr38 rfl) rfl rfl rfl ?_
        rintro _ H18 ⟨rfl, n18⟩
        have z18 := n18.2.1
        have o0 := o0.trans n18.1
        have bx := (n18.1).blk bx
        have oS := oS.trans n18.1
        have b18 := n18.2.2
        have q18 := b18
        refine KL.opS (S.storeAgg rfl sz38 rfl rfl (rfl) (by intro u hu; simp only [List.mem_cons, List.not_mem_nil, or_false] at hu; obtain ⟨z1, z2, z3, z4, z5⟩ := mv.o; rcases hu with rfl | rfl | rfl | rfl | rfl | rfl | rfl | rfl | rfl | rfl | rfl | rfl <;> first | exact mv.t.one | exact mv.i.one | exact mv.f.one | exact mv.a.one | exact mv.mm.one | exact mv.g.one | exact mv.e.one | assumption) q18 (by simp)) rfl rfl ?_
        rintro H19 ⟨u19, b19⟩
        have o0 := o0.upd u19 (by omega)
        have zu19 := u19.1
        have bx := ((u19).2 _ (by omega)).trans bx
        have oS := oS.upd u19 (by omega)
        have q18 := b19
        rw [over_all (by rfl)] at q18
        refine KL.nil ?_
        refine KQ.seq ?_
        refine KC.seq ?_
        refine KC.region ?_
        refine KL.opM (M.lit rfl Try.underlying28 zs63 (by decide) rfl rfl rfl) rfl rfl rfl ?_
        rintro _ H20 ⟨rfl, n20⟩
        have z20 := n20.2.1
        have o0 := o0.trans n20.1
        have bx := (n20.1).blk bx
        have oS := oS.trans n20.1
        have q18 := (n20.1).blk q18
        have b20 := n20.2.2
        have wa : Own 8 EImp 63 #[] (Array.size H19) H20 (.slice (some ⟨Array.size H19, 0, none⟩) 0 0) ([] : List Imp) := Own.litN (l := []) n20 (Nat.le_refl _) rfl (by decide) rfl (by intro j x hj; cases hj)
        refine KL.op ((by first | exact R.fieldAddr rfl Try.underlying38 rfl rfl sz28 rfl | exact R.fieldAddrP rfl Try.underlying38 rfl rfl sz28 rfl)) rfl rfl rfl ?_
        refine KL.op (R.load rfl Try.underlying28 rfl rfl (by first | exact cell_of bx rfl | exact cell_of q18 rfl | assumption)) rfl rfl rfl ?_
        have lt21 := wa.lt
        refine KL.opM (M.append rfl Try.underlying28 inf63 rfl (by decide) rfl rfl wa (by exact (mv.i.old o0)) (fun _ _ h _ => h) (by omega) (by simp only [List.length_append, List.length_nil, List.length_singleton]; have := hsm.i; omega) (by unfold maxLen; simp only [List.length_append, List.length_nil, List.length_singleton]; have := hsm.i; omega)) rfl rfl rfl ?_
        rintro vn1 H21 ⟨w21, g21⟩
        try dsimp only at g21
        have ob21 := g21.oldB wa (by omega)
        have o0 := o0.then ob21 (by omega)
        have z21 := ob21.1
        have bx := (g21.2 _ (blk_lt bx) (by first | exact .inr (by omega) | exact .inl rfl | exact lt21.imp id (fun h => by omega))).trans bx
        have oS := oS.then ob21 (by omega)
        have q18 := (g21.2 _ (blk_lt q18) (by first | exact .inr (by omega) | exact .inl rfl | exact lt21.imp id (fun h => by omega))).trans q18
        have wa := w21
        refine KL.op (R.move rfl rfl) rfl rfl rfl ?_
        refine KL.op (R.build (places := #[(0, 1), (1, 1)]) (cs := #[.int .u8 126, .bool true]) rfl Try.underlying46 zr46 (fun w => by kernel_rfl) rfl (by kernel_rfl)) rfl rfl rfl ?_
        refine KL.op (R.build (places := #[(0, 1), (1, 1)]) (cs := #[.int .u32 99, .int .i64 0]) rfl Try.underlying51 zr51 (fun w => by kernel_rfl) rfl (by kernel_rfl)) rfl rfl rfl ?_
        refine KL.op (R.build (places := #[(0, 1), (1, 1), (2, 1), (3, 1), (4, 2), (6, 2)]) (cs := #[.string ⟨#[]⟩, .string ⟨#[]⟩, .int .u8 (kd : Nat), .int .u32 1, .int .u32 99, .int .i64 0, .int .u8 126, .bool true]) rfl Try.underlying63 zr63 (fun w => by kernel_rfl) rfl (by kernel_rfl)) rfl rfl rfl ?_
        refine KL.opM (M.lit rfl Try.underlying28 zs63 (by decide) rfl rfl rfl) rfl rfl rfl ?_
        rintro _ H22 ⟨rfl, n22⟩
        have z22 := n22.2.1
        have o0 := o0.trans n22.1
        have bx := (n22.1).blk bx
        have oS := oS.trans n22.1
        have q18 := (n22.1).blk q18
        have wa := wa.old n22.1
        have b22 := n22.2.2
        have se : Sl 8 EImp H22 _ [(⟨⟨#[]⟩, ⟨#[]⟩, (kd : Int), 1, (99, 0), (126, true)⟩ : Imp)] := Sl.lit1N n22 rfl (by decide) ⟨rfl, by unfold Imp.R Lim.R Glb.R; dsimp only [InR]; omega⟩
        have lt23 := wa.lt
        refine KL.opM (M.append rfl Try.underlying28 inf63 rfl (by decide) rfl rfl wa (by exact se) (fun _ _ h _ => h) (by omega) (by simp only [List.length_append, List.length_nil, List.length_singleton]; have := hsm.i; omega) (by unfold maxLen; simp only [List.length_append, List.length_nil, List.length_singleton]; have := hsm.i; omega)) rfl rfl rfl ?_
        rintro vn2 H23 ⟨w23, g23⟩
        try dsimp only at g23
        have ob23 := g23.oldB wa (by omega)
        have o0 := o0.then ob23 (by omega)
        have z23 := ob23.1
        have bx := (g23.2 _ (blk_lt bx) (by first | exact .inr (by omega) | exact .inl rfl | exact lt23.imp id (fun h => by omega))).trans bx
        have oS := oS.then ob23 (by omega)
        have q18 := (g23.2 _ (blk_lt q18) (by first | exact .inr (by omega) | exact .inl rfl | exact lt23.imp id (fun h => by omega))).trans q18
        have wa := w23
        refine KL.op ((by first | exact R.fieldAddr rfl Try.underlying38 rfl rfl sz28 rfl | exact R.fieldAddrP rfl Try.underlying38 rfl rfl sz28 rfl)) rfl rfl rfl ?_
        refine KL.opS (S.store rfl sz28 rfl rfl wa.cells1 wa.one q18 (by simp)) rfl rfl ?_
        rintro H24 ⟨u24, b24⟩
        have o0 := o0.upd u24 (by omega)
        have zu24 := u24.1
        have bx := ((u24).2 _ (by omega)).trans bx
        have oS := oS.upd u24 (by omega)
        have wa := wa.upd u24 (by first | exact .inl rfl | exact .inr (by omega) | exact wa.lt.imp id (fun h => by omega))
        have q18 := b24
        have ms : MV H24 v0 vn2 v2 v3 v4 v5 v6 v7 v8 v9 va vb (addI m ⟨⟨#[]⟩, ⟨#[]⟩, (kd : Int), 1, (99, 0), (126, true)⟩) := ⟨mv.t.old o0, wa.sl (emptyOld _) (by decide), mv.f.old o0, mv.a.old o0, mv.mm.old o0, mv.g.old o0, mv.e.old o0, mv.o⟩
        have hsm2 : (addI m ⟨⟨#[]⟩, ⟨#[]⟩, (kd : Int), 1, (99, 0), (126, true)⟩).Small := small_of (by unfold six addI at *; simp only [List.length_append, List.length_singleton]; omega)
        have oM : Old H24 H24 := Old.refl _
        refine KL.nil ?_
        refine KQ.seq ?_
        refine KC.seq ?_
        refine KC.region ?_
        refine KL.op (R.loadAgg (cs := [v0, vn2, v2, v3, v4, v5, v6, v7, v8, v9, va, vb]) rfl Try.underlying38 rfl sz38 rfl (cells_of q18) rfl) rfl rfl rfl ?_
        refine KL.call rfl rfl rfl rfl Try.call10 rfl rfl rfl (Of_any (ms.old oM) hsm2) ?_
        rintro _ H25 ⟨g2, wt2, wf2, wg2, wa2, wm2, we2, rfl, sp2, hg2, ox⟩
        have zc_H25 := (ox).1
        have o0 := o0.trans ox
        have bx := (ox).blk bx
        have oS := oS.trans ox
        have q18 := (ox).blk q18
        have oM := oM.trans ox
        have oR : Old H25 H25 := Old.refl _
        have hin := impN_add (m := m) (x := ⟨⟨#[]⟩, ⟨#[]⟩, (kd : Int), 1, (99, 0), (126, true)⟩) hk3 rfl
        have hon := ownK_add m ⟨⟨#[]⟩, ⟨#[]⟩, (kd : Int), 1, (99, 0), (126, true)⟩ kd
        have hc2 := cntK_of (addI m ⟨⟨#[]⟩, ⟨#[]⟩, (kd : Int), 1, (99, 0), (126, true)⟩) kd
        have hi2 := impK_of (addI m ⟨⟨#[]⟩, ⟨#[]⟩, (kd : Int), 1, (99, 0), (126, true)⟩) kd
        have hi1 := impK_of m kd
        refine KL.op (R.assign rfl rfl) rfl rfl rfl ?_
        refine KL.nil ?_
        refine KQ.seq ?_
        refine KC.seq ?_
        refine KC.seq ?_
        refine KC.region ?_
        refine KL.op (R.move rfl rfl) rfl rfl rfl ?_
        refine KL.op (R.move rfl rfl) rfl rfl rfl ?_
        refine KL.call rfl rfl rfl rfl Try.call21 rfl rfl rfl (SCount_any (sp2.old oR) kd) ?_
        rintro _ _ ⟨rfl, rfl⟩
        refine KL.op (R.move rfl rfl) rfl rfl rfl ?_
        refine KL.op (R.add rfl rfl rfl (by dsimp only [InR]; omega)) rfl rfl rfl ?_
        refine KL.op ((R.neq rfl rfl rfl).val ((congrArg (fun b => Value.bool (!b)) (decide_eq_true (by omega))))) rfl rfl rfl ?_
        refine KL.op (R.move rfl rfl) rfl rfl rfl ?_
        refine KL.op (R.move rfl rfl) rfl rfl rfl ?_
        refine KL.op (R.move rfl rfl) rfl rfl rfl ?_
        refine KL.call rfl rfl rfl rfl Try.call23 rfl rfl rfl (SImp_any (sp2.old oR) kd) ?_
        rintro _ _ ⟨rfl, rfl⟩
        refine KL.op (R.move rfl rfl) rfl rfl rfl ?_
        refine KL.op (R.move rfl rfl) rfl rfl rfl ?_
        refine KL.call rfl rfl rfl rfl Try.call23 rfl rfl rfl (SImp_any (sp.old oS) kd) ?_
        rintro _ _ ⟨rfl, rfl⟩
        refine KL.op (R.add rfl rfl rfl (by dsimp only [InR]; omega)) rfl rfl rfl ?_
        refine KL.op ((R.neq rfl rfl rfl).val ((congrArg (fun b => Value.bool (!b)) (decide_eq_true (by omega))))) rfl rfl rfl ?_
        refine KL.op (R.pick rfl rfl rfl) rfl rfl rfl ?_
        refine KL.nil ?_
        refine KQ.seq ?_
        refine KC.condF rfl ?_
        refine KC.skip ?_
        refine KQ.seq ?_
        refine KC.seq ?_
        refine KC.seq ?_
        refine KC.region ?_
        refine KL.op (R.move rfl rfl) rfl rfl rfl ?_
        refine KL.op (R.eql rfl rfl rfl) rfl rfl rfl ?_
        refine KL.nil ?_
        refine KQ.seq ?_
        refine KC.iteL rfl ?_ ?_
        · intro hc128
          try simp only [decide_eq_true_eq, decide_eq_false_iff_not, Bool.not_eq_true', Bool.not_eq_false', Bool.and_eq_true, Bool.or_eq_false_iff] at hc128
          refine KC.seq ?_
          refine KC.region ?_
          refine KL.op (R.assign rfl rfl) rfl rfl rfl ?_
          refine KL.nil ?_
          refine KQ.seq ?_
          refine KC.ret ?_
          refine KQ.retThen ?_
          refine KQ.ofRet ?_
          refine KQ.fin1 Try.results5 rfl ?_
          exact ⟨rfl, o0⟩
        · intro hc128
          try simp only [decide_eq_true_eq, decide_eq_false_iff_not, Bool.not_eq_true', Bool.not_eq_false', Bool.and_eq_true, Bool.or_eq_false_iff] at hc128
          have hi5 : i < 4294967295 := by omega
          have hj5 := jx_le (impN m kd) i
          refine KC.skip ?_
          refine KQ.seq ?_
          refine KC.seq ?_
          refine KC.region ?_
          refine KL.op (R.move rfl rfl) rfl rfl rfl ?_
          refine KL.op (R.assign rfl rfl) rfl rfl rfl ?_
          refine KL.nil ?_
          refine KQ.seq ?_
          refine KC.seq ?_
          refine KC.cutD (κ := Unit) [130, 131, 132, 133, 134, 135, 136, 137, 138, 20] (fun _ => [(20, .int .u32 ((jx (impN m kd) i) : Nat))]) (fun _ Hl => H25 = Hl) ?_ ?_
          · skip
            refine KC.seq ?_
            refine KC.region ?_
            refine KL.op (R.move rfl rfl) rfl rfl rfl ?_
            refine KL.op (R.convI rfl Try.underlying33 Try.underlying55 rfl (by dsimp only [InR]; omega)) rfl rfl rfl ?_
            refine KL.op (R.move rfl rfl) rfl rfl rfl ?_
            refine KL.op (R.move rfl rfl) rfl rfl rfl ?_
            refine KL.call rfl rfl rfl rfl Try.call23 rfl rfl rfl (SImp_any (sp.old oS) kd) ?_
            rintro _ _ ⟨rfl, rfl⟩
            refine KL.op (R.convI rfl Try.underlying3 Try.underlying55 rfl (by dsimp only [InR]; omega)) rfl rfl rfl ?_
            refine KL.op (R.geq rfl rfl rfl) rfl rfl rfl ?_
            refine KL.nil ?_
            refine KQ.seq ?_
            refine KC.iteL rfl ?_ ?_
            · intro hc136
              try simp only [decide_eq_true_eq, decide_eq_false_iff_not, Bool.not_eq_true', Bool.not_eq_false', Bool.and_eq_true, Bool.or_eq_false_iff] at hc136
              refine KC.region ?_
              refine KL.op (R.move rfl rfl) rfl rfl rfl ?_
              refine KL.op ((R.add rfl rfl rfl (by dsimp only [InR]; omega)).val (congrArg (Value.int .u32) (show (i : Int) + 1 = ((i + 1 : Nat) : Int) by omega))) rfl rfl rfl ?_
              refine KL.op (R.assign rfl rfl) rfl rfl rfl ?_
              refine KL.nil ?_
              refine KQ.meet () ?_ ?_
              · exact (Sub.cons (by first | (rw [jx_pos (by omega)]; rfl) | (rw [jx_neg (by omega)]; rfl)) (Ext.sub (by repeat (first | exact Ext.refl _ _ | refine Ext.put rfl ?_ | refine Ext.drop rfl ?_))))
              · exact rfl
            · intro hc136
              try simp only [decide_eq_true_eq, decide_eq_false_iff_not, Bool.not_eq_true', Bool.not_eq_false', Bool.and_eq_true, Bool.or_eq_false_iff] at hc136
              refine KC.skip ?_
              refine KQ.meet () ?_ ?_
              · exact (Sub.cons (by first | (rw [jx_pos (by omega)]; rfl) | (rw [jx_neg (by omega)]; rfl)) (Ext.sub (by repeat (first | exact Ext.refl _ _ | refine Ext.put rfl ?_ | refine Ext.drop rfl ?_))))
              · exact rfl
          · rintro _ _ rfl
            refine KQ.seq ?_
            refine KC.seq ?_
            refine KC.region ?_
            refine KL.op (R.move rfl rfl) rfl rfl rfl ?_
            refine KL.op (R.move rfl rfl) rfl rfl rfl ?_
            refine KL.call rfl rfl rfl rfl Try.call11 rfl rfl rfl (SFunc_any (sp.old oS) i (by omega) (fnAt_small hsm i)) ?_
            rintro _ H26 ⟨⟨aC, bC, rfl, wC, xC⟩, ox⟩
            have zc_H26 := (ox).1
            have o0 := o0.trans ox
            have bx := (ox).blk bx
            have oS := oS.trans ox
            have q18 := (ox).blk q18
            have oM := oM.trans ox
            have oR := oR.trans ox
            have sC := wC.sl (emptyOld _) (by decide)
            have tC := xC.sl (emptyOld _) (by decide)
            have oC : Old H26 H26 := Old.refl _
            refine KL.op (R.move rfl rfl) rfl rfl rfl ?_
            refine KL.op (R.extract rfl rfl rfl) rfl rfl rfl ?_
            refine KL.op (R.extract rfl rfl rfl) rfl rfl rfl ?_
            refine KL.opM (M.alloc rfl zr24 rfl) rfl rfl rfl ?_
            rintro _ H27 ⟨rfl, n27⟩
            have z27 := n27.2.1
            have o0 := o0.trans n27.1
            have bx := (n27.1).blk bx
            have oS := oS.trans n27.1
            have q18 := (n27.1).blk q18
            have oM := oM.trans n27.1
            have oR := oR.trans n27.1
            have oC := oC.trans n27.1
            have b27 := n27.2.2
            have q21 := b27
            refine KL.opS (S.storeAgg rfl sz24 rfl rfl (rfl) (by intro u hu; simp only [List.mem_cons, List.not_mem_nil, or_false] at hu; rcases hu with rfl | rfl <;> first | rfl | exact sC.one | exact tC.one) q21 (by simp)) rfl rfl ?_
            rintro H28 ⟨u28, b28⟩
            have o0 := o0.upd u28 (by omega)
            have zu28 := u28.1
            have bx := ((u28).2 _ (by omega)).trans bx
            have oS := oS.upd u28 (by omega)
            have q18 := ((u28).2 _ (by omega)).trans q18
            have oM := oM.upd u28 (by omega)
            have oR := oR.upd u28 (by omega)
            have oC := oC.upd u28 (by omega)
            have q21 := b28
            rw [over_all (by rfl)] at q21
            refine KL.op (R.assign rfl rfl) rfl rfl rfl ?_
            refine KL.nil ?_
            refine KQ.seq ?_
            refine KC.seq ?_
            refine KC.region ?_
            refine KL.op (R.move rfl rfl) rfl rfl rfl ?_
            refine KL.op (R.move rfl rfl) rfl rfl rfl ?_
            refine KL.call rfl rfl rfl rfl Try.call11 rfl rfl rfl (SFunc_any (sp2.old oR) (jx (impN m kd) i) (by omega) (fnAt_small hsm2 (jx (impN m kd) i))) ?_
            rintro _ H29 ⟨⟨aD, bD, rfl, wD, xD⟩, ox⟩
            have zc_H29 := (ox).1
            have o0 := o0.trans ox
            have bx := (ox).blk bx
            have oS := oS.trans ox
            have q18 := (ox).blk q18
            have oM := oM.trans ox
            have oR := oR.trans ox
            have oC := oC.trans ox
            have q21 := (ox).blk q21
            have sD := wD.sl (emptyOld _) (by decide)
            have tD := xD.sl (emptyOld _) (by decide)
            have oD : Old H29 H29 := Old.refl _
            refine KL.op (R.move rfl rfl) rfl rfl rfl ?_
            refine KL.op (R.extract rfl rfl rfl) rfl rfl rfl ?_
            refine KL.op (R.extract rfl rfl rfl) rfl rfl rfl ?_
            refine KL.opM (M.alloc rfl zr24 rfl) rfl rfl rfl ?_
            rintro _ H30 ⟨rfl, n30⟩
            have z30 := n30.2.1
            have o0 := o0.trans n30.1
            have bx := (n30.1).blk bx
            have oS := oS.trans n30.1
            have q18 := (n30.1).blk q18
            have oM := oM.trans n30.1
            have oR := oR.trans n30.1
            have oC := oC.trans n30.1
            have q21 := (n30.1).blk q21
            have oD := oD.trans n30.1
            have b30 := n30.2.2
            have q23 := b30
            refine KL.opS (S.storeAgg rfl sz24 rfl rfl (rfl) (by intro u hu; simp only [List.mem_cons, List.not_mem_nil, or_false] at hu; rcases hu with rfl | rfl <;> first | rfl | exact sD.one | exact tD.one) q23 (by simp)) rfl rfl ?_
            rintro H31 ⟨u31, b31⟩
            have o0 := o0.upd u31 (by omega)
            have zu31 := u31.1
            have bx := ((u31).2 _ (by omega)).trans bx
            have oS := oS.upd u31 (by omega)
            have q18 := ((u31).2 _ (by omega)).trans q18
            have oM := oM.upd u31 (by omega)
            have oR := oR.upd u31 (by omega)
            have oC := oC.upd u31 (by omega)
            have q21 := ((u31).2 _ (by omega)).trans q21
            have oD := oD.upd u31 (by omega)
            have q23 := b31
            rw [over_all (by rfl)] at q23
            refine KL.op (R.assign rfl rfl) rfl rfl rfl ?_
            refine KL.nil ?_
            refine KQ.seq ?_
            refine KC.seq ?_
            refine KC.seq ?_
            refine KC.region ?_
            refine KL.op (R.move rfl rfl) rfl rfl rfl ?_
            refine KL.op (R.eql rfl rfl rfl) rfl rfl rfl ?_
            refine KL.op (R.move rfl rfl) rfl rfl rfl ?_
            refine KL.case (d := 153) rfl ?_ ?_
            · intro hg153
              try simp only [decide_eq_true_eq, decide_eq_false_iff_not, Bool.not_eq_true', Bool.not_eq_false', Bool.and_eq_true, Bool.or_eq_false_iff] at hg153
              have e0 : kd = 0 := by omega
              have hsh : fnAt (fnsOf (addI m ⟨⟨#[]⟩, ⟨#[]⟩, (kd : Int), 1, (99, 0), (126, true)⟩)) (jx (impN m kd) i) = fnAt (fnsOf m) i := by subst e0; exact fnAt_shift rfl
              refine KL.op (R.loadAgg rfl Try.underlying24 rfl sz24 rfl (by first | exact cells_of bx | exact cells_of q18 | exact cells_of q21 | exact cells_of q23 | assumption) rfl) rfl rfl rfl ?_
              refine KL.op (R.loadAgg rfl Try.underlying24 rfl sz24 rfl (by first | exact cells_of bx | exact cells_of q18 | exact cells_of q21 | exact cells_of q23 | assumption) rfl) rfl rfl rfl ?_
              refine KL.call rfl rfl rfl rfl Try.call7 rfl rfl rfl (Ct.mono (R' := fun u H' => u = .bool true ∧ Old H31 H') (Same_any (sC.old oC) (tC.old oC) (sD.old oD) (tD.old oD)) (fun v H' h => ⟨h.1.trans (congrArg Value.bool (decide_eq_true (congrArg Prod.fst hsh.symm))), h.2⟩)) ?_
              rintro _ H32 ⟨rfl, ox⟩
              have zc_H32 := (ox).1
              have o0 := o0.trans ox
              have bx := (ox).blk bx
              have oS := oS.trans ox
              have q18 := (ox).blk q18
              have oM := oM.trans ox
              have oR := oR.trans ox
              have oC := oC.trans ox
              have q21 := (ox).blk q21
              have oD := oD.trans ox
              have q23 := (ox).blk q23
              refine KL.op (R.not rfl rfl) rfl rfl rfl ?_
              refine KL.op (R.move rfl rfl) rfl rfl rfl ?_
              refine KL.op (R.move rfl rfl) rfl rfl rfl ?_
              refine KL.op (R.move rfl rfl) rfl rfl rfl ?_
              refine KL.op ((R.neqB rfl Try.underlying4 rfl rfl).val (congrArg Value.bool (show (!((fnAt (fnsOf m) i).2 == (fnAt (fnsOf (addI m ⟨⟨#[]⟩, ⟨#[]⟩, (kd : Int), 1, (99, 0), (126, true)⟩)) (jx (impN m kd) i)).2)) = false by rw [hsh]; simp))) rfl rfl rfl ?_
              refine KL.op (R.pick rfl rfl rfl) rfl rfl rfl ?_
              refine KL.op (R.pick rfl rfl rfl) rfl rfl rfl ?_
              refine KL.nil ?_
              refine KQ.seq ?_
              refine KC.condF rfl ?_
              refine KC.skip ?_
              refine KQ.seq ?_
              refine KC.seq ?_
              refine KC.region ?_
              refine KL.op (R.move rfl rfl) rfl rfl rfl ?_
              refine KL.op (R.move rfl rfl) rfl rfl rfl ?_
              refine KL.call rfl rfl rfl rfl Try.call13 rfl rfl rfl (SGlobal_v (sp.old oS) i hi) ?_
              rintro _ H33 ⟨rfl, ox⟩
              have zc_H33 := (ox).1
              have o0 := o0.trans ox
              have bx := (ox).blk bx
              have oS := oS.trans ox
              have q18 := (ox).blk q18
              have oM := oM.trans ox
              have oR := oR.trans ox
              have oC := oC.trans ox
              have q21 := (ox).blk q21
              have oD := oD.trans ox
              have q23 := (ox).blk q23
              refine KL.op (R.move rfl rfl) rfl rfl rfl ?_
              refine KL.op (R.extract rfl rfl rfl) rfl rfl rfl ?_
              refine KL.op (R.extract rfl rfl rfl) rfl rfl rfl ?_
              refine KL.opM (M.alloc rfl zr46 rfl) rfl rfl rfl ?_
              rintro _ H34 ⟨rfl, n34⟩
              have z34 := n34.2.1
              have o0 := o0.trans n34.1
              have bx := (n34.1).blk bx
              have oS := oS.trans n34.1
              have q18 := (n34.1).blk q18
              have oM := oM.trans n34.1
              have oR := oR.trans n34.1
              have oC := oC.trans n34.1
              have q21 := (n34.1).blk q21
              have oD := oD.trans n34.1
              have q23 := (n34.1).blk q23
              have b34 := n34.2.2
              have q25 := b34
              refine KL.opS (S.storeAgg (us := Glb.cells _) rfl sz46 rfl rfl (rfl) (by exact one_glb) q25 (by simp [Glb.cells, Lim.cells])) rfl rfl ?_
              rintro H35 ⟨u35, b35⟩
              have o0 := o0.upd u35 (by omega)
              have zu35 := u35.1
              have bx := ((u35).2 _ (by omega)).trans bx
              have oS := oS.upd u35 (by omega)
              have q18 := ((u35).2 _ (by omega)).trans q18
              have oM := oM.upd u35 (by omega)
              have oR := oR.upd u35 (by omega)
              have oC := oC.upd u35 (by omega)
              have q21 := ((u35).2 _ (by omega)).trans q21
              have oD := oD.upd u35 (by omega)
              have q23 := ((u35).2 _ (by omega)).trans q23
              have q25 := b35
              rw [over_all (by rfl)] at q25
              refine KL.op (R.assign rfl rfl) rfl rfl rfl ?_
              refine KL.nil ?_
              refine KQ.seq ?_
              refine KC.seq ?_
              refine KC.region ?_
              refine KL.op (R.move rfl rfl) rfl rfl rfl ?_
              refine KL.op (R.move rfl rfl) rfl rfl rfl ?_
              refine KL.call rfl rfl rfl rfl Try.call13 rfl rfl rfl (SGlobal_v (sp2.old oR) (jx (impN m kd) i) (by omega)) ?_
              rintro _ H36 ⟨rfl, ox⟩
              have zc_H36 := (ox).1
              have o0 := o0.trans ox
              have bx := (ox).blk bx
              have oS := oS.trans ox
              have q18 := (ox).blk q18
              have oM := oM.trans ox
              have oR := oR.trans ox
              have oC := oC.trans ox
              have q21 := (ox).blk q21
              have oD := oD.trans ox
              have q23 := (ox).blk q23
              have q25 := (ox).blk q25
              refine KL.op (R.move rfl rfl) rfl rfl rfl ?_
              refine KL.op (R.extract rfl rfl rfl) rfl rfl rfl ?_
              refine KL.op (R.extract rfl rfl rfl) rfl rfl rfl ?_
              refine KL.opM (M.alloc rfl zr46 rfl) rfl rfl rfl ?_
              rintro _ H37 ⟨rfl, n37⟩
              have z37 := n37.2.1
              have o0 := o0.trans n37.1
              have bx := (n37.1).blk bx
              have oS := oS.trans n37.1
              have q18 := (n37.1).blk q18
              have oM := oM.trans n37.1
              have oR := oR.trans n37.1
              have oC := oC.trans n37.1
              have q21 := (n37.1).blk q21
              have oD := oD.trans n37.1
              have q23 := (n37.1).blk q23
              have q25 := (n37.1).blk q25
              have b37 := n37.2.2
              have q26 := b37
              refine KL.opS (S.storeAgg (us := Glb.cells _) rfl sz46 rfl rfl (rfl) (by exact one_glb) q26 (by simp [Glb.cells, Lim.cells])) rfl rfl ?_
              rintro H38 ⟨u38, b38⟩
              have o0 := o0.upd u38 (by omega)
              have zu38 := u38.1
              have bx := ((u38).2 _ (by omega)).trans bx
              have oS := oS.upd u38 (by omega)
              have q18 := ((u38).2 _ (by omega)).trans q18
              have oM := oM.upd u38 (by omega)
              have oR := oR.upd u38 (by omega)
              have oC := oC.upd u38 (by omega)
              have q21 := ((u38).2 _ (by omega)).trans q21
              have oD := oD.upd u38 (by omega)
              have q23 := ((u38).2 _ (by omega)).trans q23
              have q25 := ((u38).2 _ (by omega)).trans q25
              have q26 := b38
              rw [over_all (by rfl)] at q26
              refine KL.op (R.assign rfl rfl) rfl rfl rfl ?_
              refine KL.nil ?_
              refine KQ.seq ?_
              refine KC.seq ?_
              refine KC.region ?_
              refine KL.op (R.move rfl rfl) rfl rfl rfl ?_
              refine KL.op (R.neq rfl rfl rfl) rfl rfl rfl ?_
              refine KL.op (R.move rfl rfl) rfl rfl rfl ?_
              refine KL.case (d := 178) rfl ?_ ?_
              · intro hg178
                try simp only [decide_eq_true_eq, decide_eq_false_iff_not, Bool.not_eq_true', Bool.not_eq_false', Bool.and_eq_true, Bool.or_eq_false_iff] at hg178
                refine KL.skip rfl rfl rfl ?_
                refine KL.skip rfl rfl rfl ?_
                refine KL.skip rfl rfl rfl ?_
                refine KL.skip rfl rfl rfl ?_
                refine KL.skip rfl rfl rfl ?_
                refine KL.skip rfl rfl rfl ?_
                refine KL.skip rfl rfl rfl ?_
                refine KL.skip rfl rfl rfl ?_
                refine KL.op (R.pick rfl rfl rfl) rfl rfl rfl ?_
                refine KL.op (R.assign rfl rfl) rfl rfl rfl ?_
                refine KL.nil ?_
                refine KQ.seq ?_
                refine KC.ret ?_
                refine KQ.ofRet ?_
                refine KQ.fin1 Try.results5 rfl ?_
                exact ⟨rfl, o0⟩
              · intro hg178
                try simp only [decide_eq_true_eq, decide_eq_false_iff_not, Bool.not_eq_true', Bool.not_eq_false', Bool.and_eq_true, Bool.or_eq_false_iff] at hg178
                have e3 : kd = 3 := by omega
                have hgs : glbAt (glL (addI m ⟨⟨#[]⟩, ⟨#[]⟩, (kd : Int), 1, (99, 0), (126, true)⟩)) (jx (impN m kd) i) = glbAt (glL m) i ∧ ((jx (impN m kd) i) < (glL (addI m ⟨⟨#[]⟩, ⟨#[]⟩, (kd : Int), 1, (99, 0), (126, true)⟩)).length ↔ i < (glL m).length) := by subst e3; exact glb_shift rfl
                refine KL.op (R.loadAgg rfl Try.underlying46 rfl sz46 rfl (by first | exact cells_of bx | exact cells_of q18 | exact cells_of q21 | exact cells_of q23 | exact cells_of q25 | exact cells_of q26 | assumption) rfl) rfl rfl rfl ?_
                refine KL.op (R.loadAgg rfl Try.underlying46 rfl sz46 rfl (by first | exact cells_of bx | exact cells_of q18 | exact cells_of q21 | exact cells_of q23 | exact cells_of q25 | exact cells_of q26 | assumption) rfl) rfl rfl rfl ?_
                refine KL.op ((R.eqlSt rfl Try.underlying46 (by kernel_rfl) (by kernel_rfl) rfl rfl (EqFs.int (by decide) Try.underlying5 rfl rfl (EqFs.bool (by decide) Try.underlying4 rfl rfl EqFs.nil))).val (congrArg Value.bool (show (decide ((glbAt (glL m) i).1 = (glbAt (glL (addI m ⟨⟨#[]⟩, ⟨#[]⟩, (kd : Int), 1, (99, 0), (126, true)⟩)) (jx (impN m kd) i)).1) && (((glbAt (glL m) i).2 == (glbAt (glL (addI m ⟨⟨#[]⟩, ⟨#[]⟩, (kd : Int), 1, (99, 0), (126, true)⟩)) (jx (impN m kd) i)).2) && true)) = true by rw [hgs.1]; simp))) rfl rfl rfl ?_
                refine KL.op (R.move rfl rfl) rfl rfl rfl ?_
                refine KL.op (R.move rfl rfl) rfl rfl rfl ?_
                refine KL.op (R.move rfl rfl) rfl rfl rfl ?_
                refine KL.op ((R.eqlB rfl Try.underlying4 rfl rfl).val (congrArg Value.bool (show (decide (i < (glL m).length) == decide ((jx (impN m kd) i) < (glL (addI m ⟨⟨#[]⟩, ⟨#[]⟩, (kd : Int), 1, (99, 0), (126, true)⟩)).length)) = true from beq_iff_eq.2 (decide_eq_decide.2 hgs.2.symm)))) rfl rfl rfl ?_
                refine KL.op (R.pick rfl rfl rfl) rfl rfl rfl ?_
                refine KL.op (R.pick rfl rfl rfl) rfl rfl rfl ?_
                refine KL.op (R.assign rfl rfl) rfl rfl rfl ?_
                refine KL.nil ?_
                refine KQ.seq ?_
                refine KC.ret ?_
                refine KQ.ofRet ?_
                refine KQ.fin1 Try.results5 rfl ?_
                exact ⟨rfl, o0⟩
            · intro hg153
              try simp only [decide_eq_true_eq, decide_eq_false_iff_not, Bool.not_eq_true', Bool.not_eq_false', Bool.and_eq_true, Bool.or_eq_false_iff] at hg153
              refine KL.skip rfl rfl rfl ?_
              refine KL.skip rfl rfl rfl ?_
              refine KL.skip rfl rfl rfl ?_
              refine KL.skip rfl rfl rfl ?_
              refine KL.skip rfl rfl rfl ?_
              refine KL.skip rfl rfl rfl ?_
              refine KL.skip rfl rfl rfl ?_
              refine KL.skip rfl rfl rfl ?_
              refine KL.skip rfl rfl rfl ?_
              refine KL.op (R.pick rfl rfl rfl) rfl rfl rfl ?_
              refine KL.nil ?_
              refine KQ.seq ?_
              refine KC.condF rfl ?_
              refine KC.skip ?_
              refine KQ.seq ?_
              refine KC.seq ?_
              refine KC.region ?_
              refine KL.op (R.move rfl rfl) rfl rfl rfl ?_
              refine KL.op (R.move rfl rfl) rfl rfl rfl ?_
              refine KL.call rfl rfl rfl rfl Try.call13 rfl rfl rfl (SGlobal_v (sp.old oS) i hi) ?_
              rintro _ H39 ⟨rfl, ox⟩
              have zc_H39 := (ox).1
              have o0 := o0.trans ox
              have bx := (ox).blk bx
              have oS := oS.trans ox
              have q18 := (ox).blk q18
              have oM := oM.trans ox
              have oR := oR.trans ox
              have oC := oC.trans ox
              have q21 := (ox).blk q21
              have oD := oD.trans ox
              have q23 := (ox).blk q23
              refine KL.op (R.move rfl rfl) rfl rfl rfl ?_
              refine KL.op (R.extract rfl rfl rfl) rfl rfl rfl ?_
              refine KL.op (R.extract rfl rfl rfl) rfl rfl rfl ?_
              refine KL.opM (M.alloc rfl zr46 rfl) rfl rfl rfl ?_
              rintro _ H40 ⟨rfl, n40⟩
              have z40 := n40.2.1
              have o0 := o0.trans n40.1
              have bx := (n40.1).blk bx
              have oS := oS.trans n40.1
              have q18 := (n40.1).blk q18
              have oM := oM.trans n40.1
              have oR := oR.trans n40.1
              have oC := oC.trans n40.1
              have q21 := (n40.1).blk q21
              have oD := oD.trans n40.1
              have q23 := (n40.1).blk q23
              have b40 := n40.2.2
              have q25 := b40
              refine KL.opS (S.storeAgg (us := Glb.cells _) rfl sz46 rfl rfl (rfl) (by exact one_glb) q25 (by simp [Glb.cells, Lim.cells])) rfl rfl ?_
              rintro H41 ⟨u41, b41⟩
              have o0 := o0.upd u41 (by omega)
              have zu41 := u41.1
              have bx := ((u41).2 _ (by omega)).trans bx
              have oS := oS.upd u41 (by omega)
              have q18 := ((u41).2 _ (by omega)).trans q18
              have oM := oM.upd u41 (by omega)
              have oR := oR.upd u41 (by omega)
              have oC := oC.upd u41 (by omega)
              have q21 := ((u41).2 _ (by omega)).trans q21
              have oD := oD.upd u41 (by omega)
              have q23 := ((u41).2 _ (by omega)).trans q23
              have q25 := b41
              rw [over_all (by rfl)] at q25
              refine KL.op (R.assign rfl rfl) rfl rfl rfl ?_
              refine KL.nil ?_
              refine KQ.seq ?_
              refine KC.seq ?_
              refine KC.region ?_
              refine KL.op (R.move rfl rfl) rfl rfl rfl ?_
              refine KL.op (R.move rfl rfl) rfl rfl rfl ?_
              refine KL.call rfl rfl rfl rfl Try.call13 rfl rfl rfl (SGlobal_v (sp2.old oR) (jx (impN m kd) i) (by omega)) ?_
              rintro _ H42 ⟨rfl, ox⟩
              have zc_H42 := (ox).1
              have o0 := o0.trans ox
              have bx := (ox).blk bx
              have oS := oS.trans ox
              have q18 := (ox).blk q18
              have oM := oM.trans ox
              have oR := oR.trans ox
              have oC := oC.trans ox
              have q21 := (ox).blk q21
              have oD := oD.trans ox
              have q23 := (ox).blk q23
              have q25 := (ox).blk q25
              refine KL.op (R.move rfl rfl) rfl rfl rfl ?_
              refine KL.op (R.extract rfl rfl rfl) rfl rfl rfl ?_
              refine KL.op (R.extract rfl rfl rfl) rfl rfl rfl ?_
              refine KL.opM (M.alloc rfl zr46 rfl) rfl rfl rfl ?_
              rintro _ H43 ⟨rfl, n43⟩
              have z43 := n43.2.1
              have o0 := o0.trans n43.1
              have bx := (n43.1).blk bx
              have oS := oS.trans n43.1
              have q18 := (n43.1).blk q18
              have oM := oM.trans n43.1
              have oR := oR.trans n43.1
              have oC := oC.trans n43.1
              have q21 := (n43.1).blk q21
              have oD := oD.trans n43.1
              have q23 := (n43.1).blk q23
              have q25 := (n43.1).blk q25
              have b43 := n43.2.2
              have q26 := b43
              refine KL.opS (S.storeAgg (us := Glb.cells _) rfl sz46 rfl rfl (rfl) (by exact one_glb) q26 (by simp [Glb.cells, Lim.cells])) rfl rfl ?_
              rintro H44 ⟨u44, b44⟩
              have o0 := o0.upd u44 (by omega)
              have zu44 := u44.1
              have bx := ((u44).2 _ (by omega)).trans bx
              have oS := oS.upd u44 (by omega)
              have q18 := ((u44).2 _ (by omega)).trans q18
              have oM := oM.upd u44 (by omega)
              have oR := oR.upd u44 (by omega)
              have oC := oC.upd u44 (by omega)
              have q21 := ((u44).2 _ (by omega)).trans q21
              have oD := oD.upd u44 (by omega)
              have q23 := ((u44).2 _ (by omega)).trans q23
              have q25 := ((u44).2 _ (by omega)).trans q25
              have q26 := b44
              rw [over_all (by rfl)] at q26
              refine KL.op (R.assign rfl rfl) rfl rfl rfl ?_
              refine KL.nil ?_
              refine KQ.seq ?_
              refine KC.seq ?_
              refine KC.region ?_
              refine KL.op (R.move rfl rfl) rfl rfl rfl ?_
              refine KL.op (R.neq rfl rfl rfl) rfl rfl rfl ?_
              refine KL.op (R.move rfl rfl) rfl rfl rfl ?_
              refine KL.case (d := 178) rfl ?_ ?_
              · intro hg178
                try simp only [decide_eq_true_eq, decide_eq_false_iff_not, Bool.not_eq_true', Bool.not_eq_false', Bool.and_eq_true, Bool.or_eq_false_iff] at hg178
                refine KL.skip rfl rfl rfl ?_
                refine KL.skip rfl rfl rfl ?_
                refine KL.skip rfl rfl rfl ?_
                refine KL.skip rfl rfl rfl ?_
                refine KL.skip rfl rfl rfl ?_
                refine KL.skip rfl rfl rfl ?_
                refine KL.skip rfl rfl rfl ?_
                refine KL.skip rfl rfl rfl ?_
                refine KL.op (R.pick rfl rfl rfl) rfl rfl rfl ?_
                refine KL.op (R.assign rfl rfl) rfl rfl rfl ?_
                refine KL.nil ?_
                refine KQ.seq ?_
                refine KC.ret ?_
                refine KQ.ofRet ?_
                refine KQ.fin1 Try.results5 rfl ?_
                exact ⟨rfl, o0⟩
              · intro hg178
                try simp only [decide_eq_true_eq, decide_eq_false_iff_not, Bool.not_eq_true', Bool.not_eq_false', Bool.and_eq_true, Bool.or_eq_false_iff] at hg178
                have e3 : kd = 3 := by omega
                have hgs : glbAt (glL (addI m ⟨⟨#[]⟩, ⟨#[]⟩, (kd : Int), 1, (99, 0), (126, true)⟩)) (jx (impN m kd) i) = glbAt (glL m) i ∧ ((jx (impN m kd) i) < (glL (addI m ⟨⟨#[]⟩, ⟨#[]⟩, (kd : Int), 1, (99, 0), (126, true)⟩)).length ↔ i < (glL m).length) := by subst e3; exact glb_shift rfl
                refine KL.op (R.loadAgg rfl Try.underlying46 rfl sz46 rfl (by first | exact cells_of bx | exact cells_of q18 | exact cells_of q21 | exact cells_of q23 | exact cells_of q25 | exact cells_of q26 | assumption) rfl) rfl rfl rfl ?_
                refine KL.op (R.loadAgg rfl Try.underlying46 rfl sz46 rfl (by first | exact cells_of bx | exact cells_of q18 | exact cells_of q21 | exact cells_of q23 | exact cells_of q25 | exact cells_of q26 | assumption) rfl) rfl rfl rfl ?_
                refine KL.op ((R.eqlSt rfl Try.underlying46 (by kernel_rfl) (by kernel_rfl) rfl rfl (EqFs.int (by decide) Try.underlying5 rfl rfl (EqFs.bool (by decide) Try.underlying4 rfl rfl EqFs.nil))).val (congrArg Value.bool (show (decide ((glbAt (glL m) i).1 = (glbAt (glL (addI m ⟨⟨#[]⟩, ⟨#[]⟩, (kd : Int), 1, (99, 0), (126, true)⟩)) (jx (impN m kd) i)).1) && (((glbAt (glL m) i).2 == (glbAt (glL (addI m ⟨⟨#[]⟩, ⟨#[]⟩, (kd : Int), 1, (99, 0), (126, true)⟩)) (jx (impN m kd) i)).2) && true)) = true by rw [hgs.1]; simp))) rfl rfl rfl ?_
                refine KL.op (R.move rfl rfl) rfl rfl rfl ?_
                refine KL.op (R.move rfl rfl) rfl rfl rfl ?_
                refine KL.op (R.move rfl rfl) rfl rfl rfl ?_
                refine KL.op ((R.eqlB rfl Try.underlying4 rfl rfl).val (congrArg Value.bool (show (decide (i < (glL m).length) == decide ((jx (impN m kd) i) < (glL (addI m ⟨⟨#[]⟩, ⟨#[]⟩, (kd : Int), 1, (99, 0), (126, true)⟩)).length)) = true from beq_iff_eq.2 (decide_eq_decide.2 hgs.2.symm)))) rfl rfl rfl ?_
                refine KL.op (R.pick rfl rfl rfl) rfl rfl rfl ?_
                refine KL.op (R.pick rfl rfl rfl) rfl rfl rfl ?_
                refine KL.op (R.assign rfl rfl) rfl rfl rfl ?_
                refine KL.nil ?_
                refine KQ.seq ?_
                refine KC.ret ?_
                refine KQ.ofRet ?_
                refine KQ.fin1 Try.results5 rfl ?_
                exact ⟨rfl, o0⟩

end Go.Proofs.Ytbmikddaiedhiaa
