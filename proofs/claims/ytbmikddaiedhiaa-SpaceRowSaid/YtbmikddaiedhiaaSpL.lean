/- The document's globals and limits. No condition but sizes. -/
import Derived.Test.YtbmikddaiedhiaaSpK
namespace Go.Proofs.Ytbmikddaiedhiaa
open Go Go.RowKit
set_option linter.unusedVariables false
set_option linter.unusedSimpArgs false
set_option linter.unnecessarySimpa false

theorem glL_len (m : Mo) : (glL m).length = impN m 3 + ownK m 3 := by simp [glL, impN, ownK]
theorem lmL_len1 (m : Mo) : (lmL m 1).length = impN m 1 + ownK m 1 := by simp [lmL, impN, ownK]
theorem lmL_len2 (m : Mo) : (lmL m 2).length = impN m 2 + ownK m 2 := by simp [lmL, impN, ownK]
theorem glL_lo {m : Mo} {i : Nat} (h : i < impN m 3) : (glL m).getD i default = ((ofK 3 m.imports).getD i default).glb := by
  unfold glL
  have h' : i < (ofK 3 m.imports).length := h
  rw [getD_app1 (by simpa using h'), getD_mapI h']
theorem glL_hi {m : Mo} {i : Nat} (h : impN m 3 ≤ i) : (glL m).getD i default = m.globals.getD (i - impN m 3) default := by
  unfold glL
  have h' : (ofK 3 m.imports).length ≤ i := h
  rw [getD_app2 (by simpa using h')]; simp [impN]
theorem lmL_lo {m : Mo} {k i : Nat} (hk : k < 4) (h : i < impN m k) : (lmL m k).getD i default = ((ofK k m.imports).getD i default).lim := by
  unfold lmL
  unfold impN at h
  rw [if_pos hk] at h
  rw [getD_app1 (by simpa using h), getD_mapI h]
theorem lmL_hi {m : Mo} {k i : Nat} (hk : k < 4) (h : impN m k ≤ i) : (lmL m k).getD i default = (if k = 1 then m.tables else m.mems).getD (i - impN m k) default := by
  unfold lmL
  have e : impN m k = (ofK k m.imports).length := if_pos hk
  rw [e] at h ⊢
  rw [getD_app2 (by simpa using h)]; simp
theorem Sl.glAt {H : Heap} {v : Value} {l : List Glb} (h : Sl 3 EGl H v l) (j : Nat) (hj : j < l.length) : CellsH H (((vbase v).add (j * 3)).add 0) (l.getD j default).cells ∧ Glb.R (l.getD j default) := by
  obtain ⟨cs, _, hc, u, rfl, _, hr⟩ := h.at j hj
  refine ⟨?_, hr⟩
  rw [Go.Proofs.Ytbmikddaiedhiaa.add_zero]
  exact CellsH.pre (cs := Glb.cells _) (ds := [u]) hc
theorem Sl.limAt {H : Heap} {v : Value} {l : List Lim} (h : Sl 2 ELim H v l) (j : Nat) (hj : j < l.length) : CellsH H ((vbase v).add (j * 2)) (l.getD j default).cells ∧ Lim.R (l.getD j default) := by
  obtain ⟨cs, _, hc, rfl, hr⟩ := h.at j hj
  exact ⟨hc, hr⟩
theorem ofK_R {H : Heap} {v : Value} {l : List Imp} {k : Int} {i : Nat} (h : Sl 8 EImp H v l) (hi : i < (ofK k l).length) : ((ofK k l).getD i default).R := by
  rw [getD_lt hi]
  have hm : (ofK k l)[i] ∈ l := (List.mem_filter.1 (List.getElem_mem hi)).1
  obtain ⟨j, hj, e⟩ := List.getElem_of_mem hm
  have := (h.impAt j hj).2
  rw [getD_lt hj, e] at this
  exact this
theorem one_lim {x : Lim} : ∀ u ∈ x.cells, u.oneCell' = true := by
  intro u hu; simp only [Lim.cells, List.mem_cons, List.not_mem_nil, or_false] at hu; rcases hu with rfl | rfl <;> rfl
theorem one_glb {x : Glb} : ∀ u ∈ x.cells, u.oneCell' = true := by
  intro u hu; simp only [Glb.cells, List.mem_cons, List.not_mem_nil, or_false] at hu; rcases hu with rfl | rfl <;> rfl

set_option maxRecDepth 100000 in
set_option maxHeartbeats 4000000 in
theorem RGlobal_any {H : Heap} {v0 v1 v2 v3 v4 v5 v6 v7 v8 v9 va vb : Value} {m : Mo} (mv : MV H v0 v1 v2 v3 v4 v5 v6 v7 v8 v9 va vb m) (i : Nat) (hi : i ≤ 4294967295) (hb : impN m 3 + ownK m 3 ≤ 1000000000) (hml : m.imports.length ≤ 1000000) : Ct Try.prog 14 [.agg [v0, v1, v2, v3, v4, v5, v6, v7, v8, v9, va, vb].toArray, .int .u32 (i : Nat)] H (fun u H' => (∃ cs, u = .tuple #[.agg cs.toArray, .bool (decide (i < (glL m).length))] ∧ ((i < (glL m).length ∧ EGlb H' cs ((glL m).getD i default)) ∨ (¬ i < (glL m).length ∧ cs = [.int .u8 0, .bool false]))) ∧ Old H H') := by
  refine Ct.mk Try.func14 rfl Try.ntmps14 rfl ?_
  intro W0 hW0
  have o0 : Old H H := Old.refl H
  have hgl := glL_len m
  have hog : ownK m 3 = m.globals.length := rfl
  refine KC.seq ?_
  refine KC.region ?_
  refine KL.opM (M.box rfl rfl rfl) rfl rfl rfl ?_
  rintro _ H1 ⟨rfl, n1⟩
  have z1 := n1.2.1
  have o0 := o0.trans n1.1
  have mv := mv.old n1.1
  have b1 := n1.2.2
  have bx := b1
  refine KL.opM (M.alloc rfl zr46 rfl) rfl rfl rfl ?_
  rintro _ H2 ⟨rfl, n2⟩
  have z2 := n2.2.1
  have o0 := o0.trans n2.1
  have mv := mv.old n2.1
  have bx := (n2.1).blk bx
  have b2 := n2.2.2
  have bq := b2
  refine KL.op (R.assign rfl rfl) rfl rfl rfl ?_
  refine KL.nil ?_
  refine KQ.seq ?_
  refine KC.seq ?_
  refine KC.region ?_
  refine KL.op (R.loadAgg rfl Try.underlying38 rfl sz38 rfl (by first | exact cells_of bx | exact cells_of bq | assumption) rfl) rfl rfl rfl ?_
  refine KL.call rfl rfl rfl rfl Try.call24 rfl rfl rfl (RImp_any mv 3) ?_
  rintro _ H3 ⟨rfl, ox⟩
  have zc_H3 := (ox).1
  have o0 := o0.trans ox
  have mv := mv.old ox
  have bx := (ox).blk bx
  have bq := (ox).blk bq
  refine KL.op (R.assign rfl rfl) rfl rfl rfl ?_
  refine KL.nil ?_
  refine KQ.seq ?_
  refine KC.seq ?_
  refine KC.seq ?_
  refine KC.region ?_
  refine KL.op (R.move rfl rfl) rfl rfl rfl ?_
  refine KL.op (R.convI rfl Try.underlying33 Try.underlying2 rfl (by dsimp only [InR]; omega)) rfl rfl rfl ?_
  refine KL.op (R.loadAgg rfl Try.underlying38 rfl sz38 rfl (by first | exact cells_of bx | exact cells_of bq | assumption) rfl) rfl rfl rfl ?_
  refine KL.call rfl rfl rfl rfl Try.call22 rfl rfl rfl (RCount_any mv 3 hb) ?_
  rintro _ H4 ⟨rfl, ox⟩
  have zc_H4 := (ox).1
  have o0 := o0.trans ox
  have mv := mv.old ox
  have bx := (ox).blk bx
  have bq := (ox).blk bq
  refine KL.op (R.geq rfl rfl rfl) rfl rfl rfl ?_
  refine KL.nil ?_
  refine KQ.seq ?_
  refine KC.iteL rfl ?_ ?_
  · intro hc13
    try simp only [decide_eq_true_eq, decide_eq_false_iff_not, Bool.not_eq_true', Bool.not_eq_false', Bool.and_eq_true, Bool.or_eq_false_iff] at hc13
    refine KC.seq ?_
    refine KC.region ?_
    refine KL.op (R.buildL rfl Try.underlying46 zr46 [(0, 1), (1, 1)] (fun w => by kernel_rfl) rfl trivial rfl rfl trivial rfl) rfl rfl rfl ?_
    refine KL.opS (S.storeAgg rfl sz46 rfl rfl (rfl) (by intro u hu; simp only [List.mem_cons, List.not_mem_nil, or_false] at hu; rcases hu with rfl | rfl <;> rfl) bq (by simp)) rfl rfl ?_
    rintro H5 ⟨u5, b5⟩
    have o0 := o0.upd u5 (by omega)
    have zu5 := u5.1
    have bx := ((u5).2 _ (by omega)).trans bx
    have bq := b5
    rw [over_all (by rfl)] at bq
    refine KL.op (R.assign rfl rfl) rfl rfl rfl ?_
    refine KL.nil ?_
    refine KQ.seq ?_
    refine KC.ret ?_
    refine KQ.retThen ?_
    refine KQ.ofRet ?_
    refine KQ.finCell2 Try.results14 rfl Try.underlying46 rfl sz46 (cells_of bq) (rfl) rfl ?_
    first
      | exact ⟨⟨_, by rw [decide_eq_false (by omega)], .inr ⟨by omega, rfl⟩⟩, o0⟩
      | exact ⟨⟨_, by rw [decide_eq_true (by omega)], .inl ⟨by omega, by rw [glL_lo (by omega)], by rw [glL_lo (by omega)]; exact hR⟩⟩, o0⟩
      | exact ⟨⟨_, by rw [decide_eq_true (by omega)], .inl ⟨by omega, by rw [glL_hi (by omega)], by rw [glL_hi (by omega)]; exact hgr⟩⟩, o0⟩
  · intro hc13
    try simp only [decide_eq_true_eq, decide_eq_false_iff_not, Bool.not_eq_true', Bool.not_eq_false', Bool.and_eq_true, Bool.or_eq_false_iff] at hc13
    refine KC.skip ?_
    refine KQ.seq ?_
    refine KC.seq ?_
    refine KC.seq ?_
    refine KC.region ?_
    refine KL.op (R.move rfl rfl) rfl rfl rfl ?_
    refine KL.op (R.convI rfl Try.underlying33 Try.underlying3 rfl (by dsimp only [InR]; omega)) rfl rfl rfl ?_
    refine KL.op (R.move rfl rfl) rfl rfl rfl ?_
    refine KL.op (R.lss rfl rfl rfl) rfl rfl rfl ?_
    refine KL.nil ?_
    refine KQ.seq ?_
    refine KC.iteL rfl ?_ ?_
    · intro hc18
      try simp only [decide_eq_true_eq, decide_eq_false_iff_not, Bool.not_eq_true', Bool.not_eq_false', Bool.and_eq_true, Bool.or_eq_false_iff] at hc18
      refine KC.seq ?_
      refine KC.region ?_
      refine KL.op (R.loadAgg rfl Try.underlying38 rfl sz38 rfl (by first | exact cells_of bx | exact cells_of bq | assumption) rfl) rfl rfl rfl ?_
      refine KL.op (R.move rfl rfl) rfl rfl rfl ?_
      refine KL.call rfl rfl rfl rfl Try.call37 rfl rfl rfl (REntry_any mv 3 i (show i < (ofK 3 m.imports).length from by have e : impN m 3 = (ofK 3 m.imports).length := rfl; omega) hml) ?_
      rintro _ H6 ⟨rfl, ox⟩
      have zc_H6 := (ox).1
      have o0 := o0.trans ox
      have mv := mv.old ox
      have bx := (ox).blk bx
      have bq := (ox).blk bq
      refine KL.op (R.fieldAgg (us := ((ofK 3 m.imports).getD i default).glb.cells) rfl Try.underlying63 rfl Try.underlying46 rfl sz46 rfl rfl) rfl rfl rfl ?_
      have hR := (ofK_R (k := 3) (i := i) mv.i (by have e : impN m 3 = (ofK 3 m.imports).length := rfl; omega)).2.2.2
      refine KL.opS (S.storeAgg (us := ((ofK 3 m.imports).getD i default).glb.cells) rfl sz46 rfl rfl (rfl) (by exact one_glb) bq (by simp [Glb.cells])) rfl rfl ?_
      rintro H7 ⟨u7, b7⟩
      have o0 := o0.upd u7 (by omega)
      have zu7 := u7.1
      have bx := ((u7).2 _ (by omega)).trans bx
      have bq := b7
      rw [over_all (by rfl)] at bq
      refine KL.op (R.assign rfl rfl) rfl rfl rfl ?_
      refine KL.nil ?_
      refine KQ.seq ?_
      refine KC.ret ?_
      refine KQ.retThen ?_
      refine KQ.ofRet ?_
      refine KQ.finCell2 Try.results14 rfl Try.underlying46 rfl sz46 (cells_of bq) (rfl) rfl ?_
      first
        | exact ⟨⟨_, by rw [decide_eq_false (by omega)], .inr ⟨by omega, rfl⟩⟩, o0⟩
        | exact ⟨⟨_, by rw [decide_eq_true (by omega)], .inl ⟨by omega, by rw [glL_lo (by omega)], by rw [glL_lo (by omega)]; exact hR⟩⟩, o0⟩
        | exact ⟨⟨_, by rw [decide_eq_true (by omega)], .inl ⟨by omega, by rw [glL_hi (by omega)], by rw [glL_hi (by omega)]; exact hgr⟩⟩, o0⟩
    · intro hc18
      try simp only [decide_eq_true_eq, decide_eq_false_iff_not, Bool.not_eq_true', Bool.not_eq_false', Bool.and_eq_true, Bool.or_eq_false_iff] at hc18
      refine KC.skip ?_
      refine KQ.seq ?_
      refine KC.seq ?_
      refine KC.region ?_
      refine KL.op ((by first | exact R.fieldAddr rfl Try.underlying38 rfl rfl sz31 rfl | exact R.fieldAddrP rfl Try.underlying38 rfl rfl sz31 rfl)) rfl rfl rfl ?_
      refine KL.op (R.load rfl Try.underlying31 rfl rfl (by first | exact cell_of bx rfl | exact cell_of bq rfl | assumption)) rfl rfl rfl ?_
      refine KL.op (R.move rfl rfl) rfl rfl rfl ?_
      refine KL.op (R.convI rfl Try.underlying33 Try.underlying3 rfl (by dsimp only [InR]; omega)) rfl rfl rfl ?_
      refine KL.op (R.move rfl rfl) rfl rfl rfl ?_
      refine KL.op ((R.sub rfl rfl rfl (by dsimp only [InR]; omega)).val (congrArg (Value.int .i64) (show (i : Int) - ((impN m 3 : Nat) : Int) = ((i - impN m 3 : Nat) : Int) by omega))) rfl rfl rfl ?_
      refine KL.op (R.index (j := i - impN m 3) rfl Try.underlying31 sz84 rfl rfl mv.g rfl (by omega)) rfl rfl rfl ?_
      refine KL.op ((by first | exact R.fieldAddr rfl Try.underlying84 rfl rfl sz46 rfl | exact R.fieldAddrP rfl Try.underlying84 rfl rfl sz46 rfl)) rfl rfl rfl ?_
      obtain ⟨hgc, hgr⟩ := mv.g.glAt (i - impN m 3) (by omega)
      refine KL.op (R.loadAgg (cs := (m.globals.getD (i - impN m 3) default).cells) rfl Try.underlying46 rfl sz46 rfl hgc rfl) rfl rfl rfl ?_
      refine KL.opS (S.storeAgg (us := (m.globals.getD (i - impN m 3) default).cells) rfl sz46 rfl rfl (rfl) (by exact one_glb) bq (by simp [Glb.cells])) rfl rfl ?_
      rintro H8 ⟨u8, b8⟩
      have o0 := o0.upd u8 (by omega)
      have zu8 := u8.1
      have bx := ((u8).2 _ (by omega)).trans bx
      have bq := b8
      rw [over_all (by rfl)] at bq
      refine KL.op (R.assign rfl rfl) rfl rfl rfl ?_
      refine KL.nil ?_
      refine KQ.seq ?_
      refine KC.ret ?_
      refine KQ.ofRet ?_
      refine KQ.finCell2 Try.results14 rfl Try.underlying46 rfl sz46 (cells_of bq) (rfl) rfl ?_
      first
        | exact ⟨⟨_, by rw [decide_eq_false (by omega)], .inr ⟨by omega, rfl⟩⟩, o0⟩
        | exact ⟨⟨_, by rw [decide_eq_true (by omega)], .inl ⟨by omega, by rw [glL_lo (by omega)], by rw [glL_lo (by omega)]; exact hR⟩⟩, o0⟩
        | exact ⟨⟨_, by rw [decide_eq_true (by omega)], .inl ⟨by omega, by rw [glL_hi (by omega)], by rw [glL_hi (by omega)]; exact hgr⟩⟩, o0⟩

set_option maxRecDepth 100000 in
set_option maxHeartbeats 4000000 in
theorem RLim1_any {H : Heap} {v0 v1 v2 v3 v4 v5 v6 v7 v8 v9 va vb : Value} {m : Mo} (mv : MV H v0 v1 v2 v3 v4 v5 v6 v7 v8 v9 va vb m) (i : Nat) (hi : i ≤ 4294967295) (hb : impN m 1 + ownK m 1 ≤ 1000000000) (hml : m.imports.length ≤ 1000000) : Ct Try.prog 16 [.agg [v0, v1, v2, v3, v4, v5, v6, v7, v8, v9, va, vb].toArray, .int .u8 1, .int .u32 (i : Nat)] H (fun u H' => (∃ cs, u = .tuple #[.agg cs.toArray, .bool (decide (i < (lmL m 1).length))] ∧ ((i < (lmL m 1).length ∧ ELim H' cs ((lmL m 1).getD i default)) ∨ (¬ i < (lmL m 1).length ∧ cs = [.int .u32 0, .int .i64 0]))) ∧ Old H H') := by
  refine Ct.mk Try.func16 rfl Try.ntmps16 rfl ?_
  intro W0 hW0
  have o0 : Old H H := Old.refl H
  have hgl := lmL_len1 m
  have hog : ownK m 1 = m.tables.length := rfl
  refine KC.seq ?_
  refine KC.region ?_
  refine KL.opM (M.box rfl rfl rfl) rfl rfl rfl ?_
  rintro _ H1 ⟨rfl, n1⟩
  have z1 := n1.2.1
  have o0 := o0.trans n1.1
  have mv := mv.old n1.1
  have b1 := n1.2.2
  have bx := b1
  refine KL.opM (M.alloc rfl zr51 rfl) rfl rfl rfl ?_
  rintro _ H2 ⟨rfl, n2⟩
  have z2 := n2.2.1
  have o0 := o0.trans n2.1
  have mv := mv.old n2.1
  have bx := (n2.1).blk bx
  have b2 := n2.2.2
  have bq := b2
  refine KL.op (R.assign rfl rfl) rfl rfl rfl ?_
  refine KL.nil ?_
  refine KQ.seq ?_
  refine KC.seq ?_
  refine KC.region ?_
  refine KL.op (R.loadAgg rfl Try.underlying38 rfl sz38 rfl (by first | exact cells_of bx | exact cells_of bq | assumption) rfl) rfl rfl rfl ?_
  refine KL.op (R.move rfl rfl) rfl rfl rfl ?_
  refine KL.call rfl rfl rfl rfl Try.call24 rfl rfl rfl (RImp_any mv 1) ?_
  rintro _ H3 ⟨rfl, ox⟩
  have zc_H3 := (ox).1
  have o0 := o0.trans ox
  have mv := mv.old ox
  have bx := (ox).blk bx
  have bq := (ox).blk bq
  refine KL.op (R.assign rfl rfl) rfl rfl rfl ?_
  refine KL.nil ?_
  refine KQ.seq ?_
  refine KC.seq ?_
  refine KC.seq ?_
  refine KC.region ?_
  refine KL.op (R.move rfl rfl) rfl rfl rfl ?_
  refine KL.op (R.convI rfl Try.underlying33 Try.underlying2 rfl (by dsimp only [InR]; omega)) rfl rfl rfl ?_
  refine KL.op (R.loadAgg rfl Try.underlying38 rfl sz38 rfl (by first | exact cells_of bx | exact cells_of bq | assumption) rfl) rfl rfl rfl ?_
  refine KL.op (R.move rfl rfl) rfl rfl rfl ?_
  refine KL.call rfl rfl rfl rfl Try.call22 rfl rfl rfl (RCount_any mv 1 hb) ?_
  rintro _ H4 ⟨rfl, ox⟩
  have zc_H4 := (ox).1
  have o0 := o0.trans ox
  have mv := mv.old ox
  have bx := (ox).blk bx
  have bq := (ox).blk bq
  refine KL.op (R.geq rfl rfl rfl) rfl rfl rfl ?_
  refine KL.nil ?_
  refine KQ.seq ?_
  refine KC.iteL rfl ?_ ?_
  · intro hc17
    try simp only [decide_eq_true_eq, decide_eq_false_iff_not, Bool.not_eq_true', Bool.not_eq_false', Bool.and_eq_true, Bool.or_eq_false_iff] at hc17
    refine KC.seq ?_
    refine KC.region ?_
    refine KL.op (R.buildL rfl Try.underlying51 zr51 [(0, 1), (1, 1)] (fun w => by kernel_rfl) rfl trivial rfl rfl trivial rfl) rfl rfl rfl ?_
    refine KL.opS (S.storeAgg rfl sz51 rfl rfl (rfl) (by intro u hu; simp only [List.mem_cons, List.not_mem_nil, or_false] at hu; rcases hu with rfl | rfl <;> rfl) bq (by simp)) rfl rfl ?_
    rintro H5 ⟨u5, b5⟩
    have o0 := o0.upd u5 (by omega)
    have zu5 := u5.1
    have bx := ((u5).2 _ (by omega)).trans bx
    have bq := b5
    rw [over_all (by rfl)] at bq
    refine KL.op (R.assign rfl rfl) rfl rfl rfl ?_
    refine KL.nil ?_
    refine KQ.seq ?_
    refine KC.ret ?_
    refine KQ.retThen ?_
    refine KQ.ofRet ?_
    refine KQ.finCell2 Try.results16 rfl Try.underlying51 rfl sz51 (cells_of bq) (rfl) rfl ?_
    first
      | exact ⟨⟨_, by rw [decide_eq_false (by omega)], .inr ⟨by omega, rfl⟩⟩, o0⟩
      | exact ⟨⟨_, by rw [decide_eq_true (by omega)], .inl ⟨by omega, by rw [lmL_lo (by decide) (by omega)]; rfl, by rw [lmL_lo (by decide) (by omega)]; exact hR⟩⟩, o0⟩
      | exact ⟨⟨_, by rw [decide_eq_true (by omega)], .inl ⟨by omega, by rw [lmL_hi (by decide) (by omega)]; rfl, by rw [lmL_hi (by decide) (by omega)]; exact hgr⟩⟩, o0⟩
  · intro hc17
    try simp only [decide_eq_true_eq, decide_eq_false_iff_not, Bool.not_eq_true', Bool.not_eq_false', Bool.and_eq_true, Bool.or_eq_false_iff] at hc17
    refine KC.skip ?_
    refine KQ.seq ?_
    refine KC.seq ?_
    refine KC.seq ?_
    refine KC.region ?_
    refine KL.op (R.move rfl rfl) rfl rfl rfl ?_
    refine KL.op (R.convI rfl Try.underlying33 Try.underlying3 rfl (by dsimp only [InR]; omega)) rfl rfl rfl ?_
    refine KL.op (R.move rfl rfl) rfl rfl rfl ?_
    refine KL.op (R.lss rfl rfl rfl) rfl rfl rfl ?_
    refine KL.nil ?_
    refine KQ.seq ?_
    refine KC.iteL rfl ?_ ?_
    · intro hc22
      try simp only [decide_eq_true_eq, decide_eq_false_iff_not, Bool.not_eq_true', Bool.not_eq_false', Bool.and_eq_true, Bool.or_eq_false_iff] at hc22
      refine KC.seq ?_
      refine KC.region ?_
      refine KL.op (R.loadAgg rfl Try.underlying38 rfl sz38 rfl (by first | exact cells_of bx | exact cells_of bq | assumption) rfl) rfl rfl rfl ?_
      refine KL.op (R.move rfl rfl) rfl rfl rfl ?_
      refine KL.op (R.move rfl rfl) rfl rfl rfl ?_
      refine KL.call rfl rfl rfl rfl Try.call37 rfl rfl rfl (REntry_any mv 1 i (show i < (ofK 1 m.imports).length from by have e : impN m 1 = (ofK 1 m.imports).length := rfl; omega) hml) ?_
      rintro _ H6 ⟨rfl, ox⟩
      have zc_H6 := (ox).1
      have o0 := o0.trans ox
      have mv := mv.old ox
      have bx := (ox).blk bx
      have bq := (ox).blk bq
      refine KL.op (R.fieldAgg (us := ((ofK 1 m.imports).getD i default).lim.cells) rfl Try.underlying63 rfl Try.underlying51 rfl sz51 rfl rfl) rfl rfl rfl ?_
      have hR := (ofK_R (k := 1) (i := i) mv.i (by have e : impN m 1 = (ofK 1 m.imports).length := rfl; omega)).2.2.1
      refine KL.opS (S.storeAgg (us := ((ofK 1 m.imports).getD i default).lim.cells) rfl sz51 rfl rfl (rfl) (by exact one_lim) bq (by simp [Lim.cells])) rfl rfl ?_
      rintro H7 ⟨u7, b7⟩
      have o0 := o0.upd u7 (by omega)
      have zu7 := u7.1
      have bx := ((u7).2 _ (by omega)).trans bx
      have bq := b7
      rw [over_all (by rfl)] at bq
      refine KL.op (R.assign rfl rfl) rfl rfl rfl ?_
      refine KL.nil ?_
      refine KQ.seq ?_
      refine KC.ret ?_
      refine KQ.retThen ?_
      refine KQ.ofRet ?_
      refine KQ.finCell2 Try.results16 rfl Try.underlying51 rfl sz51 (cells_of bq) (rfl) rfl ?_
      first
        | exact ⟨⟨_, by rw [decide_eq_false (by omega)], .inr ⟨by omega, rfl⟩⟩, o0⟩
        | exact ⟨⟨_, by rw [decide_eq_true (by omega)], .inl ⟨by omega, by rw [lmL_lo (by decide) (by omega)]; rfl, by rw [lmL_lo (by decide) (by omega)]; exact hR⟩⟩, o0⟩
        | exact ⟨⟨_, by rw [decide_eq_true (by omega)], .inl ⟨by omega, by rw [lmL_hi (by decide) (by omega)]; rfl, by rw [lmL_hi (by decide) (by omega)]; exact hgr⟩⟩, o0⟩
    · intro hc22
      try simp only [decide_eq_true_eq, decide_eq_false_iff_not, Bool.not_eq_true', Bool.not_eq_false', Bool.and_eq_true, Bool.or_eq_false_iff] at hc22
      refine KC.skip ?_
      refine KQ.seq ?_
      refine KC.seq ?_
      refine KC.seq ?_
      refine KC.region ?_
      refine KL.op (R.move rfl rfl) rfl rfl rfl ?_
      refine KL.op ((R.eql rfl rfl rfl).val (congrArg Value.bool (decide_eq_true (by rfl)))) rfl rfl rfl ?_
      refine KL.nil ?_
      refine KQ.seq ?_
      refine KC.condT rfl ?_
      refine KC.seq ?_
      refine KC.region ?_
      refine KL.op ((by first | exact R.fieldAddr rfl Try.underlying38 rfl rfl sz30 rfl | exact R.fieldAddrP rfl Try.underlying38 rfl rfl sz30 rfl)) rfl rfl rfl ?_
      refine KL.op (R.load rfl Try.underlying30 rfl rfl (by first | exact cell_of bx rfl | exact cell_of bq rfl | assumption)) rfl rfl rfl ?_
      refine KL.op (R.move rfl rfl) rfl rfl rfl ?_
      refine KL.op (R.convI rfl Try.underlying33 Try.underlying3 rfl (by dsimp only [InR]; omega)) rfl rfl rfl ?_
      refine KL.op (R.move rfl rfl) rfl rfl rfl ?_
      refine KL.op ((R.sub rfl rfl rfl (by dsimp only [InR]; omega)).val (congrArg (Value.int .i64) (show (i : Int) - ((impN m 1 : Nat) : Int) = ((i - impN m 1 : Nat) : Int) by omega))) rfl rfl rfl ?_
      refine KL.op (R.index (j := i - impN m 1) rfl Try.underlying30 sz51 rfl rfl mv.a rfl (by omega)) rfl rfl rfl ?_
      obtain ⟨hgc, hgr⟩ := mv.a.limAt (i - impN m 1) (by omega)
      refine KL.op (R.loadAgg (cs := (m.tables.getD (i - impN m 1) default).cells) rfl Try.underlying51 rfl sz51 rfl hgc rfl) rfl rfl rfl ?_
      refine KL.opS (S.storeAgg (us := (m.tables.getD (i - impN m 1) default).cells) rfl sz51 rfl rfl (rfl) (by exact one_lim) bq (by simp [Lim.cells])) rfl rfl ?_
      rintro H8 ⟨u8, b8⟩
      have o0 := o0.upd u8 (by omega)
      have zu8 := u8.1
      have bx := ((u8).2 _ (by omega)).trans bx
      have bq := b8
      rw [over_all (by rfl)] at bq
      refine KL.op (R.assign rfl rfl) rfl rfl rfl ?_
      refine KL.nil ?_
      refine KQ.seq ?_
      refine KC.ret ?_
      refine KQ.retThen ?_
      refine KQ.ofRet ?_
      refine KQ.finCell2 Try.results16 rfl Try.underlying51 rfl sz51 (cells_of bq) (rfl) rfl ?_
      first
        | exact ⟨⟨_, by rw [decide_eq_false (by omega)], .inr ⟨by omega, rfl⟩⟩, o0⟩
        | exact ⟨⟨_, by rw [decide_eq_true (by omega)], .inl ⟨by omega, by rw [lmL_lo (by decide) (by omega)]; rfl, by rw [lmL_lo (by decide) (by omega)]; exact hR⟩⟩, o0⟩
        | exact ⟨⟨_, by rw [decide_eq_true (by omega)], .inl ⟨by omega, by rw [lmL_hi (by decide) (by omega)]; rfl, by rw [lmL_hi (by decide) (by omega)]; exact hgr⟩⟩, o0⟩

set_option maxRecDepth 100000 in
set_option maxHeartbeats 4000000 in
theorem RLim2_any {H : Heap} {v0 v1 v2 v3 v4 v5 v6 v7 v8 v9 va vb : Value} {m : Mo} (mv : MV H v0 v1 v2 v3 v4 v5 v6 v7 v8 v9 va vb m) (i : Nat) (hi : i ≤ 4294967295) (hb : impN m 2 + ownK m 2 ≤ 1000000000) (hml : m.imports.length ≤ 1000000) : Ct Try.prog 16 [.agg [v0, v1, v2, v3, v4, v5, v6, v7, v8, v9, va, vb].toArray, .int .u8 2, .int .u32 (i : Nat)] H (fun u H' => (∃ cs, u = .tuple #[.agg cs.toArray, .bool (decide (i < (lmL m 2).length))] ∧ ((i < (lmL m 2).length ∧ ELim H' cs ((lmL m 2).getD i default)) ∨ (¬ i < (lmL m 2).length ∧ cs = [.int .u32 0, .int .i64 0]))) ∧ Old H H') := by
  refine Ct.mk Try.func16 rfl Try.ntmps16 rfl ?_
  intro W0 hW0
  have o0 : Old H H := Old.refl H
  have hgl := lmL_len2 m
  have hog : ownK m 2 = m.mems.length := rfl
  refine KC.seq ?_
  refine KC.region ?_
  refine KL.opM (M.box rfl rfl rfl) rfl rfl rfl ?_
  rintro _ H1 ⟨rfl, n1⟩
  have z1 := n1.2.1
  have o0 := o0.trans n1.1
  have mv := mv.old n1.1
  have b1 := n1.2.2
  have bx := b1
  refine KL.opM (M.alloc rfl zr51 rfl) rfl rfl rfl ?_
  rintro _ H2 ⟨rfl, n2⟩
  have z2 := n2.2.1
  have o0 := o0.trans n2.1
  have mv := mv.old n2.1
  have bx := (n2.1).blk bx
  have b2 := n2.2.2
  have bq := b2
  refine KL.op (R.assign rfl rfl) rfl rfl rfl ?_
  refine KL.nil ?_
  refine KQ.seq ?_
  refine KC.seq ?_
  refine KC.region ?_
  refine KL.op (R.loadAgg rfl Try.underlying38 rfl sz38 rfl (by first | exact cells_of bx | exact cells_of bq | assumption) rfl) rfl rfl rfl ?_
  refine KL.op (R.move rfl rfl) rfl rfl rfl ?_
  refine KL.call rfl rfl rfl rfl Try.call24 rfl rfl rfl (RImp_any mv 2) ?_
  rintro _ H3 ⟨rfl, ox⟩
  have zc_H3 := (ox).1
  have o0 := o0.trans ox
  have mv := mv.old ox
  have bx := (ox).blk bx
  have bq := (ox).blk bq
  refine KL.op (R.assign rfl rfl) rfl rfl rfl ?_
  refine KL.nil ?_
  refine KQ.seq ?_
  refine KC.seq ?_
  refine KC.seq ?_
  refine KC.region ?_
  refine KL.op (R.move rfl rfl) rfl rfl rfl ?_
  refine KL.op (R.convI rfl Try.underlying33 Try.underlying2 rfl (by dsimp only [InR]; omega)) rfl rfl rfl ?_
  refine KL.op (R.loadAgg rfl Try.underlying38 rfl sz38 rfl (by first | exact cells_of bx | exact cells_of bq | assumption) rfl) rfl rfl rfl ?_
  refine KL.op (R.move rfl rfl) rfl rfl rfl ?_
  refine KL.call rfl rfl rfl rfl Try.call22 rfl rfl rfl (RCount_any mv 2 hb) ?_
  rintro _ H4 ⟨rfl, ox⟩
  have zc_H4 := (ox).1
  have o0 := o0.trans ox
  have mv := mv.old ox
  have bx := (ox).blk bx
  have bq := (ox).blk bq
  refine KL.op (R.geq rfl rfl rfl) rfl rfl rfl ?_
  refine KL.nil ?_
  refine KQ.seq ?_
  refine KC.iteL rfl ?_ ?_
  · intro hc17
    try simp only [decide_eq_true_eq, decide_eq_false_iff_not, Bool.not_eq_true', Bool.not_eq_false', Bool.and_eq_true, Bool.or_eq_false_iff] at hc17
    refine KC.seq ?_
    refine KC.region ?_
    refine KL.op (R.buildL rfl Try.underlying51 zr51 [(0, 1), (1, 1)] (fun w => by kernel_rfl) rfl trivial rfl rfl trivial rfl) rfl rfl rfl ?_
    refine KL.opS (S.storeAgg rfl sz51 rfl rfl (rfl) (by intro u hu; simp only [List.mem_cons, List.not_mem_nil, or_false] at hu; rcases hu with rfl | rfl <;> rfl) bq (by simp)) rfl rfl ?_
    rintro H5 ⟨u5, b5⟩
    have o0 := o0.upd u5 (by omega)
    have zu5 := u5.1
    have bx := ((u5).2 _ (by omega)).trans bx
    have bq := b5
    rw [over_all (by rfl)] at bq
    refine KL.op (R.assign rfl rfl) rfl rfl rfl ?_
    refine KL.nil ?_
    refine KQ.seq ?_
    refine KC.ret ?_
    refine KQ.retThen ?_
    refine KQ.ofRet ?_
    refine KQ.finCell2 Try.results16 rfl Try.underlying51 rfl sz51 (cells_of bq) (rfl) rfl ?_
    first
      | exact ⟨⟨_, by rw [decide_eq_false (by omega)], .inr ⟨by omega, rfl⟩⟩, o0⟩
      | exact ⟨⟨_, by rw [decide_eq_true (by omega)], .inl ⟨by omega, by rw [lmL_lo (by decide) (by omega)]; rfl, by rw [lmL_lo (by decide) (by omega)]; exact hR⟩⟩, o0⟩
      | exact ⟨⟨_, by rw [decide_eq_true (by omega)], .inl ⟨by omega, by rw [lmL_hi (by decide) (by omega)]; rfl, by rw [lmL_hi (by decide) (by omega)]; exact hgr⟩⟩, o0⟩
  · intro hc17
    try simp only [decide_eq_true_eq, decide_eq_false_iff_not, Bool.not_eq_true', Bool.not_eq_false', Bool.and_eq_true, Bool.or_eq_false_iff] at hc17
    refine KC.skip ?_
    refine KQ.seq ?_
    refine KC.seq ?_
    refine KC.seq ?_
    refine KC.region ?_
    refine KL.op (R.move rfl rfl) rfl rfl rfl ?_
    refine KL.op (R.convI rfl Try.underlying33 Try.underlying3 rfl (by dsimp only [InR]; omega)) rfl rfl rfl ?_
    refine KL.op (R.move rfl rfl) rfl rfl rfl ?_
    refine KL.op (R.lss rfl rfl rfl) rfl rfl rfl ?_
    refine KL.nil ?_
    refine KQ.seq ?_
    refine KC.iteL rfl ?_ ?_
    · intro hc22
      try simp only [decide_eq_true_eq, decide_eq_false_iff_not, Bool.not_eq_true', Bool.not_eq_false', Bool.and_eq_true, Bool.or_eq_false_iff] at hc22
      refine KC.seq ?_
      refine KC.region ?_
      refine KL.op (R.loadAgg rfl Try.underlying38 rfl sz38 rfl (by first | exact cells_of bx | exact cells_of bq | assumption) rfl) rfl rfl rfl ?_
      refine KL.op (R.move rfl rfl) rfl rfl rfl ?_
      refine KL.op (R.move rfl rfl) rfl rfl rfl ?_
      refine KL.call rfl rfl rfl rfl Try.call37 rfl rfl rfl (REntry_any mv 2 i (show i < (ofK 2 m.imports).length from by have e : impN m 2 = (ofK 2 m.imports).length := rfl; omega) hml) ?_
      rintro _ H6 ⟨rfl, ox⟩
      have zc_H6 := (ox).1
      have o0 := o0.trans ox
      have mv := mv.old ox
      have bx := (ox).blk bx
      have bq := (ox).blk bq
      refine KL.op (R.fieldAgg (us := ((ofK 2 m.imports).getD i default).lim.cells) rfl Try.underlying63 rfl Try.underlying51 rfl sz51 rfl rfl) rfl rfl rfl ?_
      have hR := (ofK_R (k := 2) (i := i) mv.i (by have e : impN m 2 = (ofK 2 m.imports).length := rfl; omega)).2.2.1
      refine KL.opS (S.storeAgg (us := ((ofK 2 m.imports).getD i default).lim.cells) rfl sz51 rfl rfl (rfl) (by exact one_lim) bq (by simp [Lim.cells])) rfl rfl ?_
      rintro H7 ⟨u7, b7⟩
      have o0 := o0.upd u7 (by omega)
      have zu7 := u7.1
      have bx := ((u7).2 _ (by omega)).trans bx
      have bq := b7
      rw [over_all (by rfl)] at bq
      refine KL.op (R.assign rfl rfl) rfl rfl rfl ?_
      refine KL.nil ?_
      refine KQ.seq ?_
      refine KC.ret ?_
      refine KQ.retThen ?_
      refine KQ.ofRet ?_
      refine KQ.finCell2 Try.results16 rfl Try.underlying51 rfl sz51 (cells_of bq) (rfl) rfl ?_
      first
        | exact ⟨⟨_, by rw [decide_eq_false (by omega)], .inr ⟨by omega, rfl⟩⟩, o0⟩
        | exact ⟨⟨_, by rw [decide_eq_true (by omega)], .inl ⟨by omega, by rw [lmL_lo (by decide) (by omega)]; rfl, by rw [lmL_lo (by decide) (by omega)]; exact hR⟩⟩, o0⟩
        | exact ⟨⟨_, by rw [decide_eq_true (by omega)], .inl ⟨by omega, by rw [lmL_hi (by decide) (by omega)]; rfl, by rw [lmL_hi (by decide) (by omega)]; exact hgr⟩⟩, o0⟩
    · intro hc22
      try simp only [decide_eq_true_eq, decide_eq_false_iff_not, Bool.not_eq_true', Bool.not_eq_false', Bool.and_eq_true, Bool.or_eq_false_iff] at hc22
      refine KC.skip ?_
      refine KQ.seq ?_
      refine KC.seq ?_
      refine KC.seq ?_
      refine KC.region ?_
      refine KL.op (R.move rfl rfl) rfl rfl rfl ?_
      refine KL.op ((R.eql rfl rfl rfl).val (congrArg Value.bool (decide_eq_false (by decide)))) rfl rfl rfl ?_
      refine KL.nil ?_
      refine KQ.seq ?_
      refine KC.condF rfl ?_
      refine KC.skip ?_
      refine KQ.seq ?_
      refine KC.seq ?_
      refine KC.region ?_
      refine KL.op ((by first | exact R.fieldAddr rfl Try.underlying38 rfl rfl sz30 rfl | exact R.fieldAddrP rfl Try.underlying38 rfl rfl sz30 rfl)) rfl rfl rfl ?_
      refine KL.op (R.load rfl Try.underlying30 rfl rfl (by first | exact cell_of bx rfl | exact cell_of bq rfl | assumption)) rfl rfl rfl ?_
      refine KL.op (R.move rfl rfl) rfl rfl rfl ?_
      refine KL.op (R.convI rfl Try.underlying33 Try.underlying3 rfl (by dsimp only [InR]; omega)) rfl rfl rfl ?_
      refine KL.op (R.move rfl rfl) rfl rfl rfl ?_
      refine KL.op ((R.sub rfl rfl rfl (by dsimp only [InR]; omega)).val (congrArg (Value.int .i64) (show (i : Int) - ((impN m 2 : Nat) : Int) = ((i - impN m 2 : Nat) : Int) by omega))) rfl rfl rfl ?_
      refine KL.op (R.index (j := i - impN m 2) rfl Try.underlying30 sz51 rfl rfl mv.mm rfl (by omega)) rfl rfl rfl ?_
      obtain ⟨hgc, hgr⟩ := mv.mm.limAt (i - impN m 2) (by omega)
      refine KL.op (R.loadAgg (cs := (m.mems.getD (i - impN m 2) default).cells) rfl Try.underlying51 rfl sz51 rfl hgc rfl) rfl rfl rfl ?_
      refine KL.opS (S.storeAgg (us := (m.mems.getD (i - impN m 2) default).cells) rfl sz51 rfl rfl (rfl) (by exact one_lim) bq (by simp [Lim.cells])) rfl rfl ?_
      rintro H8 ⟨u8, b8⟩
      have o0 := o0.upd u8 (by omega)
      have zu8 := u8.1
      have bx := ((u8).2 _ (by omega)).trans bx
      have bq := b8
      rw [over_all (by rfl)] at bq
      refine KL.op (R.assign rfl rfl) rfl rfl rfl ?_
      refine KL.nil ?_
      refine KQ.seq ?_
      refine KC.ret ?_
      refine KQ.ofRet ?_
      refine KQ.finCell2 Try.results16 rfl Try.underlying51 rfl sz51 (cells_of bq) (rfl) rfl ?_
      first
        | exact ⟨⟨_, by rw [decide_eq_false (by omega)], .inr ⟨by omega, rfl⟩⟩, o0⟩
        | exact ⟨⟨_, by rw [decide_eq_true (by omega)], .inl ⟨by omega, by rw [lmL_lo (by decide) (by omega)]; rfl, by rw [lmL_lo (by decide) (by omega)]; exact hR⟩⟩, o0⟩
        | exact ⟨⟨_, by rw [decide_eq_true (by omega)], .inl ⟨by omega, by rw [lmL_hi (by decide) (by omega)]; rfl, by rw [lmL_hi (by decide) (by omega)]; exact hgr⟩⟩, o0⟩

end Go.Proofs.Ytbmikddaiedhiaa
