/- SpaceSames, SpaceTells walked. No condition but sizes. -/
import Derived.Test.YtbmikddaiedhiaaSpP
namespace Go.Proofs.Ytbmikddaiedhiaa
open Go Go.RowKit
set_option linter.unusedVariables false
set_option linter.unusedSimpArgs false
set_option linter.unnecessarySimpa false

theorem tyN_le {l : List FTy} : l.length ≤ tyN l ∧ ∀ t ∈ l, t.1.length ≤ tyN l ∧ t.2.length ≤ tyN l := by
  induction l with
  | nil => exact ⟨Nat.zero_le _, fun t ht => by cases ht⟩
  | cons x l ih =>
    have e : tyN (x :: l) = 1 + x.1.length + x.2.length + tyN l := by simp [tyN]
    refine ⟨by rw [e, List.length_cons]; omega, fun t ht => ?_⟩
    rcases List.mem_cons.1 ht with rfl | ht
    · omega
    · have := ih.2 t ht; omega
theorem small_of {m : Mo} (h : six m + tyN m.types ≤ 4000) : m.Small := by
  have ht := tyN_le (l := m.types)
  unfold six at h
  exact ⟨⟨by omega, fun x hx => by have := ht.2 x hx; omega⟩, by omega, by omega, by omega, by omega, by omega, by omega⟩
theorem cnt_small {m : Mo} (h : m.Small) (k : Nat) : impN m k + ownK m k ≤ 8000 := by
  have h1 := h.i; have h2 := h.f; have h3 := h.a; have h4 := h.mm; have h5 := h.g
  have hl := ofK_len (k := (k : Int)) (l := m.imports)
  have e1 : impN m k ≤ m.imports.length := by unfold impN; split <;> omega
  match k with
  | 0 => show _ + m.funcs.length ≤ _; omega
  | 1 => show _ + m.tables.length ≤ _; omega
  | 2 => show _ + m.mems.length ≤ _; omega
  | 3 => show _ + m.globals.length ≤ _; omega
  | k + 4 => show _ + 0 ≤ _; omega
theorem fnTy_small {m : Mo} (h : m.Small) (t : Nat) : (fnTy m.types t).1.1.length ≤ 4000 ∧ (fnTy m.types t).1.2.length ≤ 4000 := by
  unfold fnTy
  split
  · rename_i hl; exact h.t.2 _ (getD_mem hl)
  · exact ⟨by simp, by simp⟩
theorem fnAt_small {m : Mo} (h : m.Small) (i : Nat) : (fnAt (fnsOf m) i).1.1.length ≤ 100000000000 ∧ (fnAt (fnsOf m) i).1.2.length ≤ 100000000000 := by
  by_cases hi : i < (fnL m).length
  · rw [fnAt_of hi rfl]; have := fnTy_small h ((fnL m).getD i default).toNat; omega
  · rw [fnAt_no (by omega)]; exact ⟨by simp, by simp⟩
theorem tyAt_small {m : Mo} (h : m.Small) (i : Nat) : (tyAt m.types i).1.length ≤ 100000000000 ∧ (tyAt m.types i).2.length ≤ 100000000000 := by
  unfold tyAt
  split
  · rename_i hl; have := h.t.2 _ (getD_mem hl); omega
  · exact ⟨by simp, by simp⟩
theorem cntK_of (m : Mo) (k : Nat) : cntK (spcOf m) k = impN m k + ownK m k := by
  match k with
  | 0 => show (fnsOf m).length = _; rw [fnsOf_len, fnL_len]; rfl
  | 1 => exact lmL_len1 m
  | 2 => exact lmL_len2 m
  | 3 => exact glL_len m
  | k + 4 => rw [cntK_no (by omega), ownK_no (by omega)]; unfold impN; rw [if_neg (by omega)]
theorem impK_of (m : Mo) (k : Nat) : impK (spcOf m) k = impN m k := by
  match k with
  | 0 => rfl
  | 1 => rfl
  | 2 => rfl
  | 3 => rfl
  | k + 4 => rw [impK_no (by omega)]; unfold impN; rw [if_neg (by omega)]

set_option maxRecDepth 100000 in
set_option maxHeartbeats 4000000 in
theorem SpaceSames_any {H : Heap} {va wa vb wb : Value} {a b : FTy} (h1 : Sl 1 (EInt .u8) H va a.1) (k1 : Sl 1 (EInt .u8) H wa a.2) (h2 : Sl 1 (EInt .u8) H vb b.1) (k2 : Sl 1 (EInt .u8) H wb b.2) (hla : a.1.length ≤ 140737488351232) (hlb : a.2.length ≤ 140737488351232) (hlc : b.1.length ≤ 140737488351232) (hld : b.2.length ≤ 140737488351232) : Ct Try.prog 3 [.agg [va, wa].toArray, .agg [vb, wb].toArray] H (fun u H' => u = .bool true ∧ Old H H') := by
  refine Ct.mk Try.func3 rfl Try.ntmps3 rfl ?_
  intro W0 hW0
  have o0 : Old H H := Old.refl H
  refine KC.seq ?_
  refine KC.region ?_
  refine KL.opM (M.box rfl rfl rfl) rfl rfl rfl ?_
  rintro _ H1 ⟨rfl, n1⟩
  have z1 := n1.2.1
  have o0 := o0.trans n1.1
  have b1 := n1.2.2
  have ba := b1
  refine KL.opM (M.box rfl rfl rfl) rfl rfl rfl ?_
  rintro _ H2 ⟨rfl, n2⟩
  have z2 := n2.2.1
  have o0 := o0.trans n2.1
  have ba := (n2.1).blk ba
  have b2 := n2.2.2
  have bb := b2
  refine KL.op (R.assign rfl rfl) rfl rfl rfl ?_
  refine KL.nil ?_
  refine KQ.seq ?_
  refine KC.seq ?_
  refine KC.seq ?_
  refine KC.region ?_
  refine KL.call rfl rfl rfl rfl Try.call6 rfl rfl rfl (known_any) ?_
  rintro _ H3 ⟨rfl, ox⟩
  have zc_H3 := (ox).1
  have o0 := o0.trans ox
  have ba := (ox).blk ba
  have bb := (ox).blk bb
  refine KL.op (R.not rfl rfl) rfl rfl rfl ?_
  refine KL.nil ?_
  refine KQ.seq ?_
  refine KC.condF rfl ?_
  refine KC.skip ?_
  refine KQ.seq ?_
  refine KC.seq ?_
  refine KC.seq ?_
  refine KC.region ?_
  refine KL.op ((by first | exact R.fieldAddr rfl Try.underlying24 rfl rfl sz22 rfl | exact R.fieldAddrP rfl Try.underlying24 rfl rfl sz22 rfl)) rfl rfl rfl ?_
  refine KL.op (R.load rfl Try.underlying22 rfl rfl (by first | exact cell_of ba rfl | exact cell_of bb rfl | assumption)) rfl rfl rfl ?_
  refine KL.op (R.lenS rfl Try.underlying22 rfl h1) rfl rfl rfl ?_
  refine KL.op ((by first | exact R.fieldAddr rfl Try.underlying24 rfl rfl sz22 rfl | exact R.fieldAddrP rfl Try.underlying24 rfl rfl sz22 rfl)) rfl rfl rfl ?_
  refine KL.op (R.load rfl Try.underlying22 rfl rfl (by first | exact cell_of ba rfl | exact cell_of bb rfl | assumption)) rfl rfl rfl ?_
  refine KL.op (R.lenS rfl Try.underlying22 rfl k1) rfl rfl rfl ?_
  refine KL.op (R.add rfl rfl rfl (by dsimp only [InR]; omega)) rfl rfl rfl ?_
  refine KL.op ((by first | exact R.fieldAddr rfl Try.underlying24 rfl rfl sz22 rfl | exact R.fieldAddrP rfl Try.underlying24 rfl rfl sz22 rfl)) rfl rfl rfl ?_
  refine KL.op (R.load rfl Try.underlying22 rfl rfl (by first | exact cell_of ba rfl | exact cell_of bb rfl | assumption)) rfl rfl rfl ?_
  refine KL.op (R.lenS rfl Try.underlying22 rfl h2) rfl rfl rfl ?_
  refine KL.op (R.add rfl rfl rfl (by dsimp only [InR]; omega)) rfl rfl rfl ?_
  refine KL.op ((by first | exact R.fieldAddr rfl Try.underlying24 rfl rfl sz22 rfl | exact R.fieldAddrP rfl Try.underlying24 rfl rfl sz22 rfl)) rfl rfl rfl ?_
  refine KL.op (R.load rfl Try.underlying22 rfl rfl (by first | exact cell_of ba rfl | exact cell_of bb rfl | assumption)) rfl rfl rfl ?_
  refine KL.op (R.lenS rfl Try.underlying22 rfl k2) rfl rfl rfl ?_
  refine KL.op (R.add rfl rfl rfl (by dsimp only [InR]; omega)) rfl rfl rfl ?_
  refine KL.op (R.gtr rfl rfl rfl) rfl rfl rfl ?_
  refine KL.nil ?_
  refine KQ.seq ?_
  refine KC.iteL rfl ?_ ?_
  · intro hc22
    try simp only [decide_eq_true_eq, decide_eq_false_iff_not, Bool.not_eq_true', Bool.not_eq_false', Bool.and_eq_true, Bool.or_eq_false_iff] at hc22
    refine KC.seq ?_
    refine KC.region ?_
    refine KL.op (R.assign rfl rfl) rfl rfl rfl ?_
    refine KL.nil ?_
    refine KQ.seq ?_
    refine KC.ret ?_
    refine KQ.retThen ?_
    refine KQ.ofRet ?_
    refine KQ.fin1 Try.results3 rfl ?_
    exact ⟨rfl, o0⟩
  · intro hc22
    try simp only [decide_eq_true_eq, decide_eq_false_iff_not, Bool.not_eq_true', Bool.not_eq_false', Bool.and_eq_true, Bool.or_eq_false_iff] at hc22
    refine KC.skip ?_
    refine KQ.seq ?_
    refine KC.seq ?_
    refine KC.grow (by kernel_rfl) (by kernel_rfl) ?_
    refine KG.op (fun Hg og => by have ba := og.blk ba; have bb := og.blk bb; have o0 := o0.trans og; exact R.loadAgg rfl Try.underlying24 rfl sz24 rfl (by first | exact cells_of ba | exact cells_of bb | assumption) rfl) rfl rfl rfl ?_
    refine KG.op (fun Hg og => by have ba := og.blk ba; have bb := og.blk bb; have o0 := o0.trans og; exact R.loadAgg rfl Try.underlying24 rfl sz24 rfl (by first | exact cells_of ba | exact cells_of bb | assumption) rfl) rfl rfl rfl ?_
    refine KG.call rfl rfl rfl rfl Try.call7 rfl rfl rfl (fun Hg og => Same_any (h1.old (o0.trans og)) (k1.old (o0.trans og)) (h2.old (o0.trans og)) (k2.old (o0.trans og))) ?_
    refine KG.op (fun Hg og => by have ba := og.blk ba; have bb := og.blk bb; have o0 := o0.trans og; exact R.loadAgg rfl Try.underlying24 rfl sz24 rfl (by first | exact cells_of ba | exact cells_of bb | assumption) rfl) rfl rfl rfl ?_
    refine KG.op (fun Hg og => by have ba := og.blk ba; have bb := og.blk bb; have o0 := o0.trans og; exact R.loadAgg rfl Try.underlying24 rfl sz24 rfl (by first | exact cells_of ba | exact cells_of bb | assumption) rfl) rfl rfl rfl ?_
    refine KG.call rfl rfl rfl rfl Try.call8 rfl rfl rfl (fun Hg og => RSame_any (h1.old (o0.trans og)) (k1.old (o0.trans og)) (h2.old (o0.trans og)) (k2.old (o0.trans og))) ?_
    refine KG.op (fun Hg og => by have ba := og.blk ba; have bb := og.blk bb; have o0 := o0.trans og; exact (R.eqlB rfl Try.underlying4 rfl rfl).val (congrArg Value.bool (beq_self_eq_true _))) rfl rfl rfl ?_
    refine KG.op (fun Hg og => by have ba := og.blk ba; have bb := og.blk bb; have o0 := o0.trans og; exact R.move rfl rfl) rfl rfl rfl ?_
    refine KG.op (fun Hg og => by have ba := og.blk ba; have bb := og.blk bb; have o0 := o0.trans og; exact R.loadAgg rfl Try.underlying24 rfl sz24 rfl (by first | exact cells_of ba | exact cells_of bb | assumption) rfl) rfl rfl rfl ?_
    refine KG.op (fun Hg og => by have ba := og.blk ba; have bb := og.blk bb; have o0 := o0.trans og; exact R.loadAgg rfl Try.underlying24 rfl sz24 rfl (by first | exact cells_of ba | exact cells_of bb | assumption) rfl) rfl rfl rfl ?_
    refine KG.call rfl rfl rfl rfl Try.call7 rfl rfl rfl (fun Hg og => Ct.mono (R' := fun u H' => u = .bool true ∧ Old Hg H') (Same_any (h1.old (o0.trans og)) (k1.old (o0.trans og)) (h1.old (o0.trans og)) (k1.old (o0.trans og))) (fun v H' h => ⟨h.1.trans (congrArg Value.bool (decide_eq_true rfl)), h.2⟩)) ?_
    refine KG.op (fun Hg og => by have ba := og.blk ba; have bb := og.blk bb; have o0 := o0.trans og; exact R.pick rfl rfl rfl) rfl rfl rfl ?_
    refine KG.op (fun Hg og => by have ba := og.blk ba; have bb := og.blk bb; have o0 := o0.trans og; exact R.assign rfl rfl) rfl rfl rfl ?_
    refine KG.nil ?_
    intro H4 ogH4
    have o0 := o0.trans ogH4
    have ba := (ogH4).blk ba
    have bb := (ogH4).blk bb
    have zH4 := ogH4.1
    refine KQ.seq ?_
    refine KC.ret ?_
    refine KQ.ofRet ?_
    refine KQ.fin1 Try.results3 rfl ?_
    exact ⟨rfl, o0⟩

set_option maxRecDepth 100000 in
set_option maxHeartbeats 4000000 in
theorem SpaceTells_any {H : Heap} {v0 v1 v2 v3 v4 v5 v6 v7 v8 v9 va vb : Value} {m : Mo} (mv : MV H v0 v1 v2 v3 v4 v5 v6 v7 v8 v9 va vb m) (hS : Small m) (i : Nat) (hi : i ≤ 4294967295) (kd : Nat) (nm : ByteArray) : Ct Try.prog 4 [.agg [v0, v1, v2, v3, v4, v5, v6, v7, v8, v9, va, vb].toArray, .int .u32 (i : Nat), .int .u8 (kd : Nat), .string nm] H (fun u H' => u = .bool true ∧ Old H H') := by
  refine Ct.mk Try.func4 rfl Try.ntmps4 rfl ?_
  intro W0 hW0
  have o0 : Old H H := Old.refl H
  refine KC.seq ?_
  refine KC.region ?_
  refine KL.opM (M.box rfl rfl rfl) rfl rfl rfl ?_
  rintro _ H1 ⟨rfl, n1⟩
  have z1 := n1.2.1
  have o0 := o0.trans n1.1
  have b1 := n1.2.2
  have bx := b1
  refine KL.op (R.assign rfl rfl) rfl rfl rfl ?_
  refine KL.nil ?_
  refine KQ.seq ?_
  refine KC.seq ?_
  refine KC.seq ?_
  refine KC.region ?_
  refine KL.call rfl rfl rfl rfl Try.call6 rfl rfl rfl (known_any) ?_
  rintro _ H2 ⟨rfl, ox⟩
  have zc_H2 := (ox).1
  have o0 := o0.trans ox
  have bx := (ox).blk bx
  refine KL.op (R.not rfl rfl) rfl rfl rfl ?_
  refine KL.nil ?_
  refine KQ.seq ?_
  refine KC.condF rfl ?_
  refine KC.skip ?_
  refine KQ.seq ?_
  refine KC.seq ?_
  refine KC.seq ?_
  refine KC.region ?_
  refine KL.op (R.loadAgg rfl Try.underlying38 rfl sz38 rfl (by first | exact cells_of bx | assumption) rfl) rfl rfl rfl ?_
  refine KL.call rfl rfl rfl rfl Try.call9 rfl rfl rfl (RGreat_any (mv.old o0) hS) ?_
  rintro _ H3 ⟨rfl, ox⟩
  have zc_H3 := (ox).1
  have o0 := o0.trans ox
  have bx := (ox).blk bx
  refine KL.nil ?_
  refine KQ.seq ?_
  refine KC.iteL rfl ?_ ?_
  · intro hc31
    try simp only [decide_eq_true_eq, decide_eq_false_iff_not, Bool.not_eq_true', Bool.not_eq_false', Bool.and_eq_true, Bool.or_eq_false_iff] at hc31
    refine KC.seq ?_
    refine KC.region ?_
    refine KL.op (R.assign rfl rfl) rfl rfl rfl ?_
    refine KL.nil ?_
    refine KQ.seq ?_
    refine KC.ret ?_
    refine KQ.retThen ?_
    refine KQ.ofRet ?_
    refine KQ.fin1 Try.results4 rfl ?_
    exact ⟨rfl, o0⟩
  · intro hc31
    try simp only [decide_eq_true_eq, decide_eq_false_iff_not, Bool.not_eq_true', Bool.not_eq_false', Bool.and_eq_true, Bool.or_eq_false_iff] at hc31
    have hsm : m.Small := small_of (by omega)
    have hml : m.imports.length ≤ 1000000 := by have := hsm.i; omega
    refine KC.skip ?_
    refine KQ.seq ?_
    refine KC.seq ?_
    refine KC.region ?_
    refine KL.op (R.loadAgg rfl Try.underlying38 rfl sz38 rfl (by first | exact cells_of bx | assumption) rfl) rfl rfl rfl ?_
    refine KL.call rfl rfl rfl rfl Try.call10 rfl rfl rfl (Of_any (mv.old o0) hsm) ?_
    rintro _ H4 ⟨g, wt, wf, wg, wa, wm, we, rfl, sp, hg, ox⟩
    have zc_H4 := (ox).1
    have o0 := o0.trans ox
    have bx := (ox).blk bx
    have oS : Old H4 H4 := Old.refl _
    refine KL.op (R.assign rfl rfl) rfl rfl rfl ?_
    refine KL.nil ?_
    refine KQ.seq ?_
    refine KC.seq ?_
    refine KC.region ?_
    refine KL.op (R.move rfl rfl) rfl rfl rfl ?_
    refine KL.op (R.move rfl rfl) rfl rfl rfl ?_
    refine KL.call rfl rfl rfl rfl Try.call11 rfl rfl rfl (SFunc_any (sp.old oS) i hi (fnAt_small hsm i)) ?_
    rintro _ H5 ⟨⟨a1, b1, rfl, wA, xA⟩, ox⟩
    have zc_H5 := (ox).1
    have o0 := o0.trans ox
    have bx := (ox).blk bx
    have oS := oS.trans ox
    have sA := wA.sl (emptyOld _) (by decide)
    have tA := xA.sl (emptyOld _) (by decide)
    have oA : Old H5 H5 := Old.refl _
    refine KL.op (R.move rfl rfl) rfl rfl rfl ?_
    refine KL.op (R.extract rfl rfl rfl) rfl rfl rfl ?_
    refine KL.op (R.extract rfl rfl rfl) rfl rfl rfl ?_
    refine KL.opM (M.alloc rfl zr24 rfl) rfl rfl rfl ?_
    rintro _ H6 ⟨rfl, n6⟩
    have z6 := n6.2.1
    have o0 := o0.trans n6.1
    have bx := (n6.1).blk bx
    have oS := oS.trans n6.1
    have oA := oA.trans n6.1
    have b6 := n6.2.2
    have q10 := b6
    refine KL.opS (S.storeAgg rfl sz24 rfl rfl (rfl) (by intro u hu; simp only [List.mem_cons, List.not_mem_nil, or_false] at hu; rcases hu with rfl | rfl <;> first | rfl | exact sA.one | exact tA.one) q10 (by simp)) rfl rfl ?_
    rintro H7 ⟨u7, b7⟩
    have o0 := o0.upd u7 (by omega)
    have zu7 := u7.1
    have bx := ((u7).2 _ (by omega)).trans bx
    have oS := oS.upd u7 (by omega)
    have oA := oA.upd u7 (by omega)
    have q10 := b7
    rw [over_all (by rfl)] at q10
    refine KL.op (R.assign rfl rfl) rfl rfl rfl ?_
    refine KL.nil ?_
    refine KQ.seq ?_
    refine KC.seq ?_
    refine KC.region ?_
    refine KL.op (R.loadAgg rfl Try.underlying38 rfl sz38 rfl (by first | exact cells_of bx | exact cells_of q10 | assumption) rfl) rfl rfl rfl ?_
    refine KL.op (R.move rfl rfl) rfl rfl rfl ?_
    refine KL.call rfl rfl rfl rfl Try.call12 rfl rfl rfl (RFunc_any (mv.old o0) i hi) ?_
    rintro _ H8 ⟨⟨cs, rfl, a2, b2, rfl, sB, tB⟩, ox⟩
    have zc_H8 := (ox).1
    have o0 := o0.trans ox
    have bx := (ox).blk bx
    have oS := oS.trans ox
    have oA := oA.trans ox
    have q10 := (ox).blk q10
    have oB : Old H8 H8 := Old.refl _
    refine KL.op (R.move rfl rfl) rfl rfl rfl ?_
    refine KL.op (R.extract rfl rfl rfl) rfl rfl rfl ?_
    refine KL.op (R.extract rfl rfl rfl) rfl rfl rfl ?_
    refine KL.opM (M.alloc rfl zr24 rfl) rfl rfl rfl ?_
    rintro _ H9 ⟨rfl, n9⟩
    have z9 := n9.2.1
    have o0 := o0.trans n9.1
    have bx := (n9.1).blk bx
    have oS := oS.trans n9.1
    have oA := oA.trans n9.1
    have q10 := (n9.1).blk q10
    have oB := oB.trans n9.1
    have b9 := n9.2.2
    have q12 := b9
    refine KL.opS (S.storeAgg rfl sz24 rfl rfl (rfl) (by intro u hu; simp only [List.mem_cons, List.not_mem_nil, or_false] at hu; rcases hu with rfl | rfl <;> first | rfl | exact sB.one | exact tB.one) q12 (by simp)) rfl rfl ?_
    rintro H10 ⟨u10, b10⟩
    have o0 := o0.upd u10 (by omega)
    have zu10 := u10.1
    have bx := ((u10).2 _ (by omega)).trans bx
    have oS := oS.upd u10 (by omega)
    have oA := oA.upd u10 (by omega)
    have q10 := ((u10).2 _ (by omega)).trans q10
    have oB := oB.upd u10 (by omega)
    have q12 := b10
    rw [over_all (by rfl)] at q12
    refine KL.op (R.assign rfl rfl) rfl rfl rfl ?_
    refine KL.nil ?_
    refine KQ.seq ?_
    refine KC.seq ?_
    refine KC.region ?_
    refine KL.op (R.move rfl rfl) rfl rfl rfl ?_
    refine KL.op (R.move rfl rfl) rfl rfl rfl ?_
    refine KL.call rfl rfl rfl rfl Try.call13 rfl rfl rfl (SGlobal_v (sp.old oS) i hi) ?_
    rintro _ H11 ⟨rfl, ox⟩
    have zc_H11 := (ox).1
    have o0 := o0.trans ox
    have bx := (ox).blk bx
    have oS := oS.trans ox
    have oA := oA.trans ox
    have q10 := (ox).blk q10
    have oB := oB.trans ox
    have q12 := (ox).blk q12
    refine KL.op (R.move rfl rfl) rfl rfl rfl ?_
    refine KL.op (R.extract rfl rfl rfl) rfl rfl rfl ?_
    refine KL.op (R.extract rfl rfl rfl) rfl rfl rfl ?_
    refine KL.opM (M.alloc rfl zr46 rfl) rfl rfl rfl ?_
    rintro _ H12 ⟨rfl, n12⟩
    have z12 := n12.2.1
    have o0 := o0.trans n12.1
    have bx := (n12.1).blk bx
    have oS := oS.trans n12.1
    have oA := oA.trans n12.1
    have q10 := (n12.1).blk q10
    have oB := oB.trans n12.1
    have q12 := (n12.1).blk q12
    have b12 := n12.2.2
    have q14 := b12
    refine KL.opS (S.storeAgg (us := Glb.cells _) rfl sz46 rfl rfl (rfl) (by exact one_glb) q14 (by simp [Glb.cells, Lim.cells])) rfl rfl ?_
    rintro H13 ⟨u13, b13⟩
    have o0 := o0.upd u13 (by omega)
    have zu13 := u13.1
    have bx := ((u13).2 _ (by omega)).trans bx
    have oS := oS.upd u13 (by omega)
    have oA := oA.upd u13 (by omega)
    have q10 := ((u13).2 _ (by omega)).trans q10
    have oB := oB.upd u13 (by omega)
    have q12 := ((u13).2 _ (by omega)).trans q12
    have q14 := b13
    rw [over_all (by rfl)] at q14
    refine KL.op (R.assign rfl rfl) rfl rfl rfl ?_
    refine KL.nil ?_
    refine KQ.seq ?_
    refine KC.seq ?_
    refine KC.region ?_
    refine KL.op (R.loadAgg rfl Try.underlying38 rfl sz38 rfl (by first | exact cells_of bx | exact cells_of q10 | exact cells_of q12 | exact cells_of q14 | assumption) rfl) rfl rfl rfl ?_
    refine KL.op (R.move rfl rfl) rfl rfl rfl ?_
    refine KL.call rfl rfl rfl rfl Try.call14 rfl rfl rfl (RGlobal_v (mv.old o0) i hi (by have := cnt_small hsm 3; omega) hml) ?_
    rintro _ H14 ⟨rfl, ox⟩
    have zc_H14 := (ox).1
    have o0 := o0.trans ox
    have bx := (ox).blk bx
    have oS := oS.trans ox
    have oA := oA.trans ox
    have q10 := (ox).blk q10
    have oB := oB.trans ox
    have q12 := (ox).blk q12
    have q14 := (ox).blk q14
    refine KL.op (R.move rfl rfl) rfl rfl rfl ?_
    refine KL.op (R.extract rfl rfl rfl) rfl rfl rfl ?_
    refine KL.op (R.extract rfl rfl rfl) rfl rfl rfl ?_
    refine KL.opM (M.alloc rfl zr46 rfl) rfl rfl rfl ?_
    rintro _ H15 ⟨rfl, n15⟩
    have z15 := n15.2.1
    have o0 := o0.trans n15.1
    have bx := (n15.1).blk bx
    have oS := oS.trans n15.1
    have oA := oA.trans n15.1
    have q10 := (n15.1).blk q10
    have oB := oB.trans n15.1
    have q12 := (n15.1).blk q12
    have q14 := (n15.1).blk q14
    have b15 := n15.2.2
    have q16 := b15
    refine KL.opS (S.storeAgg (us := Glb.cells _) rfl sz46 rfl rfl (rfl) (by exact one_glb) q16 (by simp [Glb.cells, Lim.cells])) rfl rfl ?_
    rintro H16 ⟨u16, b16⟩
    have o0 := o0.upd u16 (by omega)
    have zu16 := u16.1
    have bx := ((u16).2 _ (by omega)).trans bx
    have oS := oS.upd u16 (by omega)
    have oA := oA.upd u16 (by omega)
    have q10 := ((u16).2 _ (by omega)).trans q10
    have oB := oB.upd u16 (by omega)
    have q12 := ((u16).2 _ (by omega)).trans q12
    have q14 := ((u16).2 _ (by omega)).trans q14
    have q16 := b16
    rw [over_all (by rfl)] at q16
    refine KL.op (R.assign rfl rfl) rfl rfl rfl ?_
    refine KL.nil ?_
    refine KQ.seq ?_
    refine KC.seq ?_
    refine KC.seq ?_
    refine KC.region ?_
    refine KL.op (R.loadAgg rfl Try.underlying24 rfl sz24 rfl (by first | exact cells_of bx | exact cells_of q10 | exact cells_of q12 | exact cells_of q14 | exact cells_of q16 | assumption) rfl) rfl rfl rfl ?_
    refine KL.op (R.loadAgg rfl Try.underlying24 rfl sz24 rfl (by first | exact cells_of bx | exact cells_of q10 | exact cells_of q12 | exact cells_of q14 | exact cells_of q16 | assumption) rfl) rfl rfl rfl ?_
    refine KL.call rfl rfl rfl rfl Try.call8 rfl rfl rfl (Ct.mono (R' := fun u H' => u = .bool true ∧ Old H16 H') (RSame_any (sA.old oA) (tA.old oA) (sB.old oB) (tB.old oB)) (fun v H' h => ⟨h.1.trans (congrArg Value.bool (decide_eq_true rfl)), h.2⟩)) ?_
    rintro _ H17 ⟨rfl, ox⟩
    have zc_H17 := (ox).1
    have o0 := o0.trans ox
    have bx := (ox).blk bx
    have oS := oS.trans ox
    have oA := oA.trans ox
    have q10 := (ox).blk q10
    have oB := oB.trans ox
    have q12 := (ox).blk q12
    have q14 := (ox).blk q14
    have q16 := (ox).blk q16
    refine KL.op (R.not rfl rfl) rfl rfl rfl ?_
    refine KL.op (R.move rfl rfl) rfl rfl rfl ?_
    refine KL.op (R.move rfl rfl) rfl rfl rfl ?_
    refine KL.op (R.move rfl rfl) rfl rfl rfl ?_
    refine KL.op ((R.neqB rfl Try.underlying4 rfl rfl).val (congrArg Value.bool (show (!((fnAt (fnsOf m) i).2 == (fnAt (fnsOf m) i).2)) = false by simp))) rfl rfl rfl ?_
    refine KL.op (R.pick rfl rfl rfl) rfl rfl rfl ?_
    refine KL.op (R.move rfl rfl) rfl rfl rfl ?_
    refine KL.op (R.loadAgg rfl Try.underlying46 rfl sz46 rfl (by first | exact cells_of bx | exact cells_of q10 | exact cells_of q12 | exact cells_of q14 | exact cells_of q16 | assumption) rfl) rfl rfl rfl ?_
    refine KL.op (R.loadAgg rfl Try.underlying46 rfl sz46 rfl (by first | exact cells_of bx | exact cells_of q10 | exact cells_of q12 | exact cells_of q14 | exact cells_of q16 | assumption) rfl) rfl rfl rfl ?_
    refine KL.op ((R.neqSt rfl Try.underlying46 (by kernel_rfl) (by kernel_rfl) rfl rfl (EqFs.int (by decide) Try.underlying5 rfl rfl (EqFs.bool (by decide) Try.underlying4 rfl rfl EqFs.nil))).val (congrArg Value.bool (show (!(decide ((glbAt (glL m) i).1 = (glbAt (glL m) i).1) && (((glbAt (glL m) i).2 == (glbAt (glL m) i).2) && true))) = false by simp))) rfl rfl rfl ?_
    refine KL.op (R.pick rfl rfl rfl) rfl rfl rfl ?_
    refine KL.op (R.move rfl rfl) rfl rfl rfl ?_
    refine KL.op (R.move rfl rfl) rfl rfl rfl ?_
    refine KL.op (R.move rfl rfl) rfl rfl rfl ?_
    refine KL.op ((R.neqB rfl Try.underlying4 rfl rfl).val (congrArg Value.bool (show (!(decide (i < (glL m).length) == decide (i < (glL m).length))) = false by simp))) rfl rfl rfl ?_
    refine KL.op (R.pick rfl rfl rfl) rfl rfl rfl ?_
    refine KL.nil ?_
    refine KQ.seq ?_
    refine KC.condF rfl ?_
    refine KC.skip ?_
    refine KQ.seq ?_
    refine KC.seq ?_
    refine KC.region ?_
    refine KL.op (R.move rfl rfl) rfl rfl rfl ?_
    refine KL.op (R.move rfl rfl) rfl rfl rfl ?_
    refine KL.call rfl rfl rfl rfl Try.call15 rfl rfl rfl (STable_v (sp.old oS) i hi) ?_
    rintro _ H18 ⟨rfl, ox⟩
    have zc_H18 := (ox).1
    have o0 := o0.trans ox
    have bx := (ox).blk bx
    have oS := oS.trans ox
    have oA := oA.trans ox
    have q10 := (ox).blk q10
    have oB := oB.trans ox
    have q12 := (ox).blk q12
    have q14 := (ox).blk q14
    have q16 := (ox).blk q16
    refine KL.op (R.move rfl rfl) rfl rfl rfl ?_
    refine KL.op (R.extract rfl rfl rfl) rfl rfl rfl ?_
    refine KL.op (R.extract rfl rfl rfl) rfl rfl rfl ?_
    refine KL.opM (M.alloc rfl zr51 rfl) rfl rfl rfl ?_
    rintro _ H19 ⟨rfl, n19⟩
    have z19 := n19.2.1
    have o0 := o0.trans n19.1
    have bx := (n19.1).blk bx
    have oS := oS.trans n19.1
    have oA := oA.trans n19.1
    have q10 := (n19.1).blk q10
    have oB := oB.trans n19.1
    have q12 := (n19.1).blk q12
    have q14 := (n19.1).blk q14
    have q16 := (n19.1).blk q16
    have b19 := n19.2.2
    have q18 := b19
    refine KL.opS (S.storeAgg (us := Lim.cells _) rfl sz51 rfl rfl (rfl) (by exact one_lim) q18 (by simp [Glb.cells, Lim.cells])) rfl rfl ?_
    rintro H20 ⟨u20, b20⟩
    have o0 := o0.upd u20 (by omega)
    have zu20 := u20.1
    have bx := ((u20).2 _ (by omega)).trans bx
    have oS := oS.upd u20 (by omega)
    have oA := oA.upd u20 (by omega)
    have q10 := ((u20).2 _ (by omega)).trans q10
    have oB := oB.upd u20 (by omega)
    have q12 := ((u20).2 _ (by omega)).trans q12
    have q14 := ((u20).2 _ (by omega)).trans q14
    have q16 := ((u20).2 _ (by omega)).trans q16
    have q18 := b20
    rw [over_all (by rfl)] at q18
    refine KL.op (R.assign rfl rfl) rfl rfl rfl ?_
    refine KL.nil ?_
    refine KQ.seq ?_
    refine KC.seq ?_
    refine KC.region ?_
    refine KL.op (R.loadAgg rfl Try.underlying38 rfl sz38 rfl (by first | exact cells_of bx | exact cells_of q10 | exact cells_of q12 | exact cells_of q14 | exact cells_of q16 | exact cells_of q18 | assumption) rfl) rfl rfl rfl ?_
    refine KL.op (R.move rfl rfl) rfl rfl rfl ?_
    refine KL.call rfl rfl rfl rfl Try.call16 rfl rfl rfl (RLim1_v (mv.old o0) i hi (by have := cnt_small hsm 1; omega) hml) ?_
    rintro _ H21 ⟨rfl, ox⟩
    have zc_H21 := (ox).1
    have o0 := o0.trans ox
    have bx := (ox).blk bx
    have oS := oS.trans ox
    have oA := oA.trans ox
    have q10 := (ox).blk q10
    have oB := oB.trans ox
    have q12 := (ox).blk q12
    have q14 := (ox).blk q14
    have q16 := (ox).blk q16
    have q18 := (ox).blk q18
    refine KL.op (R.move rfl rfl) rfl rfl rfl ?_
    refine KL.op (R.extract rfl rfl rfl) rfl rfl rfl ?_
    refine KL.op (R.extract rfl rfl rfl) rfl rfl rfl ?_
    refine KL.opM (M.alloc rfl zr51 rfl) rfl rfl rfl ?_
    rintro _ H22 ⟨rfl, n22⟩
    have z22 := n22.2.1
    have o0 := o0.trans n22.1
    have bx := (n22.1).blk bx
    have oS := oS.trans n22.1
    have oA := oA.trans n22.1
    have q10 := (n22.1).blk q10
    have oB := oB.trans n22.1
    have q12 := (n22.1).blk q12
    have q14 := (n22.1).blk q14
    have q16 := (n22.1).blk q16
    have q18 := (n22.1).blk q18
    have b22 := n22.2.2
    have q19 := b22
    refine KL.opS (S.storeAgg (us := Lim.cells _) rfl sz51 rfl rfl (rfl) (by exact one_lim) q19 (by simp [Glb.cells, Lim.cells])) rfl rfl ?_
    rintro H23 ⟨u23, b23⟩
    have o0 := o0.upd u23 (by omega)
    have zu23 := u23.1
    have bx := ((u23).2 _ (by omega)).trans bx
    have oS := oS.upd u23 (by omega)
    have oA := oA.upd u23 (by omega)
    have q10 := ((u23).2 _ (by omega)).trans q10
    have oB := oB.upd u23 (by omega)
    have q12 := ((u23).2 _ (by omega)).trans q12
    have q14 := ((u23).2 _ (by omega)).trans q14
    have q16 := ((u23).2 _ (by omega)).trans q16
    have q18 := ((u23).2 _ (by omega)).trans q18
    have q19 := b23
    rw [over_all (by rfl)] at q19
    refine KL.op (R.assign rfl rfl) rfl rfl rfl ?_
    refine KL.nil ?_
    refine KQ.seq ?_
    refine KC.seq ?_
    refine KC.region ?_
    refine KL.op (R.move rfl rfl) rfl rfl rfl ?_
    refine KL.op (R.move rfl rfl) rfl rfl rfl ?_
    refine KL.call rfl rfl rfl rfl Try.call17 rfl rfl rfl (SMem_v (sp.old oS) i hi) ?_
    rintro _ H24 ⟨rfl, ox⟩
    have zc_H24 := (ox).1
    have o0 := o0.trans ox
    have bx := (ox).blk bx
    have oS := oS.trans ox
    have oA := oA.trans ox
    have q10 := (ox).blk q10
    have oB := oB.trans ox
    have q12 := (ox).blk q12
    have q14 := (ox).blk q14
    have q16 := (ox).blk q16
    have q18 := (ox).blk q18
    have q19 := (ox).blk q19
    refine KL.op (R.move rfl rfl) rfl rfl rfl ?_
    refine KL.op (R.extract rfl rfl rfl) rfl rfl rfl ?_
    refine KL.op (R.extract rfl rfl rfl) rfl rfl rfl ?_
    refine KL.opM (M.alloc rfl zr51 rfl) rfl rfl rfl ?_
    rintro _ H25 ⟨rfl, n25⟩
    have z25 := n25.2.1
    have o0 := o0.trans n25.1
    have bx := (n25.1).blk bx
    have oS := oS.trans n25.1
    have oA := oA.trans n25.1
    have q10 := (n25.1).blk q10
    have oB := oB.trans n25.1
    have q12 := (n25.1).blk q12
    have q14 := (n25.1).blk q14
    have q16 := (n25.1).blk q16
    have q18 := (n25.1).blk q18
    have q19 := (n25.1).blk q19
    have b25 := n25.2.2
    have q20 := b25
    refine KL.opS (S.storeAgg (us := Lim.cells _) rfl sz51 rfl rfl (rfl) (by exact one_lim) q20 (by simp [Glb.cells, Lim.cells])) rfl rfl ?_
    rintro H26 ⟨u26, b26⟩
    have o0 := o0.upd u26 (by omega)
    have zu26 := u26.1
    have bx := ((u26).2 _ (by omega)).trans bx
    have oS := oS.upd u26 (by omega)
    have oA := oA.upd u26 (by omega)
    have q10 := ((u26).2 _ (by omega)).trans q10
    have oB := oB.upd u26 (by omega)
    have q12 := ((u26).2 _ (by omega)).trans q12
    have q14 := ((u26).2 _ (by omega)).trans q14
    have q16 := ((u26).2 _ (by omega)).trans q16
    have q18 := ((u26).2 _ (by omega)).trans q18
    have q19 := ((u26).2 _ (by omega)).trans q19
    have q20 := b26
    rw [over_all (by rfl)] at q20
    refine KL.op (R.assign rfl rfl) rfl rfl rfl ?_
    refine KL.nil ?_
    refine KQ.seq ?_
    refine KC.seq ?_
    refine KC.region ?_
    refine KL.op (R.loadAgg rfl Try.underlying38 rfl sz38 rfl (by first | exact cells_of bx | exact cells_of q10 | exact cells_of q12 | exact cells_of q14 | exact cells_of q16 | exact cells_of q18 | exact cells_of q19 | exact cells_of q20 | assumption) rfl) rfl rfl rfl ?_
    refine KL.op (R.move rfl rfl) rfl rfl rfl ?_
    refine KL.call rfl rfl rfl rfl Try.call16 rfl rfl rfl (RLim2_v (mv.old o0) i hi (by have := cnt_small hsm 2; omega) hml) ?_
    rintro _ H27 ⟨rfl, ox⟩
    have zc_H27 := (ox).1
    have o0 := o0.trans ox
    have bx := (ox).blk bx
    have oS := oS.trans ox
    have oA := oA.trans ox
    have q10 := (ox).blk q10
    have oB := oB.trans ox
    have q12 := (ox).blk q12
    have q14 := (ox).blk q14
    have q16 := (ox).blk q16
    have q18 := (ox).blk q18
    have q19 := (ox).blk q19
    have q20 := (ox).blk q20
    refine KL.op (R.move rfl rfl) rfl rfl rfl ?_
    refine KL.op (R.extract rfl rfl rfl) rfl rfl rfl ?_
    refine KL.op (R.extract rfl rfl rfl) rfl rfl rfl ?_
    refine KL.opM (M.alloc rfl zr51 rfl) rfl rfl rfl ?_
    rintro _ H28 ⟨rfl, n28⟩
    have z28 := n28.2.1
    have o0 := o0.trans n28.1
    have bx := (n28.1).blk bx
    have oS := oS.trans n28.1
    have oA := oA.trans n28.1
    have q10 := (n28.1).blk q10
    have oB := oB.trans n28.1
    have q12 := (n28.1).blk q12
    have q14 := (n28.1).blk q14
    have q16 := (n28.1).blk q16
    have q18 := (n28.1).blk q18
    have q19 := (n28.1).blk q19
    have q20 := (n28.1).blk q20
    have b28 := n28.2.2
    have q21 := b28
    refine KL.opS (S.storeAgg (us := Lim.cells _) rfl sz51 rfl rfl (rfl) (by exact one_lim) q21 (by simp [Glb.cells, Lim.cells])) rfl rfl ?_
    rintro H29 ⟨u29, b29⟩
    have o0 := o0.upd u29 (by omega)
    have zu29 := u29.1
    have bx := ((u29).2 _ (by omega)).trans bx
    have oS := oS.upd u29 (by omega)
    have oA := oA.upd u29 (by omega)
    have q10 := ((u29).2 _ (by omega)).trans q10
    have oB := oB.upd u29 (by omega)
    have q12 := ((u29).2 _ (by omega)).trans q12
    have q14 := ((u29).2 _ (by omega)).trans q14
    have q16 := ((u29).2 _ (by omega)).trans q16
    have q18 := ((u29).2 _ (by omega)).trans q18
    have q19 := ((u29).2 _ (by omega)).trans q19
    have q20 := ((u29).2 _ (by omega)).trans q20
    have q21 := b29
    rw [over_all (by rfl)] at q21
    refine KL.op (R.assign rfl rfl) rfl rfl rfl ?_
    refine KL.nil ?_
    refine KQ.seq ?_
    refine KC.seq ?_
    refine KC.seq ?_
    refine KC.region ?_
    refine KL.op (R.loadAgg rfl Try.underlying51 rfl sz51 rfl (by first | exact cells_of bx | exact cells_of q10 | exact cells_of q12 | exact cells_of q14 | exact cells_of q16 | exact cells_of q18 | exact cells_of q19 | exact cells_of q20 | exact cells_of q21 | assumption) rfl) rfl rfl rfl ?_
    refine KL.op (R.loadAgg rfl Try.underlying51 rfl sz51 rfl (by first | exact cells_of bx | exact cells_of q10 | exact cells_of q12 | exact cells_of q14 | exact cells_of q16 | exact cells_of q18 | exact cells_of q19 | exact cells_of q20 | exact cells_of q21 | assumption) rfl) rfl rfl rfl ?_
    refine KL.op ((R.neqSt rfl Try.underlying51 (by kernel_rfl) (by kernel_rfl) rfl rfl (EqFs.int (by decide) Try.underlying33 rfl rfl (EqFs.int (by decide) Try.underlying2 rfl rfl EqFs.nil))).val (congrArg Value.bool (show (!(decide ((limAt (lmL m 1) i).1 = (limAt (lmL m 1) i).1) && (decide ((limAt (lmL m 1) i).2 = (limAt (lmL m 1) i).2) && true))) = false by simp))) rfl rfl rfl ?_
    refine KL.op (R.move rfl rfl) rfl rfl rfl ?_
    refine KL.op (R.move rfl rfl) rfl rfl rfl ?_
    refine KL.op (R.move rfl rfl) rfl rfl rfl ?_
    refine KL.op ((R.neqB rfl Try.underlying4 rfl rfl).val (congrArg Value.bool (show (!(decide (i < (lmL m 1).length) == decide (i < (lmL m 1).length))) = false by simp))) rfl rfl rfl ?_
    refine KL.op (R.pick rfl rfl rfl) rfl rfl rfl ?_
    refine KL.op (R.move rfl rfl) rfl rfl rfl ?_
    refine KL.op (R.loadAgg rfl Try.underlying51 rfl sz51 rfl (by first | exact cells_of bx | exact cells_of q10 | exact cells_of q12 | exact cells_of q14 | exact cells_of q16 | exact cells_of q18 | exact cells_of q19 | exact cells_of q20 | exact cells_of q21 | assumption) rfl) rfl rfl rfl ?_
    refine KL.op (R.loadAgg rfl Try.underlying51 rfl sz51 rfl (by first | exact cells_of bx | exact cells_of q10 | exact cells_of q12 | exact cells_of q14 | exact cells_of q16 | exact cells_of q18 | exact cells_of q19 | exact cells_of q20 | exact cells_of q21 | assumption) rfl) rfl rfl rfl ?_
    refine KL.op ((R.neqSt rfl Try.underlying51 (by kernel_rfl) (by kernel_rfl) rfl rfl (EqFs.int (by decide) Try.underlying33 rfl rfl (EqFs.int (by decide) Try.underlying2 rfl rfl EqFs.nil))).val (congrArg Value.bool (show (!(decide ((limAt (lmL m 2) i).1 = (limAt (lmL m 2) i).1) && (decide ((limAt (lmL m 2) i).2 = (limAt (lmL m 2) i).2) && true))) = false by simp))) rfl rfl rfl ?_
    refine KL.op (R.pick rfl rfl rfl) rfl rfl rfl ?_
    refine KL.op (R.move rfl rfl) rfl rfl rfl ?_
    refine KL.op (R.move rfl rfl) rfl rfl rfl ?_
    refine KL.op (R.move rfl rfl) rfl rfl rfl ?_
    refine KL.op ((R.neqB rfl Try.underlying4 rfl rfl).val (congrArg Value.bool (show (!(decide (i < (lmL m 2).length) == decide (i < (lmL m 2).length))) = false by simp))) rfl rfl rfl ?_
    refine KL.op (R.pick rfl rfl rfl) rfl rfl rfl ?_
    refine KL.nil ?_
    refine KQ.seq ?_
    refine KC.condF rfl ?_
    refine KC.skip ?_
    refine KQ.seq ?_
    refine KC.seq ?_
    refine KC.region ?_
    refine KL.op (R.move rfl rfl) rfl rfl rfl ?_
    refine KL.op (R.move rfl rfl) rfl rfl rfl ?_
    refine KL.call rfl rfl rfl rfl Try.call18 rfl rfl rfl (SType_any (sp.old oS) i hi (tyAt_small hsm i)) ?_
    rintro _ H30 ⟨⟨a3, b3, rfl, wC, xC⟩, ox⟩
    have zc_H30 := (ox).1
    have o0 := o0.trans ox
    have bx := (ox).blk bx
    have oS := oS.trans ox
    have oA := oA.trans ox
    have q10 := (ox).blk q10
    have oB := oB.trans ox
    have q12 := (ox).blk q12
    have q14 := (ox).blk q14
    have q16 := (ox).blk q16
    have q18 := (ox).blk q18
    have q19 := (ox).blk q19
    have q20 := (ox).blk q20
    have q21 := (ox).blk q21
    have sC := wC.sl (emptyOld _) (by decide)
    have tC := xC.sl (emptyOld _) (by decide)
    have oC : Old H30 H30 := Old.refl _
    refine KL.op (R.move rfl rfl) rfl rfl rfl ?_
    refine KL.op (R.extract rfl rfl rfl) rfl rfl rfl ?_
    refine KL.op (R.extract rfl rfl rfl) rfl rfl rfl ?_
    refine KL.opM (M.alloc rfl zr24 rfl) rfl rfl rfl ?_
    rintro _ H31 ⟨rfl, n31⟩
    have z31 := n31.2.1
    have o0 := o0.trans n31.1
    have bx := (n31.1).blk bx
    have oS := oS.trans n31.1
    have oA := oA.trans n31.1
    have q10 := (n31.1).blk q10
    have oB := oB.trans n31.1
    have q12 := (n31.1).blk q12
    have q14 := (n31.1).blk q14
    have q16 := (n31.1).blk q16
    have q18 := (n31.1).blk q18
    have q19 := (n31.1).blk q19
    have q20 := (n31.1).blk q20
    have q21 := (n31.1).blk q21
    have oC := oC.trans n31.1
    have b31 := n31.2.2
    have q22 := b31
    refine KL.opS (S.storeAgg rfl sz24 rfl rfl (rfl) (by intro u hu; simp only [List.mem_cons, List.not_mem_nil, or_false] at hu; rcases hu with rfl | rfl <;> first | rfl | exact sC.one | exact tC.one) q22 (by simp)) rfl rfl ?_
    rintro H32 ⟨u32, b32⟩
    have o0 := o0.upd u32 (by omega)
    have zu32 := u32.1
    have bx := ((u32).2 _ (by omega)).trans bx
    have oS := oS.upd u32 (by omega)
    have oA := oA.upd u32 (by omega)
    have q10 := ((u32).2 _ (by omega)).trans q10
    have oB := oB.upd u32 (by omega)
    have q12 := ((u32).2 _ (by omega)).trans q12
    have q14 := ((u32).2 _ (by omega)).trans q14
    have q16 := ((u32).2 _ (by omega)).trans q16
    have q18 := ((u32).2 _ (by omega)).trans q18
    have q19 := ((u32).2 _ (by omega)).trans q19
    have q20 := ((u32).2 _ (by omega)).trans q20
    have q21 := ((u32).2 _ (by omega)).trans q21
    have oC := oC.upd u32 (by omega)
    have q22 := b32
    rw [over_all (by rfl)] at q22
    refine KL.op (R.assign rfl rfl) rfl rfl rfl ?_
    refine KL.nil ?_
    refine KQ.seq ?_
    refine KC.seq ?_
    refine KC.region ?_
    refine KL.op (R.buildL rfl Try.underlying24 zr24 [(0, 1), (1, 1)] (fun w => by kernel_rfl) rfl trivial rfl rfl trivial rfl) rfl rfl rfl ?_
    refine KL.opM (M.alloc rfl zr24 rfl) rfl rfl rfl ?_
    rintro _ H33 ⟨rfl, n33⟩
    have z33 := n33.2.1
    have o0 := o0.trans n33.1
    have bx := (n33.1).blk bx
    have oS := oS.trans n33.1
    have oA := oA.trans n33.1
    have q10 := (n33.1).blk q10
    have oB := oB.trans n33.1
    have q12 := (n33.1).blk q12
    have q14 := (n33.1).blk q14
    have q16 := (n33.1).blk q16
    have q18 := (n33.1).blk q18
    have q19 := (n33.1).blk q19
    have q20 := (n33.1).blk q20
    have q21 := (n33.1).blk q21
    have oC := oC.trans n33.1
    have q22 := (n33.1).blk q22
    have b33 := n33.2.2
    have q24 := b33
    refine KL.opS (S.storeAgg rfl sz24 rfl rfl (rfl) (by intro u hu; simp only [List.mem_cons, List.not_mem_nil, or_false] at hu; rcases hu with rfl | rfl <;> first | rfl | exact trivial) q24 (by simp)) rfl rfl ?_
    rintro H34 ⟨u34, b34⟩
    have o0 := o0.upd u34 (by omega)
    have zu34 := u34.1
    have bx := ((u34).2 _ (by omega)).trans bx
    have oS := oS.upd u34 (by omega)
    have oA := oA.upd u34 (by omega)
    have q10 := ((u34).2 _ (by omega)).trans q10
    have oB := oB.upd u34 (by omega)
    have q12 := ((u34).2 _ (by omega)).trans q12
    have q14 := ((u34).2 _ (by omega)).trans q14
    have q16 := ((u34).2 _ (by omega)).trans q16
    have q18 := ((u34).2 _ (by omega)).trans q18
    have q19 := ((u34).2 _ (by omega)).trans q19
    have q20 := ((u34).2 _ (by omega)).trans q20
    have q21 := ((u34).2 _ (by omega)).trans q21
    have oC := oC.upd u34 (by omega)
    have q22 := ((u34).2 _ (by omega)).trans q22
    have q24 := b34
    rw [over_all (by rfl)] at q24
    refine KL.nil ?_
    refine KQ.seq ?_
    refine KC.seq ?_
    refine KC.region ?_
    refine KL.op (R.move rfl rfl) rfl rfl rfl ?_
    refine KL.op (R.convI rfl Try.underlying33 Try.underlying55 rfl (by dsimp only [InR]; omega)) rfl rfl rfl ?_
    refine KL.op ((by first | exact R.fieldAddr rfl Try.underlying38 rfl rfl sz27 rfl | exact R.fieldAddrP rfl Try.underlying38 rfl rfl sz27 rfl)) rfl rfl rfl ?_
    refine KL.op (R.load rfl Try.underlying27 rfl rfl (by first | exact cell_of bx rfl | exact cell_of q10 rfl | exact cell_of q12 rfl | exact cell_of q14 rfl | exact cell_of q16 rfl | exact cell_of q18 rfl | exact cell_of q19 rfl | exact cell_of q20 rfl | exact cell_of q21 rfl | exact cell_of q22 rfl | exact cell_of q24 rfl | assumption)) rfl rfl rfl ?_
    refine KL.op (R.lenS rfl Try.underlying27 rfl mv.t) rfl rfl rfl ?_
    have hml2 := hsm.t.1
    refine KL.op (R.convI rfl Try.underlying3 Try.underlying55 rfl (by dsimp only [InR]; omega)) rfl rfl rfl ?_
    refine KL.op (R.lss rfl rfl rfl) rfl rfl rfl ?_
    refine KL.op (R.assign rfl rfl) rfl rfl rfl ?_
    refine KL.nil ?_
    refine KQ.seq ?_
    refine KC.seq ?_
    refine KC.seq ?_
    refine KC.region ?_
    refine KL.op (R.move rfl rfl) rfl rfl rfl ?_
    refine KL.nil ?_
    refine KQ.seq ?_
    refine KC.iteL rfl ?_ ?_
    · intro hc133
      try simp only [decide_eq_true_eq, decide_eq_false_iff_not, Bool.not_eq_true', Bool.not_eq_false', Bool.and_eq_true, Bool.or_eq_false_iff] at hc133
      obtain ⟨cs3, hcl3, hcx3, a4, b4, rfl, sD, tD⟩ := mv.t.ftyAt i (by omega)
      have eD : m.types.getD i default = tyAt m.types i := by unfold tyAt; rw [if_pos (by omega)]
      rw [eD] at sD tD
      refine KC.region ?_
      refine KL.op ((by first | exact R.fieldAddr rfl Try.underlying38 rfl rfl sz27 rfl | exact R.fieldAddrP rfl Try.underlying38 rfl rfl sz27 rfl)) rfl rfl rfl ?_
      refine KL.op (R.load rfl Try.underlying27 rfl rfl (by first | exact cell_of bx rfl | exact cell_of q10 rfl | exact cell_of q12 rfl | exact cell_of q14 rfl | exact cell_of q16 rfl | exact cell_of q18 rfl | exact cell_of q19 rfl | exact cell_of q20 rfl | exact cell_of q21 rfl | exact cell_of q22 rfl | exact cell_of q24 rfl | assumption)) rfl rfl rfl ?_
      refine KL.op (R.move rfl rfl) rfl rfl rfl ?_
      refine KL.op (R.index (j := i) rfl Try.underlying27 sz24 rfl rfl mv.t rfl (by omega)) rfl rfl rfl ?_
      refine KL.op (R.loadAgg rfl Try.underlying24 rfl sz24 rfl (o0.cells hcx3) rfl) rfl rfl rfl ?_
      refine KL.opS (S.storeAgg rfl sz24 rfl rfl (rfl) (by intro u hu; simp only [List.mem_cons, List.not_mem_nil, or_false] at hu; rcases hu with rfl | rfl <;> first | rfl | exact sD.one | exact tD.one) q24 (by simp)) rfl rfl ?_
      rintro H35 ⟨u35, b35⟩
      have o0 := o0.upd u35 (by omega)
      have zu35 := u35.1
      have bx := ((u35).2 _ (by omega)).trans bx
      have oS := oS.upd u35 (by omega)
      have oA := oA.upd u35 (by omega)
      have q10 := ((u35).2 _ (by omega)).trans q10
      have oB := oB.upd u35 (by omega)
      have q12 := ((u35).2 _ (by omega)).trans q12
      have q14 := ((u35).2 _ (by omega)).trans q14
      have q16 := ((u35).2 _ (by omega)).trans q16
      have q18 := ((u35).2 _ (by omega)).trans q18
      have q19 := ((u35).2 _ (by omega)).trans q19
      have q20 := ((u35).2 _ (by omega)).trans q20
      have q21 := ((u35).2 _ (by omega)).trans q21
      have oC := oC.upd u35 (by omega)
      have q22 := ((u35).2 _ (by omega)).trans q22
      have q24 := b35
      rw [over_all (by rfl)] at q24
      refine KL.nil ?_
      refine KQ.seq ?_
      refine KC.seq ?_
      refine KC.region ?_
      refine KL.op (R.move rfl rfl) rfl rfl rfl ?_
      refine KL.op (R.move rfl rfl) rfl rfl rfl ?_
      refine KL.op (R.move rfl rfl) rfl rfl rfl ?_
      refine KL.call rfl rfl rfl rfl Try.call19 rfl rfl rfl (SExp_any (sp.old oS) nm kd) ?_
      rintro _ H36 ⟨rfl, ox⟩
      have zc_H36 := (ox).1
      have o0 := o0.trans ox
      have bx := (ox).blk bx
      have oS := oS.trans ox
      have oA := oA.trans ox
      have q10 := (ox).blk q10
      have oB := oB.trans ox
      have q12 := (ox).blk q12
      have q14 := (ox).blk q14
      have q16 := (ox).blk q16
      have q18 := (ox).blk q18
      have q19 := (ox).blk q19
      have q20 := (ox).blk q20
      have q21 := (ox).blk q21
      have oC := oC.trans ox
      have q22 := (ox).blk q22
      have q24 := (ox).blk q24
      refine KL.op (R.move rfl rfl) rfl rfl rfl ?_
      refine KL.op (R.extract rfl rfl rfl) rfl rfl rfl ?_
      refine KL.op (R.extract rfl rfl rfl) rfl rfl rfl ?_
      refine KL.op (R.assign rfl rfl) rfl rfl rfl ?_
      refine KL.op (R.assign rfl rfl) rfl rfl rfl ?_
      refine KL.nil ?_
      refine KQ.seq ?_
      refine KC.seq ?_
      refine KC.region ?_
      refine KL.op (R.loadAgg rfl Try.underlying38 rfl sz38 rfl (by first | exact cells_of bx | exact cells_of q10 | exact cells_of q12 | exact cells_of q14 | exact cells_of q16 | exact cells_of q18 | exact cells_of q19 | exact cells_of q20 | exact cells_of q21 | exact cells_of q22 | exact cells_of q24 | assumption) rfl) rfl rfl rfl ?_
      refine KL.op (R.move rfl rfl) rfl rfl rfl ?_
      refine KL.op (R.move rfl rfl) rfl rfl rfl ?_
      refine KL.call rfl rfl rfl rfl Try.call20 rfl rfl rfl (RExp_any (mv.old o0) nm kd) ?_
      rintro _ H37 ⟨rfl, ox⟩
      have zc_H37 := (ox).1
      have o0 := o0.trans ox
      have bx := (ox).blk bx
      have oS := oS.trans ox
      have oA := oA.trans ox
      have q10 := (ox).blk q10
      have oB := oB.trans ox
      have q12 := (ox).blk q12
      have q14 := (ox).blk q14
      have q16 := (ox).blk q16
      have q18 := (ox).blk q18
      have q19 := (ox).blk q19
      have q20 := (ox).blk q20
      have q21 := (ox).blk q21
      have oC := oC.trans ox
      have q22 := (ox).blk q22
      have q24 := (ox).blk q24
      refine KL.op (R.move rfl rfl) rfl rfl rfl ?_
      refine KL.op (R.extract rfl rfl rfl) rfl rfl rfl ?_
      refine KL.op (R.extract rfl rfl rfl) rfl rfl rfl ?_
      refine KL.op (R.assign rfl rfl) rfl rfl rfl ?_
      refine KL.op (R.assign rfl rfl) rfl rfl rfl ?_
      refine KL.nil ?_
      refine KQ.seq ?_
      refine KC.seq ?_
      refine KC.grow (by kernel_rfl) (by kernel_rfl) ?_
      refine KG.op (fun Hg og => by have bx := og.blk bx; have q10 := og.blk q10; have q12 := og.blk q12; have q14 := og.blk q14; have q16 := og.blk q16; have q18 := og.blk q18; have q19 := og.blk q19; have q20 := og.blk q20; have q21 := og.blk q21; have q22 := og.blk q22; have q24 := og.blk q24; have o0 := o0.trans og; exact R.loadAgg rfl Try.underlying24 rfl sz24 rfl (by first | exact cells_of bx | exact cells_of q10 | exact cells_of q12 | exact cells_of q14 | exact cells_of q16 | exact cells_of q18 | exact cells_of q19 | exact cells_of q20 | exact cells_of q21 | exact cells_of q22 | exact cells_of q24 | assumption) rfl) rfl rfl rfl ?_
      refine KG.op (fun Hg og => by have bx := og.blk bx; have q10 := og.blk q10; have q12 := og.blk q12; have q14 := og.blk q14; have q16 := og.blk q16; have q18 := og.blk q18; have q19 := og.blk q19; have q20 := og.blk q20; have q21 := og.blk q21; have q22 := og.blk q22; have q24 := og.blk q24; have o0 := o0.trans og; exact R.loadAgg rfl Try.underlying24 rfl sz24 rfl (by first | exact cells_of bx | exact cells_of q10 | exact cells_of q12 | exact cells_of q14 | exact cells_of q16 | exact cells_of q18 | exact cells_of q19 | exact cells_of q20 | exact cells_of q21 | exact cells_of q22 | exact cells_of q24 | assumption) rfl) rfl rfl rfl ?_
      refine KG.call rfl rfl rfl rfl Try.call8 rfl rfl rfl (fun Hg og => Ct.mono (R' := fun u H' => u = .bool true ∧ Old Hg H') (RSame_any (sC.old (oC.trans og)) (tC.old (oC.trans og)) (sD.old (o0.trans og)) (tD.old (o0.trans og))) (fun v H' h => ⟨h.1.trans (congrArg Value.bool (decide_eq_true rfl)), h.2⟩)) ?_
      refine KG.op (fun Hg og => by have bx := og.blk bx; have q10 := og.blk q10; have q12 := og.blk q12; have q14 := og.blk q14; have q16 := og.blk q16; have q18 := og.blk q18; have q19 := og.blk q19; have q20 := og.blk q20; have q21 := og.blk q21; have q22 := og.blk q22; have q24 := og.blk q24; have o0 := o0.trans og; exact R.move rfl rfl) rfl rfl rfl ?_
      refine KG.op (fun Hg og => by have bx := og.blk bx; have q10 := og.blk q10; have q12 := og.blk q12; have q14 := og.blk q14; have q16 := og.blk q16; have q18 := og.blk q18; have q19 := og.blk q19; have q20 := og.blk q20; have q21 := og.blk q21; have q22 := og.blk q22; have q24 := og.blk q24; have o0 := o0.trans og; exact R.move rfl rfl) rfl rfl rfl ?_
      refine KG.op (fun Hg og => by have bx := og.blk bx; have q10 := og.blk q10; have q12 := og.blk q12; have q14 := og.blk q14; have q16 := og.blk q16; have q18 := og.blk q18; have q19 := og.blk q19; have q20 := og.blk q20; have q21 := og.blk q21; have q22 := og.blk q22; have q24 := og.blk q24; have o0 := o0.trans og; exact R.move rfl rfl) rfl rfl rfl ?_
      refine KG.op (fun Hg og => by have bx := og.blk bx; have q10 := og.blk q10; have q12 := og.blk q12; have q14 := og.blk q14; have q16 := og.blk q16; have q18 := og.blk q18; have q19 := og.blk q19; have q20 := og.blk q20; have q21 := og.blk q21; have q22 := og.blk q22; have q24 := og.blk q24; have o0 := o0.trans og; exact (R.eqlB rfl Try.underlying4 rfl rfl).val (congrArg Value.bool (beq_iff_eq.2 (decide_eq_decide.2 (show i < m.types.length ↔ _ by omega))))) rfl rfl rfl ?_
      refine KG.op (fun Hg og => by have bx := og.blk bx; have q10 := og.blk q10; have q12 := og.blk q12; have q14 := og.blk q14; have q16 := og.blk q16; have q18 := og.blk q18; have q19 := og.blk q19; have q20 := og.blk q20; have q21 := og.blk q21; have q22 := og.blk q22; have q24 := og.blk q24; have o0 := o0.trans og; exact R.pick rfl rfl rfl) rfl rfl rfl ?_
      refine KG.op (fun Hg og => by have bx := og.blk bx; have q10 := og.blk q10; have q12 := og.blk q12; have q14 := og.blk q14; have q16 := og.blk q16; have q18 := og.blk q18; have q19 := og.blk q19; have q20 := og.blk q20; have q21 := og.blk q21; have q22 := og.blk q22; have q24 := og.blk q24; have o0 := o0.trans og; exact R.move rfl rfl) rfl rfl rfl ?_
      refine KG.op (fun Hg og => by have bx := og.blk bx; have q10 := og.blk q10; have q12 := og.blk q12; have q14 := og.blk q14; have q16 := og.blk q16; have q18 := og.blk q18; have q19 := og.blk q19; have q20 := og.blk q20; have q21 := og.blk q21; have q22 := og.blk q22; have q24 := og.blk q24; have o0 := o0.trans og; exact R.move rfl rfl) rfl rfl rfl ?_
      refine KG.op (fun Hg og => by have bx := og.blk bx; have q10 := og.blk q10; have q12 := og.blk q12; have q14 := og.blk q14; have q16 := og.blk q16; have q18 := og.blk q18; have q19 := og.blk q19; have q20 := og.blk q20; have q21 := og.blk q21; have q22 := og.blk q22; have q24 := og.blk q24; have o0 := o0.trans og; exact R.move rfl rfl) rfl rfl rfl ?_
      refine KG.op (fun Hg og => by have bx := og.blk bx; have q10 := og.blk q10; have q12 := og.blk q12; have q14 := og.blk q14; have q16 := og.blk q16; have q18 := og.blk q18; have q19 := og.blk q19; have q20 := og.blk q20; have q21 := og.blk q21; have q22 := og.blk q22; have q24 := og.blk q24; have o0 := o0.trans og; exact (R.eql rfl rfl rfl).val (congrArg Value.bool (decide_eq_true (by rfl)))) rfl rfl rfl ?_
      refine KG.op (fun Hg og => by have bx := og.blk bx; have q10 := og.blk q10; have q12 := og.blk q12; have q14 := og.blk q14; have q16 := og.blk q16; have q18 := og.blk q18; have q19 := og.blk q19; have q20 := og.blk q20; have q21 := og.blk q21; have q22 := og.blk q22; have q24 := og.blk q24; have o0 := o0.trans og; exact R.pick rfl rfl rfl) rfl rfl rfl ?_
      refine KG.op (fun Hg og => by have bx := og.blk bx; have q10 := og.blk q10; have q12 := og.blk q12; have q14 := og.blk q14; have q16 := og.blk q16; have q18 := og.blk q18; have q19 := og.blk q19; have q20 := og.blk q20; have q21 := og.blk q21; have q22 := og.blk q22; have q24 := og.blk q24; have o0 := o0.trans og; exact R.move rfl rfl) rfl rfl rfl ?_
      refine KG.op (fun Hg og => by have bx := og.blk bx; have q10 := og.blk q10; have q12 := og.blk q12; have q14 := og.blk q14; have q16 := og.blk q16; have q18 := og.blk q18; have q19 := og.blk q19; have q20 := og.blk q20; have q21 := og.blk q21; have q22 := og.blk q22; have q24 := og.blk q24; have o0 := o0.trans og; exact R.move rfl rfl) rfl rfl rfl ?_
      refine KG.op (fun Hg og => by have bx := og.blk bx; have q10 := og.blk q10; have q12 := og.blk q12; have q14 := og.blk q14; have q16 := og.blk q16; have q18 := og.blk q18; have q19 := og.blk q19; have q20 := og.blk q20; have q21 := og.blk q21; have q22 := og.blk q22; have q24 := og.blk q24; have o0 := o0.trans og; exact R.move rfl rfl) rfl rfl rfl ?_
      refine KG.op (fun Hg og => by have bx := og.blk bx; have q10 := og.blk q10; have q12 := og.blk q12; have q14 := og.blk q14; have q16 := og.blk q16; have q18 := og.blk q18; have q19 := og.blk q19; have q20 := og.blk q20; have q21 := og.blk q21; have q22 := og.blk q22; have q24 := og.blk q24; have o0 := o0.trans og; exact (R.eqlB rfl Try.underlying4 rfl rfl).val (congrArg Value.bool (show ((findE nm kd m.exports).isSome == (findE nm kd m.exports).isSome) = true by simp))) rfl rfl rfl ?_
      refine KG.op (fun Hg og => by have bx := og.blk bx; have q10 := og.blk q10; have q12 := og.blk q12; have q14 := og.blk q14; have q16 := og.blk q16; have q18 := og.blk q18; have q19 := og.blk q19; have q20 := og.blk q20; have q21 := og.blk q21; have q22 := og.blk q22; have q24 := og.blk q24; have o0 := o0.trans og; exact R.pick rfl rfl rfl) rfl rfl rfl ?_
      refine KG.op (fun Hg og => by have bx := og.blk bx; have q10 := og.blk q10; have q12 := og.blk q12; have q14 := og.blk q14; have q16 := og.blk q16; have q18 := og.blk q18; have q19 := og.blk q19; have q20 := og.blk q20; have q21 := og.blk q21; have q22 := og.blk q22; have q24 := og.blk q24; have o0 := o0.trans og; exact R.move rfl rfl) rfl rfl rfl ?_
      refine KG.op (fun Hg og => by have bx := og.blk bx; have q10 := og.blk q10; have q12 := og.blk q12; have q14 := og.blk q14; have q16 := og.blk q16; have q18 := og.blk q18; have q19 := og.blk q19; have q20 := og.blk q20; have q21 := og.blk q21; have q22 := og.blk q22; have q24 := og.blk q24; have o0 := o0.trans og; exact R.move rfl rfl) rfl rfl rfl ?_
      refine KG.op (fun Hg og => by have bx := og.blk bx; have q10 := og.blk q10; have q12 := og.blk q12; have q14 := og.blk q14; have q16 := og.blk q16; have q18 := og.blk q18; have q19 := og.blk q19; have q20 := og.blk q20; have q21 := og.blk q21; have q22 := og.blk q22; have q24 := og.blk q24; have o0 := o0.trans og; exact R.move rfl rfl) rfl rfl rfl ?_
      refine KG.call rfl rfl rfl rfl Try.call21 rfl rfl rfl (fun Hg og => (SCount_any (sp.old (oS.trans og)) kd).mono (fun _ _ h => ⟨h.1, h.2 ▸ Old.refl _⟩)) ?_
      refine KG.op (fun Hg og => by have bx := og.blk bx; have q10 := og.blk q10; have q12 := og.blk q12; have q14 := og.blk q14; have q16 := og.blk q16; have q18 := og.blk q18; have q19 := og.blk q19; have q20 := og.blk q20; have q21 := og.blk q21; have q22 := og.blk q22; have q24 := og.blk q24; have o0 := o0.trans og; exact R.loadAgg rfl Try.underlying38 rfl sz38 rfl (by first | exact cells_of bx | exact cells_of q10 | exact cells_of q12 | exact cells_of q14 | exact cells_of q16 | exact cells_of q18 | exact cells_of q19 | exact cells_of q20 | exact cells_of q21 | exact cells_of q22 | exact cells_of q24 | assumption) rfl) rfl rfl rfl ?_
      refine KG.op (fun Hg og => by have bx := og.blk bx; have q10 := og.blk q10; have q12 := og.blk q12; have q14 := og.blk q14; have q16 := og.blk q16; have q18 := og.blk q18; have q19 := og.blk q19; have q20 := og.blk q20; have q21 := og.blk q21; have q22 := og.blk q22; have q24 := og.blk q24; have o0 := o0.trans og; exact R.move rfl rfl) rfl rfl rfl ?_
      refine KG.call rfl rfl rfl rfl Try.call22 rfl rfl rfl (fun Hg og => RCount_any (mv.old (o0.trans og)) kd (by have := cnt_small hsm kd; omega)) ?_
      refine KG.op (fun Hg og => by have bx := og.blk bx; have q10 := og.blk q10; have q12 := og.blk q12; have q14 := og.blk q14; have q16 := og.blk q16; have q18 := og.blk q18; have q19 := og.blk q19; have q20 := og.blk q20; have q21 := og.blk q21; have q22 := og.blk q22; have q24 := og.blk q24; have o0 := o0.trans og; exact (R.eql rfl rfl rfl).val (congrArg Value.bool (decide_eq_true (by rw [cntK_of])))) rfl rfl rfl ?_
      refine KG.op (fun Hg og => by have bx := og.blk bx; have q10 := og.blk q10; have q12 := og.blk q12; have q14 := og.blk q14; have q16 := og.blk q16; have q18 := og.blk q18; have q19 := og.blk q19; have q20 := og.blk q20; have q21 := og.blk q21; have q22 := og.blk q22; have q24 := og.blk q24; have o0 := o0.trans og; exact R.pick rfl rfl rfl) rfl rfl rfl ?_
      refine KG.op (fun Hg og => by have bx := og.blk bx; have q10 := og.blk q10; have q12 := og.blk q12; have q14 := og.blk q14; have q16 := og.blk q16; have q18 := og.blk q18; have q19 := og.blk q19; have q20 := og.blk q20; have q21 := og.blk q21; have q22 := og.blk q22; have q24 := og.blk q24; have o0 := o0.trans og; exact R.move rfl rfl) rfl rfl rfl ?_
      refine KG.op (fun Hg og => by have bx := og.blk bx; have q10 := og.blk q10; have q12 := og.blk q12; have q14 := og.blk q14; have q16 := og.blk q16; have q18 := og.blk q18; have q19 := og.blk q19; have q20 := og.blk q20; have q21 := og.blk q21; have q22 := og.blk q22; have q24 := og.blk q24; have o0 := o0.trans og; exact R.move rfl rfl) rfl rfl rfl ?_
      refine KG.op (fun Hg og => by have bx := og.blk bx; have q10 := og.blk q10; have q12 := og.blk q12; have q14 := og.blk q14; have q16 := og.blk q16; have q18 := og.blk q18; have q19 := og.blk q19; have q20 := og.blk q20; have q21 := og.blk q21; have q22 := og.blk q22; have q24 := og.blk q24; have o0 := o0.trans og; exact R.move rfl rfl) rfl rfl rfl ?_
      refine KG.call rfl rfl rfl rfl Try.call23 rfl rfl rfl (fun Hg og => (SImp_any (sp.old (oS.trans og)) kd).mono (fun _ _ h => ⟨h.1, h.2 ▸ Old.refl _⟩)) ?_
      refine KG.op (fun Hg og => by have bx := og.blk bx; have q10 := og.blk q10; have q12 := og.blk q12; have q14 := og.blk q14; have q16 := og.blk q16; have q18 := og.blk q18; have q19 := og.blk q19; have q20 := og.blk q20; have q21 := og.blk q21; have q22 := og.blk q22; have q24 := og.blk q24; have o0 := o0.trans og; exact R.loadAgg rfl Try.underlying38 rfl sz38 rfl (by first | exact cells_of bx | exact cells_of q10 | exact cells_of q12 | exact cells_of q14 | exact cells_of q16 | exact cells_of q18 | exact cells_of q19 | exact cells_of q20 | exact cells_of q21 | exact cells_of q22 | exact cells_of q24 | assumption) rfl) rfl rfl rfl ?_
      refine KG.op (fun Hg og => by have bx := og.blk bx; have q10 := og.blk q10; have q12 := og.blk q12; have q14 := og.blk q14; have q16 := og.blk q16; have q18 := og.blk q18; have q19 := og.blk q19; have q20 := og.blk q20; have q21 := og.blk q21; have q22 := og.blk q22; have q24 := og.blk q24; have o0 := o0.trans og; exact R.move rfl rfl) rfl rfl rfl ?_
      refine KG.call rfl rfl rfl rfl Try.call24 rfl rfl rfl (fun Hg og => RImp_any (mv.old (o0.trans og)) kd) ?_
      refine KG.op (fun Hg og => by have bx := og.blk bx; have q10 := og.blk q10; have q12 := og.blk q12; have q14 := og.blk q14; have q16 := og.blk q16; have q18 := og.blk q18; have q19 := og.blk q19; have q20 := og.blk q20; have q21 := og.blk q21; have q22 := og.blk q22; have q24 := og.blk q24; have o0 := o0.trans og; exact (R.eql rfl rfl rfl).val (congrArg Value.bool (decide_eq_true (by rw [impK_of])))) rfl rfl rfl ?_
      refine KG.op (fun Hg og => by have bx := og.blk bx; have q10 := og.blk q10; have q12 := og.blk q12; have q14 := og.blk q14; have q16 := og.blk q16; have q18 := og.blk q18; have q19 := og.blk q19; have q20 := og.blk q20; have q21 := og.blk q21; have q22 := og.blk q22; have q24 := og.blk q24; have o0 := o0.trans og; exact R.pick rfl rfl rfl) rfl rfl rfl ?_
      refine KG.op (fun Hg og => by have bx := og.blk bx; have q10 := og.blk q10; have q12 := og.blk q12; have q14 := og.blk q14; have q16 := og.blk q16; have q18 := og.blk q18; have q19 := og.blk q19; have q20 := og.blk q20; have q21 := og.blk q21; have q22 := og.blk q22; have q24 := og.blk q24; have o0 := o0.trans og; exact R.assign rfl rfl) rfl rfl rfl ?_
      refine KG.nil ?_
      intro H38 ogH38
      have o0 := o0.trans ogH38
      have bx := (ogH38).blk bx
      have oS := oS.trans ogH38
      have oA := oA.trans ogH38
      have q10 := (ogH38).blk q10
      have oB := oB.trans ogH38
      have q12 := (ogH38).blk q12
      have q14 := (ogH38).blk q14
      have q16 := (ogH38).blk q16
      have q18 := (ogH38).blk q18
      have q19 := (ogH38).blk q19
      have q20 := (ogH38).blk q20
      have q21 := (ogH38).blk q21
      have oC := oC.trans ogH38
      have q22 := (ogH38).blk q22
      have q24 := (ogH38).blk q24
      have zH38 := ogH38.1
      refine KQ.seq ?_
      refine KC.ret ?_
      refine KQ.ofRet ?_
      refine KQ.fin1 Try.results4 rfl ?_
      exact ⟨rfl, o0⟩
    · intro hc133
      try simp only [decide_eq_true_eq, decide_eq_false_iff_not, Bool.not_eq_true', Bool.not_eq_false', Bool.and_eq_true, Bool.or_eq_false_iff] at hc133
      have sD : Sl 1 (EInt .u8) H (.slice none 0 0) (tyAt m.types i).1 := by unfold tyAt; rw [if_neg (by omega)]; exact Sl.nil _ _ _
      have tD : Sl 1 (EInt .u8) H (.slice none 0 0) (tyAt m.types i).2 := by unfold tyAt; rw [if_neg (by omega)]; exact Sl.nil _ _ _
      refine KC.skip ?_
      refine KQ.seq ?_
      refine KC.seq ?_
      refine KC.region ?_
      refine KL.op (R.move rfl rfl) rfl rfl rfl ?_
      refine KL.op (R.move rfl rfl) rfl rfl rfl ?_
      refine KL.op (R.move rfl rfl) rfl rfl rfl ?_
      refine KL.call rfl rfl rfl rfl Try.call19 rfl rfl rfl (SExp_any (sp.old oS) nm kd) ?_
      rintro _ H39 ⟨rfl, ox⟩
      have zc_H39 := (ox).1
      have o0 := o0.trans ox
      have bx := (ox).blk bx
      have oS := oS.trans ox
      have oA := oA.trans ox
      have q10 := (ox).blk q10
      have oB := oB.trans ox
      have q12 := (ox).blk q12
      have q14 := (ox).blk q14
      have q16 := (ox).blk q16
      have q18 := (ox).blk q18
      have q19 := (ox).blk q19
      have q20 := (ox).blk q20
      have q21 := (ox).blk q21
      have oC := oC.trans ox
      have q22 := (ox).blk q22
      have q24 := (ox).blk q24
      refine KL.op (R.move rfl rfl) rfl rfl rfl ?_
      refine KL.op (R.extract rfl rfl rfl) rfl rfl rfl ?_
      refine KL.op (R.extract rfl rfl rfl) rfl rfl rfl ?_
      refine KL.op (R.assign rfl rfl) rfl rfl rfl ?_
      refine KL.op (R.assign rfl rfl) rfl rfl rfl ?_
      refine KL.nil ?_
      refine KQ.seq ?_
      refine KC.seq ?_
      refine KC.region ?_
      refine KL.op (R.loadAgg rfl Try.underlying38 rfl sz38 rfl (by first | exact cells_of bx | exact cells_of q10 | exact cells_of q12 | exact cells_of q14 | exact cells_of q16 | exact cells_of q18 | exact cells_of q19 | exact cells_of q20 | exact cells_of q21 | exact cells_of q22 | exact cells_of q24 | assumption) rfl) rfl rfl rfl ?_
      refine KL.op (R.move rfl rfl) rfl rfl rfl ?_
      refine KL.op (R.move rfl rfl) rfl rfl rfl ?_
      refine KL.call rfl rfl rfl rfl Try.call20 rfl rfl rfl (RExp_any (mv.old o0) nm kd) ?_
      rintro _ H40 ⟨rfl, ox⟩
      have zc_H40 := (ox).1
      have o0 := o0.trans ox
      have bx := (ox).blk bx
      have oS := oS.trans ox
      have oA := oA.trans ox
      have q10 := (ox).blk q10
      have oB := oB.trans ox
      have q12 := (ox).blk q12
      have q14 := (ox).blk q14
      have q16 := (ox).blk q16
      have q18 := (ox).blk q18
      have q19 := (ox).blk q19
      have q20 := (ox).blk q20
      have q21 := (ox).blk q21
      have oC := oC.trans ox
      have q22 := (ox).blk q22
      have q24 := (ox).blk q24
      refine KL.op (R.move rfl rfl) rfl rfl rfl ?_
      refine KL.op (R.extract rfl rfl rfl) rfl rfl rfl ?_
      refine KL.op (R.extract rfl rfl rfl) rfl rfl rfl ?_
      refine KL.op (R.assign rfl rfl) rfl rfl rfl ?_
      refine KL.op (R.assign rfl rfl) rfl rfl rfl ?_
      refine KL.nil ?_
      refine KQ.seq ?_
      refine KC.seq ?_
      refine KC.grow (by kernel_rfl) (by kernel_rfl) ?_
      refine KG.op (fun Hg og => by have bx := og.blk bx; have q10 := og.blk q10; have q12 := og.blk q12; have q14 := og.blk q14; have q16 := og.blk q16; have q18 := og.blk q18; have q19 := og.blk q19; have q20 := og.blk q20; have q21 := og.blk q21; have q22 := og.blk q22; have q24 := og.blk q24; have o0 := o0.trans og; exact R.loadAgg rfl Try.underlying24 rfl sz24 rfl (by first | exact cells_of bx | exact cells_of q10 | exact cells_of q12 | exact cells_of q14 | exact cells_of q16 | exact cells_of q18 | exact cells_of q19 | exact cells_of q20 | exact cells_of q21 | exact cells_of q22 | exact cells_of q24 | assumption) rfl) rfl rfl rfl ?_
      refine KG.op (fun Hg og => by have bx := og.blk bx; have q10 := og.blk q10; have q12 := og.blk q12; have q14 := og.blk q14; have q16 := og.blk q16; have q18 := og.blk q18; have q19 := og.blk q19; have q20 := og.blk q20; have q21 := og.blk q21; have q22 := og.blk q22; have q24 := og.blk q24; have o0 := o0.trans og; exact R.loadAgg rfl Try.underlying24 rfl sz24 rfl (by first | exact cells_of bx | exact cells_of q10 | exact cells_of q12 | exact cells_of q14 | exact cells_of q16 | exact cells_of q18 | exact cells_of q19 | exact cells_of q20 | exact cells_of q21 | exact cells_of q22 | exact cells_of q24 | assumption) rfl) rfl rfl rfl ?_
      refine KG.call rfl rfl rfl rfl Try.call8 rfl rfl rfl (fun Hg og => Ct.mono (R' := fun u H' => u = .bool true ∧ Old Hg H') (RSame_any (sC.old (oC.trans og)) (tC.old (oC.trans og)) (sD.old (o0.trans og)) (tD.old (o0.trans og))) (fun v H' h => ⟨h.1.trans (congrArg Value.bool (decide_eq_true rfl)), h.2⟩)) ?_
      refine KG.op (fun Hg og => by have bx := og.blk bx; have q10 := og.blk q10; have q12 := og.blk q12; have q14 := og.blk q14; have q16 := og.blk q16; have q18 := og.blk q18; have q19 := og.blk q19; have q20 := og.blk q20; have q21 := og.blk q21; have q22 := og.blk q22; have q24 := og.blk q24; have o0 := o0.trans og; exact R.move rfl rfl) rfl rfl rfl ?_
      refine KG.op (fun Hg og => by have bx := og.blk bx; have q10 := og.blk q10; have q12 := og.blk q12; have q14 := og.blk q14; have q16 := og.blk q16; have q18 := og.blk q18; have q19 := og.blk q19; have q20 := og.blk q20; have q21 := og.blk q21; have q22 := og.blk q22; have q24 := og.blk q24; have o0 := o0.trans og; exact R.move rfl rfl) rfl rfl rfl ?_
      refine KG.op (fun Hg og => by have bx := og.blk bx; have q10 := og.blk q10; have q12 := og.blk q12; have q14 := og.blk q14; have q16 := og.blk q16; have q18 := og.blk q18; have q19 := og.blk q19; have q20 := og.blk q20; have q21 := og.blk q21; have q22 := og.blk q22; have q24 := og.blk q24; have o0 := o0.trans og; exact R.move rfl rfl) rfl rfl rfl ?_
      refine KG.op (fun Hg og => by have bx := og.blk bx; have q10 := og.blk q10; have q12 := og.blk q12; have q14 := og.blk q14; have q16 := og.blk q16; have q18 := og.blk q18; have q19 := og.blk q19; have q20 := og.blk q20; have q21 := og.blk q21; have q22 := og.blk q22; have q24 := og.blk q24; have o0 := o0.trans og; exact (R.eqlB rfl Try.underlying4 rfl rfl).val (congrArg Value.bool (beq_iff_eq.2 (decide_eq_decide.2 (show i < m.types.length ↔ _ by omega))))) rfl rfl rfl ?_
      refine KG.op (fun Hg og => by have bx := og.blk bx; have q10 := og.blk q10; have q12 := og.blk q12; have q14 := og.blk q14; have q16 := og.blk q16; have q18 := og.blk q18; have q19 := og.blk q19; have q20 := og.blk q20; have q21 := og.blk q21; have q22 := og.blk q22; have q24 := og.blk q24; have o0 := o0.trans og; exact R.pick rfl rfl rfl) rfl rfl rfl ?_
      refine KG.op (fun Hg og => by have bx := og.blk bx; have q10 := og.blk q10; have q12 := og.blk q12; have q14 := og.blk q14; have q16 := og.blk q16; have q18 := og.blk q18; have q19 := og.blk q19; have q20 := og.blk q20; have q21 := og.blk q21; have q22 := og.blk q22; have q24 := og.blk q24; have o0 := o0.trans og; exact R.move rfl rfl) rfl rfl rfl ?_
      refine KG.op (fun Hg og => by have bx := og.blk bx; have q10 := og.blk q10; have q12 := og.blk q12; have q14 := og.blk q14; have q16 := og.blk q16; have q18 := og.blk q18; have q19 := og.blk q19; have q20 := og.blk q20; have q21 := og.blk q21; have q22 := og.blk q22; have q24 := og.blk q24; have o0 := o0.trans og; exact R.move rfl rfl) rfl rfl rfl ?_
      refine KG.op (fun Hg og => by have bx := og.blk bx; have q10 := og.blk q10; have q12 := og.blk q12; have q14 := og.blk q14; have q16 := og.blk q16; have q18 := og.blk q18; have q19 := og.blk q19; have q20 := og.blk q20; have q21 := og.blk q21; have q22 := og.blk q22; have q24 := og.blk q24; have o0 := o0.trans og; exact R.move rfl rfl) rfl rfl rfl ?_
      refine KG.op (fun Hg og => by have bx := og.blk bx; have q10 := og.blk q10; have q12 := og.blk q12; have q14 := og.blk q14; have q16 := og.blk q16; have q18 := og.blk q18; have q19 := og.blk q19; have q20 := og.blk q20; have q21 := og.blk q21; have q22 := og.blk q22; have q24 := og.blk q24; have o0 := o0.trans og; exact (R.eql rfl rfl rfl).val (congrArg Value.bool (decide_eq_true (by rfl)))) rfl rfl rfl ?_
      refine KG.op (fun Hg og => by have bx := og.blk bx; have q10 := og.blk q10; have q12 := og.blk q12; have q14 := og.blk q14; have q16 := og.blk q16; have q18 := og.blk q18; have q19 := og.blk q19; have q20 := og.blk q20; have q21 := og.blk q21; have q22 := og.blk q22; have q24 := og.blk q24; have o0 := o0.trans og; exact R.pick rfl rfl rfl) rfl rfl rfl ?_
      refine KG.op (fun Hg og => by have bx := og.blk bx; have q10 := og.blk q10; have q12 := og.blk q12; have q14 := og.blk q14; have q16 := og.blk q16; have q18 := og.blk q18; have q19 := og.blk q19; have q20 := og.blk q20; have q21 := og.blk q21; have q22 := og.blk q22; have q24 := og.blk q24; have o0 := o0.trans og; exact R.move rfl rfl) rfl rfl rfl ?_
      refine KG.op (fun Hg og => by have bx := og.blk bx; have q10 := og.blk q10; have q12 := og.blk q12; have q14 := og.blk q14; have q16 := og.blk q16; have q18 := og.blk q18; have q19 := og.blk q19; have q20 := og.blk q20; have q21 := og.blk q21; have q22 := og.blk q22; have q24 := og.blk q24; have o0 := o0.trans og; exact R.move rfl rfl) rfl rfl rfl ?_
      refine KG.op (fun Hg og => by have bx := og.blk bx; have q10 := og.blk q10; have q12 := og.blk q12; have q14 := og.blk q14; have q16 := og.blk q16; have q18 := og.blk q18; have q19 := og.blk q19; have q20 := og.blk q20; have q21 := og.blk q21; have q22 := og.blk q22; have q24 := og.blk q24; have o0 := o0.trans og; exact R.move rfl rfl) rfl rfl rfl ?_
      refine KG.op (fun Hg og => by have bx := og.blk bx; have q10 := og.blk q10; have q12 := og.blk q12; have q14 := og.blk q14; have q16 := og.blk q16; have q18 := og.blk q18; have q19 := og.blk q19; have q20 := og.blk q20; have q21 := og.blk q21; have q22 := og.blk q22; have q24 := og.blk q24; have o0 := o0.trans og; exact (R.eqlB rfl Try.underlying4 rfl rfl).val (congrArg Value.bool (show ((findE nm kd m.exports).isSome == (findE nm kd m.exports).isSome) = true by simp))) rfl rfl rfl ?_
      refine KG.op (fun Hg og => by have bx := og.blk bx; have q10 := og.blk q10; have q12 := og.blk q12; have q14 := og.blk q14; have q16 := og.blk q16; have q18 := og.blk q18; have q19 := og.blk q19; have q20 := og.blk q20; have q21 := og.blk q21; have q22 := og.blk q22; have q24 := og.blk q24; have o0 := o0.trans og; exact R.pick rfl rfl rfl) rfl rfl rfl ?_
      refine KG.op (fun Hg og => by have bx := og.blk bx; have q10 := og.blk q10; have q12 := og.blk q12; have q14 := og.blk q14; have q16 := og.blk q16; have q18 := og.blk q18; have q19 := og.blk q19; have q20 := og.blk q20; have q21 := og.blk q21; have q22 := og.blk q22; have q24 := og.blk q24; have o0 := o0.trans og; exact R.move rfl rfl) rfl rfl rfl ?_
      refine KG.op (fun Hg og => by have bx := og.blk bx; have q10 := og.blk q10; have q12 := og.blk q12; have q14 := og.blk q14; have q16 := og.blk q16; have q18 := og.blk q18; have q19 := og.blk q19; have q20 := og.blk q20; have q21 := og.blk q21; have q22 := og.blk q22; have q24 := og.blk q24; have o0 := o0.trans og; exact R.move rfl rfl) rfl rfl rfl ?_
      refine KG.op (fun Hg og => by have bx := og.blk bx; have q10 := og.blk q10; have q12 := og.blk q12; have q14 := og.blk q14; have q16 := og.blk q16; have q18 := og.blk q18; have q19 := og.blk q19; have q20 := og.blk q20; have q21 := og.blk q21; have q22 := og.blk q22; have q24 := og.blk q24; have o0 := o0.trans og; exact R.move rfl rfl) rfl rfl rfl ?_
      refine KG.call rfl rfl rfl rfl Try.call21 rfl rfl rfl (fun Hg og => (SCount_any (sp.old (oS.trans og)) kd).mono (fun _ _ h => ⟨h.1, h.2 ▸ Old.refl _⟩)) ?_
      refine KG.op (fun Hg og => by have bx := og.blk bx; have q10 := og.blk q10; have q12 := og.blk q12; have q14 := og.blk q14; have q16 := og.blk q16; have q18 := og.blk q18; have q19 := og.blk q19; have q20 := og.blk q20; have q21 := og.blk q21; have q22 := og.blk q22; have q24 := og.blk q24; have o0 := o0.trans og; exact R.loadAgg rfl Try.underlying38 rfl sz38 rfl (by first | exact cells_of bx | exact cells_of q10 | exact cells_of q12 | exact cells_of q14 | exact cells_of q16 | exact cells_of q18 | exact cells_of q19 | exact cells_of q20 | exact cells_of q21 | exact cells_of q22 | exact cells_of q24 | assumption) rfl) rfl rfl rfl ?_
      refine KG.op (fun Hg og => by have bx := og.blk bx; have q10 := og.blk q10; have q12 := og.blk q12; have q14 := og.blk q14; have q16 := og.blk q16; have q18 := og.blk q18; have q19 := og.blk q19; have q20 := og.blk q20; have q21 := og.blk q21; have q22 := og.blk q22; have q24 := og.blk q24; have o0 := o0.trans og; exact R.move rfl rfl) rfl rfl rfl ?_
      refine KG.call rfl rfl rfl rfl Try.call22 rfl rfl rfl (fun Hg og => RCount_any (mv.old (o0.trans og)) kd (by have := cnt_small hsm kd; omega)) ?_
      refine KG.op (fun Hg og => by have bx := og.blk bx; have q10 := og.blk q10; have q12 := og.blk q12; have q14 := og.blk q14; have q16 := og.blk q16; have q18 := og.blk q18; have q19 := og.blk q19; have q20 := og.blk q20; have q21 := og.blk q21; have q22 := og.blk q22; have q24 := og.blk q24; have o0 := o0.trans og; exact (R.eql rfl rfl rfl).val (congrArg Value.bool (decide_eq_true (by rw [cntK_of])))) rfl rfl rfl ?_
      refine KG.op (fun Hg og => by have bx := og.blk bx; have q10 := og.blk q10; have q12 := og.blk q12; have q14 := og.blk q14; have q16 := og.blk q16; have q18 := og.blk q18; have q19 := og.blk q19; have q20 := og.blk q20; have q21 := og.blk q21; have q22 := og.blk q22; have q24 := og.blk q24; have o0 := o0.trans og; exact R.pick rfl rfl rfl) rfl rfl rfl ?_
      refine KG.op (fun Hg og => by have bx := og.blk bx; have q10 := og.blk q10; have q12 := og.blk q12; have q14 := og.blk q14; have q16 := og.blk q16; have q18 := og.blk q18; have q19 := og.blk q19; have q20 := og.blk q20; have q21 := og.blk q21; have q22 := og.blk q22; have q24 := og.blk q24; have o0 := o0.trans og; exact R.move rfl rfl) rfl rfl rfl ?_
      refine KG.op (fun Hg og => by have bx := og.blk bx; have q10 := og.blk q10; have q12 := og.blk q12; have q14 := og.blk q14; have q16 := og.blk q16; have q18 := og.blk q18; have q19 := og.blk q19; have q20 := og.blk q20; have q21 := og.blk q21; have q22 := og.blk q22; have q24 := og.blk q24; have o0 := o0.trans og; exact R.move rfl rfl) rfl rfl rfl ?_
      refine KG.op (fun Hg og => by have bx := og.blk bx; have q10 := og.blk q10; have q12 := og.blk q12; have q14 := og.blk q14; have q16 := og.blk q16; have q18 := og.blk q18; have q19 := og.blk q19; have q20 := og.blk q20; have q21 := og.blk q21; have q22 := og.blk q22; have q24 := og.blk q24; have o0 := o0.trans og; exact R.move rfl rfl) rfl rfl rfl ?_
      refine KG.call rfl rfl rfl rfl Try.call23 rfl rfl rfl (fun Hg og => (SImp_any (sp.old (oS.trans og)) kd).mono (fun _ _ h => ⟨h.1, h.2 ▸ Old.refl _⟩)) ?_
      refine KG.op (fun Hg og => by have bx := og.blk bx; have q10 := og.blk q10; have q12 := og.blk q12; have q14 := og.blk q14; have q16 := og.blk q16; have q18 := og.blk q18; have q19 := og.blk q19; have q20 := og.blk q20; have q21 := og.blk q21; have q22 := og.blk q22; have q24 := og.blk q24; have o0 := o0.trans og; exact R.loadAgg rfl Try.underlying38 rfl sz38 rfl (by first | exact cells_of bx | exact cells_of q10 | exact cells_of q12 | exact cells_of q14 | exact cells_of q16 | exact cells_of q18 | exact cells_of q19 | exact cells_of q20 | exact cells_of q21 | exact cells_of q22 | exact cells_of q24 | assumption) rfl) rfl rfl rfl ?_
      refine KG.op (fun Hg og => by have bx := og.blk bx; have q10 := og.blk q10; have q12 := og.blk q12; have q14 := og.blk q14; have q16 := og.blk q16; have q18 := og.blk q18; have q19 := og.blk q19; have q20 := og.blk q20; have q21 := og.blk q21; have q22 := og.blk q22; have q24 := og.blk q24; have o0 := o0.trans og; exact R.move rfl rfl) rfl rfl rfl ?_
      refine KG.call rfl rfl rfl rfl Try.call24 rfl rfl rfl (fun Hg og => RImp_any (mv.old (o0.trans og)) kd) ?_
      refine KG.op (fun Hg og => by have bx := og.blk bx; have q10 := og.blk q10; have q12 := og.blk q12; have q14 := og.blk q14; have q16 := og.blk q16; have q18 := og.blk q18; have q19 := og.blk q19; have q20 := og.blk q20; have q21 := og.blk q21; have q22 := og.blk q22; have q24 := og.blk q24; have o0 := o0.trans og; exact (R.eql rfl rfl rfl).val (congrArg Value.bool (decide_eq_true (by rw [impK_of])))) rfl rfl rfl ?_
      refine KG.op (fun Hg og => by have bx := og.blk bx; have q10 := og.blk q10; have q12 := og.blk q12; have q14 := og.blk q14; have q16 := og.blk q16; have q18 := og.blk q18; have q19 := og.blk q19; have q20 := og.blk q20; have q21 := og.blk q21; have q22 := og.blk q22; have q24 := og.blk q24; have o0 := o0.trans og; exact R.pick rfl rfl rfl) rfl rfl rfl ?_
      refine KG.op (fun Hg og => by have bx := og.blk bx; have q10 := og.blk q10; have q12 := og.blk q12; have q14 := og.blk q14; have q16 := og.blk q16; have q18 := og.blk q18; have q19 := og.blk q19; have q20 := og.blk q20; have q21 := og.blk q21; have q22 := og.blk q22; have q24 := og.blk q24; have o0 := o0.trans og; exact R.assign rfl rfl) rfl rfl rfl ?_
      refine KG.nil ?_
      intro H41 ogH41
      have o0 := o0.trans ogH41
      have bx := (ogH41).blk bx
      have oS := oS.trans ogH41
      have oA := oA.trans ogH41
      have q10 := (ogH41).blk q10
      have oB := oB.trans ogH41
      have q12 := (ogH41).blk q12
      have q14 := (ogH41).blk q14
      have q16 := (ogH41).blk q16
      have q18 := (ogH41).blk q18
      have q19 := (ogH41).blk q19
      have q20 := (ogH41).blk q20
      have q21 := (ogH41).blk q21
      have oC := oC.trans ogH41
      have q22 := (ogH41).blk q22
      have q24 := (ogH41).blk q24
      have zH41 := ogH41.1
      refine KQ.seq ?_
      refine KC.ret ?_
      refine KQ.ofRet ?_
      refine KQ.fin1 Try.results4 rfl ?_
      exact ⟨rfl, o0⟩

end Go.Proofs.Ytbmikddaiedhiaa
