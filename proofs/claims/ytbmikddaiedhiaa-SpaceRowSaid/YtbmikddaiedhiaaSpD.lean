/- Imports of a kind; what stands at a place. No condition but sizes. -/
import Derived.Test.YtbmikddaiedhiaaSpC
namespace Go.Proofs.Ytbmikddaiedhiaa
open Go Go.RowKit
set_option linter.unusedVariables false
set_option linter.unusedSimpArgs false
set_option linter.unnecessarySimpa false

/-- a function's type, if it has one -/
abbrev Ty := FTy × Bool
def ETy : El Ty := fun H cs x => ∃ v w, cs = [v, w, .bool x.2] ∧ Sl 1 (EInt .u8) H v x.1.1 ∧ Sl 1 (EInt .u8) H w x.1.2
instance keepsTy : Keeps ETy := ⟨fun ho h => by
  obtain ⟨v, w, hc, h1, h2⟩ := h
  exact ⟨v, w, hc, h1.old ho, h2.old ho⟩⟩
instance oneTy : One ETy := ⟨fun h u hu => by
  obtain ⟨v, w, rfl, h1, h2⟩ := h
  simp only [List.mem_cons, List.not_mem_nil, or_false] at hu
  rcases hu with rfl | rfl | rfl
  · exact h1.one
  · exact h2.one
  · rfl⟩

set_option maxRecDepth 100000 in
set_option maxHeartbeats 4000000 in
theorem of_0 {H : Heap} {v : Value} {l : List Imp} (hs : Sl 8 EImp H v l) (hl : l.length ≤ 100000000000) : Ct Try.prog 29 [v, .func (.func 30) #[] #[]] H (fun u H' => Own 8 EImp 63 #[] H.size H' u (ofK 0 l) ∧ Old H H') := by
  refine Ct.mk Try.func29 rfl Try.ntmps29 rfl ?_
  intro W0 hW0
  have o0 : Old H H := Old.refl H
  refine KC.seq ?_
  refine KC.region ?_
  refine KL.opM (M.box rfl rfl rfl) rfl rfl rfl ?_
  rintro _ H1 ⟨rfl, n1⟩
  have z1 := n1.2.1
  have o0 := o0.trans n1.1
  have hs := hs.old n1.1
  have b1 := n1.2.2
  have bg := b1
  refine KL.op (R.assign rfl rfl) rfl rfl rfl ?_
  refine KL.nil ?_
  refine KQ.seq ?_
  refine KC.seq ?_
  refine KC.region ?_
  refine KL.op (R.move rfl rfl) rfl rfl rfl ?_
  refine KL.call rfl rfl rfl rfl Try.call42 rfl rfl rfl (CloneI_any hs hl) ?_
  rintro v2 H2 ⟨w2, ox⟩
  have zc_H2 := (ox).1
  have o0 := o0.trans ox
  have hs := hs.old ox
  have bg := (ox).blk bg
  have hw2 := w2.lt
  refine KL.op (R.makeFunc rfl rfl rfl) rfl rfl rfl ?_
  refine KL.call rfl rfl rfl rfl Try.call41 rfl rfl rfl (del_0 w2 (by omega) (hw2.imp id (fun h => by omega)) hl bg) ?_
  rintro v3 H3 ⟨w3, obd⟩
  have z_obd := obd.1
  have o0 := o0.then obd (by omega)
  refine KL.op (R.assign rfl rfl) rfl rfl rfl ?_
  refine KL.nil ?_
  refine KQ.seq ?_
  refine KC.ret ?_
  refine KQ.ofRet ?_
  refine KQ.fin1 Try.results29 rfl ?_
  exact ⟨w3.weak (by omega), o0⟩

set_option maxRecDepth 100000 in
set_option maxHeartbeats 4000000 in
theorem of_1 {H : Heap} {v : Value} {l : List Imp} (hs : Sl 8 EImp H v l) (hl : l.length ≤ 100000000000) : Ct Try.prog 29 [v, .func (.func 31) #[] #[]] H (fun u H' => Own 8 EImp 63 #[] H.size H' u (ofK 1 l) ∧ Old H H') := by
  refine Ct.mk Try.func29 rfl Try.ntmps29 rfl ?_
  intro W0 hW0
  have o0 : Old H H := Old.refl H
  refine KC.seq ?_
  refine KC.region ?_
  refine KL.opM (M.box rfl rfl rfl) rfl rfl rfl ?_
  rintro _ H1 ⟨rfl, n1⟩
  have z1 := n1.2.1
  have o0 := o0.trans n1.1
  have hs := hs.old n1.1
  have b1 := n1.2.2
  have bg := b1
  refine KL.op (R.assign rfl rfl) rfl rfl rfl ?_
  refine KL.nil ?_
  refine KQ.seq ?_
  refine KC.seq ?_
  refine KC.region ?_
  refine KL.op (R.move rfl rfl) rfl rfl rfl ?_
  refine KL.call rfl rfl rfl rfl Try.call42 rfl rfl rfl (CloneI_any hs hl) ?_
  rintro v2 H2 ⟨w2, ox⟩
  have zc_H2 := (ox).1
  have o0 := o0.trans ox
  have hs := hs.old ox
  have bg := (ox).blk bg
  have hw2 := w2.lt
  refine KL.op (R.makeFunc rfl rfl rfl) rfl rfl rfl ?_
  refine KL.call rfl rfl rfl rfl Try.call41 rfl rfl rfl (del_1 w2 (by omega) (hw2.imp id (fun h => by omega)) hl bg) ?_
  rintro v3 H3 ⟨w3, obd⟩
  have z_obd := obd.1
  have o0 := o0.then obd (by omega)
  refine KL.op (R.assign rfl rfl) rfl rfl rfl ?_
  refine KL.nil ?_
  refine KQ.seq ?_
  refine KC.ret ?_
  refine KQ.ofRet ?_
  refine KQ.fin1 Try.results29 rfl ?_
  exact ⟨w3.weak (by omega), o0⟩

set_option maxRecDepth 100000 in
set_option maxHeartbeats 4000000 in
theorem of_2 {H : Heap} {v : Value} {l : List Imp} (hs : Sl 8 EImp H v l) (hl : l.length ≤ 100000000000) : Ct Try.prog 29 [v, .func (.func 32) #[] #[]] H (fun u H' => Own 8 EImp 63 #[] H.size H' u (ofK 2 l) ∧ Old H H') := by
  refine Ct.mk Try.func29 rfl Try.ntmps29 rfl ?_
  intro W0 hW0
  have o0 : Old H H := Old.refl H
  refine KC.seq ?_
  refine KC.region ?_
  refine KL.opM (M.box rfl rfl rfl) rfl rfl rfl ?_
  rintro _ H1 ⟨rfl, n1⟩
  have z1 := n1.2.1
  have o0 := o0.trans n1.1
  have hs := hs.old n1.1
  have b1 := n1.2.2
  have bg := b1
  refine KL.op (R.assign rfl rfl) rfl rfl rfl ?_
  refine KL.nil ?_
  refine KQ.seq ?_
  refine KC.seq ?_
  refine KC.region ?_
  refine KL.op (R.move rfl rfl) rfl rfl rfl ?_
  refine KL.call rfl rfl rfl rfl Try.call42 rfl rfl rfl (CloneI_any hs hl) ?_
  rintro v2 H2 ⟨w2, ox⟩
  have zc_H2 := (ox).1
  have o0 := o0.trans ox
  have hs := hs.old ox
  have bg := (ox).blk bg
  have hw2 := w2.lt
  refine KL.op (R.makeFunc rfl rfl rfl) rfl rfl rfl ?_
  refine KL.call rfl rfl rfl rfl Try.call41 rfl rfl rfl (del_2 w2 (by omega) (hw2.imp id (fun h => by omega)) hl bg) ?_
  rintro v3 H3 ⟨w3, obd⟩
  have z_obd := obd.1
  have o0 := o0.then obd (by omega)
  refine KL.op (R.assign rfl rfl) rfl rfl rfl ?_
  refine KL.nil ?_
  refine KQ.seq ?_
  refine KC.ret ?_
  refine KQ.ofRet ?_
  refine KQ.fin1 Try.results29 rfl ?_
  exact ⟨w3.weak (by omega), o0⟩

set_option maxRecDepth 100000 in
set_option maxHeartbeats 4000000 in
theorem of_3 {H : Heap} {v : Value} {l : List Imp} (hs : Sl 8 EImp H v l) (hl : l.length ≤ 100000000000) : Ct Try.prog 29 [v, .func (.func 33) #[] #[]] H (fun u H' => Own 8 EImp 63 #[] H.size H' u (ofK 3 l) ∧ Old H H') := by
  refine Ct.mk Try.func29 rfl Try.ntmps29 rfl ?_
  intro W0 hW0
  have o0 : Old H H := Old.refl H
  refine KC.seq ?_
  refine KC.region ?_
  refine KL.opM (M.box rfl rfl rfl) rfl rfl rfl ?_
  rintro _ H1 ⟨rfl, n1⟩
  have z1 := n1.2.1
  have o0 := o0.trans n1.1
  have hs := hs.old n1.1
  have b1 := n1.2.2
  have bg := b1
  refine KL.op (R.assign rfl rfl) rfl rfl rfl ?_
  refine KL.nil ?_
  refine KQ.seq ?_
  refine KC.seq ?_
  refine KC.region ?_
  refine KL.op (R.move rfl rfl) rfl rfl rfl ?_
  refine KL.call rfl rfl rfl rfl Try.call42 rfl rfl rfl (CloneI_any hs hl) ?_
  rintro v2 H2 ⟨w2, ox⟩
  have zc_H2 := (ox).1
  have o0 := o0.trans ox
  have hs := hs.old ox
  have bg := (ox).blk bg
  have hw2 := w2.lt
  refine KL.op (R.makeFunc rfl rfl rfl) rfl rfl rfl ?_
  refine KL.call rfl rfl rfl rfl Try.call41 rfl rfl rfl (del_3 w2 (by omega) (hw2.imp id (fun h => by omega)) hl bg) ?_
  rintro v3 H3 ⟨w3, obd⟩
  have z_obd := obd.1
  have o0 := o0.then obd (by omega)
  refine KL.op (R.assign rfl rfl) rfl rfl rfl ?_
  refine KL.nil ?_
  refine KQ.seq ?_
  refine KC.ret ?_
  refine KQ.ofRet ?_
  refine KQ.fin1 Try.results29 rfl ?_
  exact ⟨w3.weak (by omega), o0⟩

set_option maxRecDepth 100000 in
set_option maxHeartbeats 4000000 in
theorem atF_any {H : Heap} {v : Value} {l : List (FTy)} (hs0 : Sl 2 EFTy H v l) (i : Nat) (hi : i ≤ 4294967295) : Ct Try.prog 34 [v, .int .u32 (i : Nat)] H (fun u H' => (∃ cs, u = .tuple #[.agg cs.toArray, .bool (decide (i < l.length))] ∧ ((i < l.length ∧ EFTy H cs (l.getD i default)) ∨ (¬ i < l.length ∧ cs = [.slice none 0 0, .slice none 0 0]))) ∧ Old H H') := by
  refine Ct.mk Try.func34 rfl Try.ntmps34 rfl ?_
  intro W0 hW0
  have o0 : Old H H := Old.refl H
  have hs := hs0
  have hlm := hs0.lenM
  unfold maxLen at hlm
  refine KC.seq ?_
  refine KC.region ?_
  refine KL.opM (M.alloc rfl zr24 rfl) rfl rfl rfl ?_
  rintro _ H1 ⟨rfl, n1⟩
  have z1 := n1.2.1
  have o0 := o0.trans n1.1
  have hs := hs.old n1.1
  have b1 := n1.2.2
  have bq := b1
  refine KL.op (R.assign rfl rfl) rfl rfl rfl ?_
  refine KL.nil ?_
  refine KQ.seq ?_
  refine KC.seq ?_
  refine KC.seq ?_
  refine KC.region ?_
  refine KL.op (R.move rfl rfl) rfl rfl rfl ?_
  refine KL.op (R.convI rfl Try.underlying33 Try.underlying55 rfl (by dsimp only [InR]; omega)) rfl rfl rfl ?_
  refine KL.op (R.move rfl rfl) rfl rfl rfl ?_
  refine KL.op (R.lenS rfl Try.underlying27 rfl hs) rfl rfl rfl ?_
  refine KL.op (R.convI rfl Try.underlying3 Try.underlying55 rfl (by dsimp only [InR]; omega)) rfl rfl rfl ?_
  refine KL.op (R.geq rfl rfl rfl) rfl rfl rfl ?_
  refine KL.nil ?_
  refine KQ.seq ?_
  refine KC.iteL rfl ?_ ?_
  · intro hc12
    try simp only [decide_eq_true_eq, decide_eq_false_iff_not, Bool.not_eq_true', Bool.not_eq_false', Bool.and_eq_true, Bool.or_eq_false_iff] at hc12
    refine KC.seq ?_
    refine KC.region ?_
    refine KL.opM (M.alloc rfl zr24 rfl) rfl rfl rfl ?_
    rintro _ H2 ⟨rfl, n2⟩
    have z2 := n2.2.1
    have o0 := o0.trans n2.1
    have hs := hs.old n2.1
    have bq := (n2.1).blk bq
    have b2 := n2.2.2
    have bz := b2
    refine KL.nil ?_
    refine KQ.seq ?_
    refine KC.seq ?_
    refine KC.region ?_
    refine KL.op (R.loadAgg rfl Try.underlying24 rfl sz24 rfl (cells_of bz) rfl) rfl rfl rfl ?_
    refine KL.opS (S.storeAgg rfl sz24 rfl rfl (rfl) (by intro u hu; simp only [List.mem_cons, List.not_mem_nil, or_false] at hu; rcases hu with rfl | rfl <;> rfl) bq (by simp)) rfl rfl ?_
    rintro H3 ⟨u3, b3⟩
    have o0 := o0.upd u3 (by omega)
    have zu3 := u3.1
    have bz := ((u3).2 _ (by omega)).trans bz
    have bq := b3
    rw [over_all (by rfl)] at bq
    refine KL.op (R.assign rfl rfl) rfl rfl rfl ?_
    refine KL.nil ?_
    refine KQ.seq ?_
    refine KC.ret ?_
    refine KQ.retThen ?_
    refine KQ.ofRet ?_
    refine KQ.finCell2 Try.results34 rfl Try.underlying24 rfl sz24 (cells_of bq) (by first | rfl | exact hcl) rfl ?_
    first
      | exact ⟨⟨_, by rw [decide_eq_false (by omega)], .inr ⟨by omega, rfl⟩⟩, o0⟩
      | exact ⟨⟨cs, by rw [decide_eq_true (by omega)], .inl ⟨by omega, hce⟩⟩, o0⟩
  · intro hc12
    try simp only [decide_eq_true_eq, decide_eq_false_iff_not, Bool.not_eq_true', Bool.not_eq_false', Bool.and_eq_true, Bool.or_eq_false_iff] at hc12
    obtain ⟨cs, hcl, hcx, hce⟩ := hs0.at i (by omega)
    have hcy : CellsH _ _ cs := fun q u hu => o0.cell (hcx q u hu)
    refine KC.skip ?_
    refine KQ.seq ?_
    refine KC.seq ?_
    refine KC.region ?_
    refine KL.op (R.move rfl rfl) rfl rfl rfl ?_
    refine KL.op (R.move rfl rfl) rfl rfl rfl ?_
    refine KL.op (R.index (j := i) rfl Try.underlying27 sz24 rfl rfl hs rfl (by omega)) rfl rfl rfl ?_
    refine KL.op (R.loadAgg rfl Try.underlying24 rfl sz24 rfl hcy hcl) rfl rfl rfl ?_
    refine KL.opS (S.storeAgg (us := cs) rfl sz24 rfl rfl (hcl) (by exact One.one hce) bq (by simp [hcl])) rfl rfl ?_
    rintro H4 ⟨u4, b4⟩
    have o0 := o0.upd u4 (by omega)
    have zu4 := u4.1
    have bq := b4
    rw [over_all (by rw [hcl]; rfl)] at bq
    refine KL.op (R.assign rfl rfl) rfl rfl rfl ?_
    refine KL.nil ?_
    refine KQ.seq ?_
    refine KC.ret ?_
    refine KQ.ofRet ?_
    refine KQ.finCell2 Try.results34 rfl Try.underlying24 rfl sz24 (cells_of bq) (by first | rfl | exact hcl) rfl ?_
    first
      | exact ⟨⟨_, by rw [decide_eq_false (by omega)], .inr ⟨by omega, rfl⟩⟩, o0⟩
      | exact ⟨⟨cs, by rw [decide_eq_true (by omega)], .inl ⟨by omega, hce⟩⟩, o0⟩

set_option maxRecDepth 100000 in
set_option maxHeartbeats 4000000 in
theorem atT_any {H : Heap} {v : Value} {l : List (Ty)} (hs0 : Sl 3 ETy H v l) (i : Nat) (hi : i ≤ 4294967295) : Ct Try.prog 35 [v, .int .u32 (i : Nat)] H (fun u H' => (∃ cs, u = .tuple #[.agg cs.toArray, .bool (decide (i < l.length))] ∧ ((i < l.length ∧ ETy H cs (l.getD i default)) ∨ (¬ i < l.length ∧ cs = [.slice none 0 0, .slice none 0 0, .bool false]))) ∧ Old H H') := by
  refine Ct.mk Try.func35 rfl Try.ntmps35 rfl ?_
  intro W0 hW0
  have o0 : Old H H := Old.refl H
  have hs := hs0
  have hlm := hs0.lenM
  unfold maxLen at hlm
  refine KC.seq ?_
  refine KC.region ?_
  refine KL.opM (M.alloc rfl zr81 rfl) rfl rfl rfl ?_
  rintro _ H1 ⟨rfl, n1⟩
  have z1 := n1.2.1
  have o0 := o0.trans n1.1
  have hs := hs.old n1.1
  have b1 := n1.2.2
  have bq := b1
  refine KL.op (R.assign rfl rfl) rfl rfl rfl ?_
  refine KL.nil ?_
  refine KQ.seq ?_
  refine KC.seq ?_
  refine KC.seq ?_
  refine KC.region ?_
  refine KL.op (R.move rfl rfl) rfl rfl rfl ?_
  refine KL.op (R.convI rfl Try.underlying33 Try.underlying55 rfl (by dsimp only [InR]; omega)) rfl rfl rfl ?_
  refine KL.op (R.move rfl rfl) rfl rfl rfl ?_
  refine KL.op (R.lenS rfl Try.underlying70 rfl hs) rfl rfl rfl ?_
  refine KL.op (R.convI rfl Try.underlying3 Try.underlying55 rfl (by dsimp only [InR]; omega)) rfl rfl rfl ?_
  refine KL.op (R.geq rfl rfl rfl) rfl rfl rfl ?_
  refine KL.nil ?_
  refine KQ.seq ?_
  refine KC.iteL rfl ?_ ?_
  · intro hc12
    try simp only [decide_eq_true_eq, decide_eq_false_iff_not, Bool.not_eq_true', Bool.not_eq_false', Bool.and_eq_true, Bool.or_eq_false_iff] at hc12
    refine KC.seq ?_
    refine KC.region ?_
    refine KL.opM (M.alloc rfl zr81 rfl) rfl rfl rfl ?_
    rintro _ H2 ⟨rfl, n2⟩
    have z2 := n2.2.1
    have o0 := o0.trans n2.1
    have hs := hs.old n2.1
    have bq := (n2.1).blk bq
    have b2 := n2.2.2
    have bz := b2
    refine KL.nil ?_
    refine KQ.seq ?_
    refine KC.seq ?_
    refine KC.region ?_
    refine KL.op (R.loadAgg rfl Try.underlying81 rfl sz81 rfl (cells_of bz) rfl) rfl rfl rfl ?_
    refine KL.opS (S.storeAgg rfl sz81 rfl rfl (rfl) (by intro u hu; simp only [List.mem_cons, List.not_mem_nil, or_false] at hu; rcases hu with rfl | rfl | rfl <;> rfl) bq (by simp)) rfl rfl ?_
    rintro H3 ⟨u3, b3⟩
    have o0 := o0.upd u3 (by omega)
    have zu3 := u3.1
    have bz := ((u3).2 _ (by omega)).trans bz
    have bq := b3
    rw [over_all (by rfl)] at bq
    refine KL.op (R.assign rfl rfl) rfl rfl rfl ?_
    refine KL.nil ?_
    refine KQ.seq ?_
    refine KC.ret ?_
    refine KQ.retThen ?_
    refine KQ.ofRet ?_
    refine KQ.finCell2 Try.results35 rfl Try.underlying81 rfl sz81 (cells_of bq) (by first | rfl | exact hcl) rfl ?_
    first
      | exact ⟨⟨_, by rw [decide_eq_false (by omega)], .inr ⟨by omega, rfl⟩⟩, o0⟩
      | exact ⟨⟨cs, by rw [decide_eq_true (by omega)], .inl ⟨by omega, hce⟩⟩, o0⟩
  · intro hc12
    try simp only [decide_eq_true_eq, decide_eq_false_iff_not, Bool.not_eq_true', Bool.not_eq_false', Bool.and_eq_true, Bool.or_eq_false_iff] at hc12
    obtain ⟨cs, hcl, hcx, hce⟩ := hs0.at i (by omega)
    have hcy : CellsH _ _ cs := fun q u hu => o0.cell (hcx q u hu)
    refine KC.skip ?_
    refine KQ.seq ?_
    refine KC.seq ?_
    refine KC.region ?_
    refine KL.op (R.move rfl rfl) rfl rfl rfl ?_
    refine KL.op (R.move rfl rfl) rfl rfl rfl ?_
    refine KL.op (R.index (j := i) rfl Try.underlying70 sz81 rfl rfl hs rfl (by omega)) rfl rfl rfl ?_
    refine KL.op (R.loadAgg rfl Try.underlying81 rfl sz81 rfl hcy hcl) rfl rfl rfl ?_
    refine KL.opS (S.storeAgg (us := cs) rfl sz81 rfl rfl (hcl) (by exact One.one hce) bq (by simp [hcl])) rfl rfl ?_
    rintro H4 ⟨u4, b4⟩
    have o0 := o0.upd u4 (by omega)
    have zu4 := u4.1
    have bq := b4
    rw [over_all (by rw [hcl]; rfl)] at bq
    refine KL.op (R.assign rfl rfl) rfl rfl rfl ?_
    refine KL.nil ?_
    refine KQ.seq ?_
    refine KC.ret ?_
    refine KQ.ofRet ?_
    refine KQ.finCell2 Try.results35 rfl Try.underlying81 rfl sz81 (cells_of bq) (by first | rfl | exact hcl) rfl ?_
    first
      | exact ⟨⟨_, by rw [decide_eq_false (by omega)], .inr ⟨by omega, rfl⟩⟩, o0⟩
      | exact ⟨⟨cs, by rw [decide_eq_true (by omega)], .inl ⟨by omega, hce⟩⟩, o0⟩

set_option maxRecDepth 100000 in
set_option maxHeartbeats 4000000 in
theorem atG_any {H : Heap} {v : Value} {l : List (Glb)} (hs0 : Sl 2 EGlb H v l) (i : Nat) (hi : i ≤ 4294967295) : Ct Try.prog 36 [v, .int .u32 (i : Nat)] H (fun u H' => (∃ cs, u = .tuple #[.agg cs.toArray, .bool (decide (i < l.length))] ∧ ((i < l.length ∧ EGlb H cs (l.getD i default)) ∨ (¬ i < l.length ∧ cs = [.int .u8 0, .bool false]))) ∧ Old H H') := by
  refine Ct.mk Try.func36 rfl Try.ntmps36 rfl ?_
  intro W0 hW0
  have o0 : Old H H := Old.refl H
  have hs := hs0
  have hlm := hs0.lenM
  unfold maxLen at hlm
  refine KC.seq ?_
  refine KC.region ?_
  refine KL.opM (M.alloc rfl zr46 rfl) rfl rfl rfl ?_
  rintro _ H1 ⟨rfl, n1⟩
  have z1 := n1.2.1
  have o0 := o0.trans n1.1
  have hs := hs.old n1.1
  have b1 := n1.2.2
  have bq := b1
  refine KL.op (R.assign rfl rfl) rfl rfl rfl ?_
  refine KL.nil ?_
  refine KQ.seq ?_
  refine KC.seq ?_
  refine KC.seq ?_
  refine KC.region ?_
  refine KL.op (R.move rfl rfl) rfl rfl rfl ?_
  refine KL.op (R.convI rfl Try.underlying33 Try.underlying55 rfl (by dsimp only [InR]; omega)) rfl rfl rfl ?_
  refine KL.op (R.move rfl rfl) rfl rfl rfl ?_
  refine KL.op (R.lenS rfl Try.underlying71 rfl hs) rfl rfl rfl ?_
  refine KL.op (R.convI rfl Try.underlying3 Try.underlying55 rfl (by dsimp only [InR]; omega)) rfl rfl rfl ?_
  refine KL.op (R.geq rfl rfl rfl) rfl rfl rfl ?_
  refine KL.nil ?_
  refine KQ.seq ?_
  refine KC.iteL rfl ?_ ?_
  · intro hc12
    try simp only [decide_eq_true_eq, decide_eq_false_iff_not, Bool.not_eq_true', Bool.not_eq_false', Bool.and_eq_true, Bool.or_eq_false_iff] at hc12
    refine KC.seq ?_
    refine KC.region ?_
    refine KL.opM (M.alloc rfl zr46 rfl) rfl rfl rfl ?_
    rintro _ H2 ⟨rfl, n2⟩
    have z2 := n2.2.1
    have o0 := o0.trans n2.1
    have hs := hs.old n2.1
    have bq := (n2.1).blk bq
    have b2 := n2.2.2
    have bz := b2
    refine KL.nil ?_
    refine KQ.seq ?_
    refine KC.seq ?_
    refine KC.region ?_
    refine KL.op (R.loadAgg rfl Try.underlying46 rfl sz46 rfl (cells_of bz) rfl) rfl rfl rfl ?_
    refine KL.opS (S.storeAgg rfl sz46 rfl rfl (rfl) (by intro u hu; simp only [List.mem_cons, List.not_mem_nil, or_false] at hu; rcases hu with rfl | rfl <;> rfl) bq (by simp)) rfl rfl ?_
    rintro H3 ⟨u3, b3⟩
    have o0 := o0.upd u3 (by omega)
    have zu3 := u3.1
    have bz := ((u3).2 _ (by omega)).trans bz
    have bq := b3
    rw [over_all (by rfl)] at bq
    refine KL.op (R.assign rfl rfl) rfl rfl rfl ?_
    refine KL.nil ?_
    refine KQ.seq ?_
    refine KC.ret ?_
    refine KQ.retThen ?_
    refine KQ.ofRet ?_
    refine KQ.finCell2 Try.results36 rfl Try.underlying46 rfl sz46 (cells_of bq) (by first | rfl | exact hcl) rfl ?_
    first
      | exact ⟨⟨_, by rw [decide_eq_false (by omega)], .inr ⟨by omega, rfl⟩⟩, o0⟩
      | exact ⟨⟨cs, by rw [decide_eq_true (by omega)], .inl ⟨by omega, hce⟩⟩, o0⟩
  · intro hc12
    try simp only [decide_eq_true_eq, decide_eq_false_iff_not, Bool.not_eq_true', Bool.not_eq_false', Bool.and_eq_true, Bool.or_eq_false_iff] at hc12
    obtain ⟨cs, hcl, hcx, hce⟩ := hs0.at i (by omega)
    have hcy : CellsH _ _ cs := fun q u hu => o0.cell (hcx q u hu)
    refine KC.skip ?_
    refine KQ.seq ?_
    refine KC.seq ?_
    refine KC.region ?_
    refine KL.op (R.move rfl rfl) rfl rfl rfl ?_
    refine KL.op (R.move rfl rfl) rfl rfl rfl ?_
    refine KL.op (R.index (j := i) rfl Try.underlying71 sz46 rfl rfl hs rfl (by omega)) rfl rfl rfl ?_
    refine KL.op (R.loadAgg rfl Try.underlying46 rfl sz46 rfl hcy hcl) rfl rfl rfl ?_
    refine KL.opS (S.storeAgg (us := cs) rfl sz46 rfl rfl (hcl) (by exact One.one hce) bq (by simp [hcl])) rfl rfl ?_
    rintro H4 ⟨u4, b4⟩
    have o0 := o0.upd u4 (by omega)
    have zu4 := u4.1
    have bq := b4
    rw [over_all (by rw [hcl]; rfl)] at bq
    refine KL.op (R.assign rfl rfl) rfl rfl rfl ?_
    refine KL.nil ?_
    refine KQ.seq ?_
    refine KC.ret ?_
    refine KQ.ofRet ?_
    refine KQ.finCell2 Try.results36 rfl Try.underlying46 rfl sz46 (cells_of bq) (by first | rfl | exact hcl) rfl ?_
    first
      | exact ⟨⟨_, by rw [decide_eq_false (by omega)], .inr ⟨by omega, rfl⟩⟩, o0⟩
      | exact ⟨⟨cs, by rw [decide_eq_true (by omega)], .inl ⟨by omega, hce⟩⟩, o0⟩

set_option maxRecDepth 100000 in
set_option maxHeartbeats 4000000 in
theorem atL_any {H : Heap} {v : Value} {l : List (Lim)} (hs0 : Sl 2 ELim H v l) (i : Nat) (hi : i ≤ 4294967295) : Ct Try.prog 38 [v, .int .u32 (i : Nat)] H (fun u H' => (∃ cs, u = .tuple #[.agg cs.toArray, .bool (decide (i < l.length))] ∧ ((i < l.length ∧ ELim H cs (l.getD i default)) ∨ (¬ i < l.length ∧ cs = [.int .u32 0, .int .i64 0]))) ∧ Old H H') := by
  refine Ct.mk Try.func38 rfl Try.ntmps38 rfl ?_
  intro W0 hW0
  have o0 : Old H H := Old.refl H
  have hs := hs0
  have hlm := hs0.lenM
  unfold maxLen at hlm
  refine KC.seq ?_
  refine KC.region ?_
  refine KL.opM (M.alloc rfl zr51 rfl) rfl rfl rfl ?_
  rintro _ H1 ⟨rfl, n1⟩
  have z1 := n1.2.1
  have o0 := o0.trans n1.1
  have hs := hs.old n1.1
  have b1 := n1.2.2
  have bq := b1
  refine KL.op (R.assign rfl rfl) rfl rfl rfl ?_
  refine KL.nil ?_
  refine KQ.seq ?_
  refine KC.seq ?_
  refine KC.seq ?_
  refine KC.region ?_
  refine KL.op (R.move rfl rfl) rfl rfl rfl ?_
  refine KL.op (R.convI rfl Try.underlying33 Try.underlying55 rfl (by dsimp only [InR]; omega)) rfl rfl rfl ?_
  refine KL.op (R.move rfl rfl) rfl rfl rfl ?_
  refine KL.op (R.lenS rfl Try.underlying30 rfl hs) rfl rfl rfl ?_
  refine KL.op (R.convI rfl Try.underlying3 Try.underlying55 rfl (by dsimp only [InR]; omega)) rfl rfl rfl ?_
  refine KL.op (R.geq rfl rfl rfl) rfl rfl rfl ?_
  refine KL.nil ?_
  refine KQ.seq ?_
  refine KC.iteL rfl ?_ ?_
  · intro hc12
    try simp only [decide_eq_true_eq, decide_eq_false_iff_not, Bool.not_eq_true', Bool.not_eq_false', Bool.and_eq_true, Bool.or_eq_false_iff] at hc12
    refine KC.seq ?_
    refine KC.region ?_
    refine KL.opM (M.alloc rfl zr51 rfl) rfl rfl rfl ?_
    rintro _ H2 ⟨rfl, n2⟩
    have z2 := n2.2.1
    have o0 := o0.trans n2.1
    have hs := hs.old n2.1
    have bq := (n2.1).blk bq
    have b2 := n2.2.2
    have bz := b2
    refine KL.nil ?_
    refine KQ.seq ?_
    refine KC.seq ?_
    refine KC.region ?_
    refine KL.op (R.loadAgg rfl Try.underlying51 rfl sz51 rfl (cells_of bz) rfl) rfl rfl rfl ?_
    refine KL.opS (S.storeAgg rfl sz51 rfl rfl (rfl) (by intro u hu; simp only [List.mem_cons, List.not_mem_nil, or_false] at hu; rcases hu with rfl | rfl <;> rfl) bq (by simp)) rfl rfl ?_
    rintro H3 ⟨u3, b3⟩
    have o0 := o0.upd u3 (by omega)
    have zu3 := u3.1
    have bz := ((u3).2 _ (by omega)).trans bz
    have bq := b3
    rw [over_all (by rfl)] at bq
    refine KL.op (R.assign rfl rfl) rfl rfl rfl ?_
    refine KL.nil ?_
    refine KQ.seq ?_
    refine KC.ret ?_
    refine KQ.retThen ?_
    refine KQ.ofRet ?_
    refine KQ.finCell2 Try.results38 rfl Try.underlying51 rfl sz51 (cells_of bq) (by first | rfl | exact hcl) rfl ?_
    first
      | exact ⟨⟨_, by rw [decide_eq_false (by omega)], .inr ⟨by omega, rfl⟩⟩, o0⟩
      | exact ⟨⟨cs, by rw [decide_eq_true (by omega)], .inl ⟨by omega, hce⟩⟩, o0⟩
  · intro hc12
    try simp only [decide_eq_true_eq, decide_eq_false_iff_not, Bool.not_eq_true', Bool.not_eq_false', Bool.and_eq_true, Bool.or_eq_false_iff] at hc12
    obtain ⟨cs, hcl, hcx, hce⟩ := hs0.at i (by omega)
    have hcy : CellsH _ _ cs := fun q u hu => o0.cell (hcx q u hu)
    refine KC.skip ?_
    refine KQ.seq ?_
    refine KC.seq ?_
    refine KC.region ?_
    refine KL.op (R.move rfl rfl) rfl rfl rfl ?_
    refine KL.op (R.move rfl rfl) rfl rfl rfl ?_
    refine KL.op (R.index (j := i) rfl Try.underlying30 sz51 rfl rfl hs rfl (by omega)) rfl rfl rfl ?_
    refine KL.op (R.loadAgg rfl Try.underlying51 rfl sz51 rfl hcy hcl) rfl rfl rfl ?_
    refine KL.opS (S.storeAgg (us := cs) rfl sz51 rfl rfl (hcl) (by exact One.one hce) bq (by simp [hcl])) rfl rfl ?_
    rintro H4 ⟨u4, b4⟩
    have o0 := o0.upd u4 (by omega)
    have zu4 := u4.1
    have bq := b4
    rw [over_all (by rw [hcl]; rfl)] at bq
    refine KL.op (R.assign rfl rfl) rfl rfl rfl ?_
    refine KL.nil ?_
    refine KQ.seq ?_
    refine KC.ret ?_
    refine KQ.ofRet ?_
    refine KQ.finCell2 Try.results38 rfl Try.underlying51 rfl sz51 (cells_of bq) (by first | rfl | exact hcl) rfl ?_
    first
      | exact ⟨⟨_, by rw [decide_eq_false (by omega)], .inr ⟨by omega, rfl⟩⟩, o0⟩
      | exact ⟨⟨cs, by rw [decide_eq_true (by omega)], .inl ⟨by omega, hce⟩⟩, o0⟩

end Go.Proofs.Ytbmikddaiedhiaa
