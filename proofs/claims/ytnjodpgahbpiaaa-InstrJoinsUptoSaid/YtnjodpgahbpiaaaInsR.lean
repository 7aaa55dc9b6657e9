/- Instructions and expressions are written. No condition but those stated. -/
import Derived.Test.YtnjodpgahbpiaaaInsO
namespace Go.Proofs.Ytnjodpgahbpiaaa
open Go Go.RowKit
set_option linter.unusedVariables false
set_option linter.unusedSimpArgs false
set_option linter.unnecessarySimpa false

theorem CellsH.old {H H' : Heap} {p : Addr} {cs : List Value} (h : CellsH H p cs) (o : Old H H') : CellsH H' p cs := fun i v hv => o.cell (h i v hv)
/-- an expression has bytes -/
def Isp.Has (xs : List Ins) : Prop := Isp.walkM [] xs = some [] ∧ ∀ x ∈ xs, Isp.May x
/-- bytes and marks that are being written -/
structure AS (H : Heap) (gm B0 B : Nat) (vm : Value) (m : List Int) (vb : Value) (lb : List Int) : Prop where
  bm : H[gm]? = some (.cells [vm].toArray 48 (0, 0))
  wm : Own 1 (EInt .u8) 5 #[] B H vm m
  wb : Own 1 (EInt .u8) 5 #[] B0 H vb lb
  sep : vb = .slice none 0 0 ∨ vm = .slice none 0 0 ∨ vblock vb ≠ vblock vm
  nb : vb = .slice none 0 0 ∨ vblock vb ≠ gm
  lo : B0 ≤ gm ∧ gm < B
section
variable {H H' : Heap} {gm B0 B : Nat} {vm vm' vb vb' : Value} {m m' lb lb' : List Int}
theorem AS.sz (h : AS H gm B0 B vm m vb lb) : gm < H.size ∧ B0 ≤ gm ∧ gm < B ∧ (vb = .slice none 0 0 ∨ (B0 ≤ vblock vb ∧ vblock vb < H.size)) ∧ (vm = .slice none 0 0 ∨ (B ≤ vblock vm ∧ vblock vm < H.size)) := ⟨blk_lt h.bm, h.lo.1, h.lo.2, h.wb.lt, h.wm.lt⟩
theorem AS.old (h : AS H gm B0 B vm m vb lb) (o : Old H H') : AS H' gm B0 B vm m vb lb := ⟨o.blk h.bm, h.wm.old o, h.wb.old o, h.sep, h.nb, h.lo⟩
theorem AS.updT {g : Nat} (h : AS H gm B0 B vm m vb lb) (u : Upd g H H') (h1 : g ≠ gm ∧ (vb = .slice none 0 0 ∨ vblock vb ≠ g) ∧ (vm = .slice none 0 0 ∨ vblock vm ≠ g)) : AS H' gm B0 B vm m vb lb :=
  ⟨(u.2 _ (fun e => h1.1 e.symm)).trans h.bm, h.wm.upd u h1.2.2, h.wb.upd u h1.2.1, h.sep, h.nb, h.lo⟩
theorem nx_ne {v v' : Value} {y : Nat} (nx : Nx H v v') (hy : y < H.size) (hn : v = .slice none 0 0 ∨ vblock v ≠ y) : v' = .slice none 0 0 ∨ vblock v' ≠ y := by
  rcases nx with e | ⟨e1, e2⟩ | e
  · exact .inl e
  · rw [e2]; exact .inr (hn.resolve_left e1)
  · exact .inr (by omega)
theorem AS.next (h : AS H gm B0 B vm m vb lb) (bm : H'[gm]? = some (.cells [vm'].toArray 48 (0, 0))) (wm : Own 1 (EInt .u8) 5 #[] B H' vm' m') (f : Fr gm vm H H') (nx : Nx H vm vm') : AS H' gm B0 B vm' m' vb lb := by
  have s := h.sz
  refine ⟨bm, wm, ?_, ?_, h.nb, h.lo⟩
  · refine h.wb.keepN ?_
    rcases s.2.2.2.1 with e | e
    · exact .inl e
    · by_cases hn : vb = .slice none 0 0
      · exact .inl hn
      · exact .inr (f.2 _ e.2 (h.nb.resolve_left hn) ((h.sep.resolve_left hn).imp id (fun k => k)))
  · rcases s.2.2.2.1 with e | e
    · exact .inl e
    · by_cases hn : vb = .slice none 0 0
      · exact .inl hn
      · rcases nx_ne nx e.2 ((h.sep.resolve_left hn).imp id (fun k e => k e.symm)) with k | k
        · exact .inr (.inl k)
        · exact .inr (.inr (fun e => k e.symm))
theorem AS.put (h : AS H gm B0 B vm m vb lb) (w : Own 1 (EInt .u8) 5 #[] B0 H' vb' lb') (g : Grown vb H H') (nx : Nx H vb vb') : AS H' gm B0 B vm m vb' lb' := by
  have s := h.sz
  refine ⟨(g.2 _ s.1 (h.nb.imp id (fun k e => k e.symm))).trans h.bm, ?_, w, ?_, nx_ne nx s.1 h.nb, h.lo⟩
  · refine h.wm.keepN ?_
    rcases s.2.2.2.2 with e | e
    · exact .inl e
    · by_cases hn : vm = .slice none 0 0
      · exact .inl hn
      · refine .inr (g.2 _ e.2 ?_)
        rcases h.sep with k | k | k
        · exact .inl k
        · exact absurd k hn
        · exact .inr (fun e => k e.symm)
  · rcases s.2.2.2.2 with e | e
    · exact .inr (.inl e)
    · by_cases hn : vm = .slice none 0 0
      · exact .inr (.inl hn)
      · rcases nx_ne nx e.2 (h.sep.imp id (fun k => k.resolve_left hn)) with k | k
        · exact .inl k
        · exact .inr (.inr k)
end

set_option maxRecDepth 100000 in
set_option maxHeartbeats 4000000 in
theorem Append_any {H : Heap} {va : Value} {la : List Int} {x : Ins} {vl : Value} (hs : Sl 1 (EInt .u8) H va la) (hla : la.length ≤ 1000000000) (hx : InsR x) (hll : x.l.length ≤ 100000000) (hsx : Sl 1 (EInt .u32) H vl x.l) : Ct Try.prog 11 [va, insV x vl] H (fun u H' => ((¬ Isp.May x ∧ u = .tuple #[.slice none 0 0, .int .i64 2]) ∨ (Isp.May x ∧ ∃ c, u = .tuple #[c, .int .i64 0] ∧ Own 1 (EInt .u8) 5 #[] H.size H' c (la ++ Isp.bytes x))) ∧ Old H H') := by
  refine Ct.mk Try.func11 rfl Try.ntmps11 rfl ?_
  intro W0 hW0
  have o0 : Old H H := Old.refl H
  unfold insV
  refine KC.seq ?_
  refine KC.region ?_
  refine KL.opM (M.box rfl rfl rfl) rfl rfl rfl ?_
  rintro _ H1 ⟨rfl, n1⟩
  have z1 := n1.2.1
  have o0 := o0.trans n1.1
  have hs := hs.old n1.1
  have b1 := n1.2.2
  have bx := b1
  refine KL.op (R.assign rfl rfl) rfl rfl rfl ?_
  refine KL.op (R.assign rfl rfl) rfl rfl rfl ?_
  refine KL.nil ?_
  refine KQ.seq ?_
  refine KC.seq ?_
  refine KC.seq ?_
  refine KC.region ?_
  refine KL.op (R.loadAgg rfl Try.underlying36 rfl sz36 rfl (by first | exact cells_of bx | assumption) rfl) rfl rfl rfl ?_
  have hsx1 := hsx.old o0
  refine KL.call rfl rfl rfl rfl Try.call18 rfl rfl rfl (may_any hx (by omega) hsx1) ?_
  rintro _ H2 ⟨⟨bM, rfl, hbM⟩, ox⟩
  have zc_H2 := (ox).1
  have o0 := o0.trans ox
  have hs := hs.old ox
  have bx := (ox).blk bx
  refine KL.op (R.not rfl rfl) rfl rfl rfl ?_
  refine KL.nil ?_
  refine KQ.seq ?_
  refine KC.iteL rfl ?_ ?_
  · intro hc8
    try simp only [decide_eq_true_eq, decide_eq_false_iff_not, Bool.not_eq_true', Bool.not_eq_false', Bool.and_eq_true, Bool.or_eq_false_iff] at hc8
    have hM : ¬ Isp.May x := fun h => by have hq := hbM.2 h; rw [hc8] at hq; cases hq
    refine KC.seq ?_
    refine KC.region ?_
    refine KL.op (R.assign rfl rfl) rfl rfl rfl ?_
    refine KL.op (R.assign rfl rfl) rfl rfl rfl ?_
    refine KL.nil ?_
    refine KQ.seq ?_
    refine KC.ret ?_
    refine KQ.retThen ?_
    refine KQ.ofRet ?_
    refine KQ.fin2 Try.results11 rfl rfl ?_
    first
      | exact ⟨.inl ⟨hM, rfl⟩, o0⟩
      | exact ⟨.inr ⟨hM, _, rfl, wa⟩, o0⟩
  · intro hc8
    try simp only [decide_eq_true_eq, decide_eq_false_iff_not, Bool.not_eq_true', Bool.not_eq_false', Bool.and_eq_true, Bool.or_eq_false_iff] at hc8
    have hM : Isp.May x := hbM.1 (by simpa using hc8)
    refine KC.skip ?_
    refine KQ.seq ?_
    refine KC.seq ?_
    have wn : Own 1 (EInt .u8) 5 #[] (Array.size H) H2 (.slice none 0 0) [] := Own.nil _ _ _ _ _ _
    refine KC.order [0, 1, 2, 3, 4, 5] (clOf [(1, 2), (3, 2)]) (fun j Hc => j = 2 → Hc[Array.size H]? = some (.cells [.int .u8 x.op, .int .u32 x.a, .int .u32 x.b, .int .i64 x.c, vl].toArray 36 (0, 0))) (fun _ _ => False) (by kernel_rfl) (by kernel_rfl) (by kernel_rfl) rfl (fun _ _ => bx) (fun _ _ h => h.elim) ?_
    refine KO.op rfl rfl (fun Hg hg => R.move rfl rfl) rfl rfl rfl ?_
    have lt3 := wn.lt
    refine KO.opM rfl rfl (M.append rfl Try.underlying23 inf5 rfl (by decide) rfl rfl wn (by exact hs) (fun _ _ h _ => h) (by omega) (by simp; omega) (by unfold maxLen; simp; omega)) rfl rfl rfl (fun _ _ hR j _ _ _ => (hR.2.2 _ (blk_lt bx) (.inl rfl)).trans bx) ?_
    rintro vn H3 ⟨w3, g3⟩
    try dsimp only at g3
    have ob3 := g3.oldB wn (by omega)
    have o0 := o0.then ob3 (by omega)
    have z3 := ob3.1
    have bx := (g3.2 _ (blk_lt bx) (by first | exact .inr (by omega) | exact .inl rfl | exact lt3.imp id (fun h => by omega))).trans bx
    have wn := w3
    rw [List.nil_append] at wn
    refine KO.op rfl rfl (fun Hg hg => R.loadAgg rfl Try.underlying36 rfl sz36 rfl (cells_of (hg rfl)) rfl) rfl rfl rfl ?_
    refine KO.call rfl rfl rfl rfl rfl rfl Try.call19 rfl rfl rfl (put_any wn (by omega) hx hll (by omega) (fun H2 k => hsx.old (o0.then k (Nat.le_refl _))) hM) (fun _ _ hR j _ hj2 hj => by subst hj; exact absurd (by decide +kernel) hj2) ?_
    rintro va H4 ⟨wa, gq, nq⟩
    have obq := gq.oldB wn (by omega)
    have z_obq := obq.1
    have o0 := o0.then obq (by omega)
    refine KO.op rfl rfl (fun Hg hg => R.assign rfl rfl) rfl rfl rfl ?_
    refine KO.op rfl rfl (fun Hg hg => R.assign rfl rfl) rfl rfl rfl ?_
    refine KO.nil ?_
    refine KQ.seq ?_
    refine KC.ret ?_
    refine KQ.ofRet ?_
    refine KQ.fin2 Try.results11 rfl rfl ?_
    first
      | exact ⟨.inl ⟨hM, rfl⟩, o0⟩
      | exact ⟨.inr ⟨hM, _, rfl, wa⟩, o0⟩

set_option maxRecDepth 100000 in
set_option maxHeartbeats 4000000 in
theorem AppendExpr_any {H : Heap} {va v : Value} {la : List Int} {xs : List Ins} (hs : Sl 1 (EInt .u8) H va la) (hla : la.length ≤ 100000000) (hs0 : Sl 5 EIns H v xs) (hb : Isp.bulk xs ≤ 2000000) : Ct Try.prog 8 [va, v] H (fun u H' => ((¬ Isp.Has xs ∧ u = .tuple #[.slice none 0 0, .int .i64 2]) ∨ (Isp.Has xs ∧ ∃ c, u = .tuple #[c, .int .i64 0] ∧ Own 1 (EInt .u8) 5 #[] H.size H' c (la ++ (Isp.flat xs ++ [11])))) ∧ Old H H') := by
  refine Ct.mk Try.func8 rfl Try.ntmps8 rfl ?_
  intro W0 hW0
  have o0 : Old H H := Old.refl H
  have hlx := Isp.bulk_len xs
  refine KC.seq ?_
  refine KC.region ?_
  refine KL.op (R.assign rfl rfl) rfl rfl rfl ?_
  refine KL.op (R.assign rfl rfl) rfl rfl rfl ?_
  refine KL.nil ?_
  refine KQ.seq ?_
  refine KC.seq ?_
  have wn : Own 1 (EInt .u8) 5 #[] (Array.size H) H (.slice none 0 0) [] := Own.nil _ _ _ _ _ _
  refine KC.region ?_
  refine KL.op (R.move rfl rfl) rfl rfl rfl ?_
  have lt1 := wn.lt
  refine KL.opM (M.append rfl Try.underlying23 inf5 rfl (by decide) rfl rfl wn (by exact hs) (fun _ _ h _ => h) (by omega) (by simp; omega) (by unfold maxLen; simp; omega)) rfl rfl rfl ?_
  rintro v0 H1 ⟨w1, g1⟩
  try dsimp only at g1
  have ob1 := g1.oldB wn (by omega)
  have o0 := o0.then ob1 (by omega)
  have z1 := ob1.1
  have wn := w1
  rw [List.nil_append] at wn
  have hwn := wn.lt
  refine KL.op (R.assign rfl rfl) rfl rfl rfl ?_
  refine KL.nil ?_
  refine KQ.seq ?_
  refine KC.seq ?_
  refine KC.region ?_
  refine KL.opM (M.alloc rfl zr48 rfl) rfl rfl rfl ?_
  rintro _ H2 ⟨rfl, n2⟩
  have z2 := n2.2.1
  have o0 := o0.trans n2.1
  have wn := wn.old n2.1
  have b2 := n2.2.2
  have bm := b2
  have aw : AS H2 (Array.size H1) (Array.size H) (Array.size H2) (.slice none 0 0) [] v0 la := ⟨bm, Own.nil _ _ _ _ _ _, wn, .inr (.inl rfl), hwn.imp id (fun e => by omega), by omega⟩
  have zas := aw.sz
  refine KL.nil ?_
  refine KQ.seq ?_
  refine KC.seq ?_
  refine KC.seq ?_
  refine KC.region ?_
  refine KL.op (R.move rfl rfl) rfl rfl rfl ?_
  refine KL.op (R.lenS rfl Try.underlying22 rfl (hs0.old o0)) rfl rfl rfl ?_
  refine KL.op (R.move rfl rfl) rfl rfl rfl ?_
  refine KL.nil ?_
  refine KQ.seq ?_
  refine KC.block ?_
  refine KC.loopD (κ := Nat × Value × Value × List Int) [17, 18, 19, 9, 21, 22, 23, 20, 24, 25, 10, 11, 26, 27, 28, 29, 30, 31, 32, 33, 34, 4, 5, 35, 36, 37, 6, 38, 16] (fun k => [(16, .int .i64 (k.1 : Nat)), (6, k.2.1)]) (fun k Hl => k.1 ≤ xs.length ∧ AS Hl (Array.size H1) (Array.size H) (Array.size H2) k.2.2.1 k.2.2.2 k.2.1 (la ++ Isp.flat (xs.take k.1)) ∧ Isp.walkM [] (xs.take k.1) = some k.2.2.2 ∧ (∀ x ∈ xs.take k.1, Isp.May x) ∧ Array.size H2 ≤ Hl.size ∧ Old H Hl) (fun k => xs.length - k.1) (0, v0, .slice none 0 0, []) ?_ ?_ ?_
  · exact (Sub.cons rfl (Sub.cons rfl (Ext.sub (Ext.refl _ _))))
  · exact ⟨Nat.zero_le _, by simpa [Isp.flat] using aw, by simp [Isp.walkM], by simp, Nat.le_refl _, o0⟩
  · rintro ⟨k, vb, vm, m⟩ H3 ⟨hk, aw, hw, hMs, hBH, o0⟩
    have zl_H3 := o0.1
    dsimp only at hk aw hw hMs
    have zas := aw.sz
    have zo0 := o0.1
    have hs := hs0.old o0
    have hfl := flatB (k := k) hs0 hb
    have hml : m.length ≤ xs.length := by
      have := Isp.walk_len hw
      rw [List.length_take] at this; omega
    have hlx := Isp.bulk_len xs
    refine KC.seq ?_
    refine KC.region ?_
    refine KL.op (R.lss rfl rfl rfl) rfl rfl rfl ?_
    refine KL.nil ?_
    refine KQ.seq ?_
    refine KC.seq ?_
    refine KC.iteL rfl ?_ ?_
    · intro hc17
      try simp only [decide_eq_true_eq, decide_eq_false_iff_not, Bool.not_eq_true', Bool.not_eq_false', Bool.and_eq_true, Bool.or_eq_false_iff] at hc17
      obtain ⟨vl, hcx0, hcl0, hxr⟩ := hs0.insV k (by omega)
      have hcx := hcx0.old o0
      have hcl := hcl0.old o0
      have hbm := Isp.bulk_mem (ins_mem (l := xs) (j := k) (by omega))
      refine KC.skip ?_
      refine KQ.seq ?_
      refine KC.seq ?_
      refine KC.block ?_
      refine KC.seq ?_
      refine KC.region ?_
      refine KL.op (R.index (j := k) rfl Try.underlying22 sz36 rfl rfl hs rfl (by omega)) rfl rfl rfl ?_
      refine KL.op (R.loadAgg rfl Try.underlying36 rfl sz36 rfl hcx rfl) rfl rfl rfl ?_
      have zasP := aw.sz
      refine KL.opM (M.alloc rfl zr36 rfl) rfl rfl rfl ?_
      rintro _ H4 ⟨rfl, n4⟩
      have z4 := n4.2.1
      have o0 := o0.trans n4.1
      have aw := aw.old n4.1
      have b4 := n4.2.2
      have b9x := b4
      have zas := aw.sz
      refine KL.opS (S.storeAgg rfl sz36 rfl rfl (rfl) (by intro u hu; simp only [List.mem_cons, List.not_mem_nil, or_false] at hu; rcases hu with rfl | rfl | rfl | rfl | rfl <;> first | rfl | exact hcl.one) b9x (by simp)) rfl rfl ?_
      rintro H5 ⟨u5, b5⟩
      have o0 := o0.upd u5 (by omega)
      have zu5 := u5.1
      have b9x := b5
      rw [over_all (by rfl)] at b9x
      have aw := aw.updT u5 ⟨by omega, zasP.2.2.2.1.imp id (fun e => by omega), zasP.2.2.2.2.imp id (fun e => by omega)⟩
      have zas := aw.sz
      refine KL.nil ?_
      refine KQ.seq ?_
      refine KC.seq ?_
      refine KC.region ?_
      refine KL.op ((by first | exact R.fieldAddr rfl Try.underlying36 rfl rfl sz5 rfl | exact R.fieldAddrP rfl Try.underlying36 rfl rfl sz5 rfl)) rfl rfl rfl ?_
      refine KL.op (R.load rfl Try.underlying5 rfl rfl (by first | exact cell_of b9x rfl | exact cell_of aw.bm rfl | exact cell_of b9x rfl | assumption)) rfl rfl rfl ?_
      refine KL.call rfl rfl rfl rfl Try.call17 rfl rfl rfl (next_any aw.bm aw.wm aw.lo.2 (xs.getD k default).op hxr.1 (by omega) (by omega)) ?_
      rintro _ H6 hR
      rcases hR with ⟨hno, rfl, o2⟩ | ⟨hno, rfl, o2⟩ | ⟨m2, vm2, hnx, rfl, hbm2, hwm, f2, nx2, hv2⟩
      · skip
        have o0 := o0.trans o2
        have b9x := (o2).blk b9x
        have aw := aw.old o2
        have hst : ∀ m2, Isp.nx m (xs.getD k default).op ≠ .go m2 := fun _ => by rw [hno]; simp
        refine KL.op (R.move rfl rfl) rfl rfl rfl ?_
        refine KL.op (R.extract rfl rfl rfl) rfl rfl rfl ?_
        refine KL.op (R.extract rfl rfl rfl) rfl rfl rfl ?_
        refine KL.op (R.assign rfl rfl) rfl rfl rfl ?_
        refine KL.op (R.assign rfl rfl) rfl rfl rfl ?_
        refine KL.nil ?_
        refine KQ.seq ?_
        refine KC.seq ?_
        refine KC.seq ?_
        refine KC.region ?_
        refine KL.op (R.move rfl rfl) rfl rfl rfl ?_
        refine KL.op (R.move rfl rfl) rfl rfl rfl ?_
        refine KL.op (R.move rfl rfl) rfl rfl rfl ?_
        refine KL.op (R.pick rfl rfl rfl) rfl rfl rfl ?_
        refine KL.op (R.move rfl rfl) rfl rfl rfl ?_
        refine KL.skip rfl rfl rfl ?_
        refine KL.skip rfl rfl rfl ?_
        refine KL.skip rfl rfl rfl ?_
        refine KL.op (R.pick rfl rfl rfl) rfl rfl rfl ?_
        refine KL.nil ?_
        refine KQ.seq ?_
        refine KC.condT rfl ?_
        refine KC.seq ?_
        refine KC.region ?_
        refine KL.op (R.assign rfl rfl) rfl rfl rfl ?_
        refine KL.op (R.assign rfl rfl) rfl rfl rfl ?_
        refine KL.nil ?_
        refine KQ.seq ?_
        refine KC.ret ?_
        refine KQ.retThen ?_
        refine KQ.retBlock ?_
        refine KQ.retThen ?_
        refine KQ.retThen ?_
        refine KQ.retBlock ?_
        refine KQ.retThen ?_
        refine KQ.ofRet ?_
        refine KQ.fin2 Try.results8 rfl rfl ?_
        first
          | exact ⟨.inl ⟨fun h => absurd (h.1.symm.trans (Isp.walk_stop (k := k) (by omega) hw hst)) (by simp), rfl⟩, o0⟩
          | exact ⟨.inl ⟨fun h => absurd h.2 (Isp.may_no (k := k) (by omega) hnM), rfl⟩, o0⟩
          | (have hkl : k = xs.length := by omega
             rw [hkl, List.take_length] at hw
             exact ⟨.inl ⟨fun h => by have e := h.1.symm.trans hw; injection e with e; subst e; simp at *, rfl⟩, o0⟩)
          | (have hkl : k = xs.length := by omega
             rw [hkl, List.take_length] at hw hMs wb
             have hm0 : m = [] := List.eq_nil_of_length_eq_zero (by omega)
             subst hm0
             exact ⟨.inr ⟨⟨hw, hMs⟩, _, rfl, by rw [← List.append_assoc]; exact wb⟩, o0⟩)
      · skip
        have o0 := o0.trans o2
        have b9x := (o2).blk b9x
        have aw := aw.old o2
        have hst : ∀ m2, Isp.nx m (xs.getD k default).op ≠ .go m2 := fun _ => by rw [hno]; simp
        refine KL.op (R.move rfl rfl) rfl rfl rfl ?_
        refine KL.op (R.extract rfl rfl rfl) rfl rfl rfl ?_
        refine KL.op (R.extract rfl rfl rfl) rfl rfl rfl ?_
        refine KL.op (R.assign rfl rfl) rfl rfl rfl ?_
        refine KL.op (R.assign rfl rfl) rfl rfl rfl ?_
        refine KL.nil ?_
        refine KQ.seq ?_
        refine KC.seq ?_
        refine KC.seq ?_
        refine KC.region ?_
        refine KL.op (R.move rfl rfl) rfl rfl rfl ?_
        refine KL.op (R.move rfl rfl) rfl rfl rfl ?_
        refine KL.skip rfl rfl rfl ?_
        refine KL.op (R.pick rfl rfl rfl) rfl rfl rfl ?_
        refine KL.op (R.move rfl rfl) rfl rfl rfl ?_
        refine KL.skip rfl rfl rfl ?_
        refine KL.skip rfl rfl rfl ?_
        refine KL.skip rfl rfl rfl ?_
        refine KL.op (R.pick rfl rfl rfl) rfl rfl rfl ?_
        refine KL.nil ?_
        refine KQ.seq ?_
        refine KC.condT rfl ?_
        refine KC.seq ?_
        refine KC.region ?_
        refine KL.op (R.assign rfl rfl) rfl rfl rfl ?_
        refine KL.op (R.assign rfl rfl) rfl rfl rfl ?_
        refine KL.nil ?_
        refine KQ.seq ?_
        refine KC.ret ?_
        refine KQ.retThen ?_
        refine KQ.retBlock ?_
        refine KQ.retThen ?_
        refine KQ.retThen ?_
        refine KQ.retBlock ?_
        refine KQ.retThen ?_
        refine KQ.ofRet ?_
        refine KQ.fin2 Try.results8 rfl rfl ?_
        first
          | exact ⟨.inl ⟨fun h => absurd (h.1.symm.trans (Isp.walk_stop (k := k) (by omega) hw hst)) (by simp), rfl⟩, o0⟩
          | exact ⟨.inl ⟨fun h => absurd h.2 (Isp.may_no (k := k) (by omega) hnM), rfl⟩, o0⟩
          | (have hkl : k = xs.length := by omega
             rw [hkl, List.take_length] at hw
             exact ⟨.inl ⟨fun h => by have e := h.1.symm.trans hw; injection e with e; subst e; simp at *, rfl⟩, o0⟩)
          | (have hkl : k = xs.length := by omega
             rw [hkl, List.take_length] at hw hMs wb
             have hm0 : m = [] := List.eq_nil_of_length_eq_zero (by omega)
             subst hm0
             exact ⟨.inr ⟨⟨hw, hMs⟩, _, rfl, by rw [← List.append_assoc]; exact wb⟩, o0⟩)
      · skip
        have zf2 := f2.1
        have b9x := (f2.2 _ (blk_lt b9x) (by omega) (zasP.2.2.2.2.imp id (fun e => by omega))).trans b9x
        have aw := aw.next hbm2 hwm f2 nx2
        have o0 := o0.then (f2.oldB (B := Array.size H) (by omega) (by omega) (zas.2.2.2.2.imp id (fun e => by omega))) (Nat.le_refl _)
        have zas := aw.sz
        refine KL.op (R.move rfl rfl) rfl rfl rfl ?_
        refine KL.op (R.extract rfl rfl rfl) rfl rfl rfl ?_
        refine KL.op (R.extract rfl rfl rfl) rfl rfl rfl ?_
        refine KL.op (R.assign rfl rfl) rfl rfl rfl ?_
        refine KL.op (R.assign rfl rfl) rfl rfl rfl ?_
        refine KL.nil ?_
        refine KQ.seq ?_
        refine KC.seq ?_
        refine KC.seq ?_
        refine KC.region ?_
        refine KL.op (R.move rfl rfl) rfl rfl rfl ?_
        refine KL.op (R.move rfl rfl) rfl rfl rfl ?_
        refine KL.op (R.move rfl rfl) rfl rfl rfl ?_
        refine KL.op (R.pick rfl rfl rfl) rfl rfl rfl ?_
        refine KL.op (R.move rfl rfl) rfl rfl rfl ?_
        refine KL.op (R.loadAgg rfl Try.underlying36 rfl sz36 rfl (by first | exact cells_of b9x | exact cells_of b9x | assumption) rfl) rfl rfl rfl ?_
        refine KL.call rfl rfl rfl rfl Try.call18 rfl rfl rfl (may_any hxr (by omega) (hcl0.old o0)) ?_
        rintro _ H7 ⟨⟨bM, rfl, hbM⟩, ox⟩
        have zc_H7 := (ox).1
        have o0 := o0.trans ox
        have aw := aw.old ox
        have b9x := (ox).blk b9x
        have zas := aw.sz
        refine KL.op (R.not rfl rfl) rfl rfl rfl ?_
        refine KL.op (R.pick rfl rfl rfl) rfl rfl rfl ?_
        refine KL.nil ?_
        refine KQ.seq ?_
        refine KC.iteL rfl ?_ ?_
        · intro hc34
          try simp only [decide_eq_true_eq, decide_eq_false_iff_not, Bool.not_eq_true', Bool.not_eq_false', Bool.and_eq_true, Bool.or_eq_false_iff] at hc34
          have hnM : ¬ Isp.May (xs.getD k default) := fun h => by have hq := hbM.2 h; rw [hc34] at hq; cases hq
          refine KC.seq ?_
          refine KC.region ?_
          refine KL.op (R.assign rfl rfl) rfl rfl rfl ?_
          refine KL.op (R.assign rfl rfl) rfl rfl rfl ?_
          refine KL.nil ?_
          refine KQ.seq ?_
          refine KC.ret ?_
          refine KQ.retThen ?_
          refine KQ.retBlock ?_
          refine KQ.retThen ?_
          refine KQ.retThen ?_
          refine KQ.retBlock ?_
          refine KQ.retThen ?_
          refine KQ.ofRet ?_
          refine KQ.fin2 Try.results8 rfl rfl ?_
          first
            | exact ⟨.inl ⟨fun h => absurd (h.1.symm.trans (Isp.walk_stop (k := k) (by omega) hw hst)) (by simp), rfl⟩, o0⟩
            | exact ⟨.inl ⟨fun h => absurd h.2 (Isp.may_no (k := k) (by omega) hnM), rfl⟩, o0⟩
            | (have hkl : k = xs.length := by omega
               rw [hkl, List.take_length] at hw
               exact ⟨.inl ⟨fun h => by have e := h.1.symm.trans hw; injection e with e; subst e; simp at *, rfl⟩, o0⟩)
            | (have hkl : k = xs.length := by omega
               rw [hkl, List.take_length] at hw hMs wb
               have hm0 : m = [] := List.eq_nil_of_length_eq_zero (by omega)
               subst hm0
               exact ⟨.inr ⟨⟨hw, hMs⟩, _, rfl, by rw [← List.append_assoc]; exact wb⟩, o0⟩)
        · intro hc34
          try simp only [decide_eq_true_eq, decide_eq_false_iff_not, Bool.not_eq_true', Bool.not_eq_false', Bool.and_eq_true, Bool.or_eq_false_iff] at hc34
          have hM : Isp.May (xs.getD k default) := hbM.1 (by simpa using hc34)
          refine KC.skip ?_
          refine KQ.seq ?_
          refine KC.region ?_
          refine KL.op (R.move rfl rfl) rfl rfl rfl ?_
          refine KL.op (R.loadAgg rfl Try.underlying36 rfl sz36 rfl (by first | exact cells_of b9x | exact cells_of b9x | assumption) rfl) rfl rfl rfl ?_
          refine KL.call rfl rfl rfl rfl Try.call19 rfl rfl rfl (put_any aw.wb (by omega) hxr (by omega) (by rw [List.length_append]; omega) (fun H2 kk => hcl0.old (o0.then kk (Nat.le_refl _))) hM) ?_
          rintro vp H8 ⟨wp, gq, nq⟩
          have obq := gq.oldB aw.wb (by omega)
          have aw := aw.put wp gq nq
          have zas := aw.sz
          have z_obq := obq.1
          have o0 := o0.then obq (by omega)
          refine KL.op (R.assign rfl rfl) rfl rfl rfl ?_
          refine KL.nil ?_
          refine KQ.normBlock ?_
          refine KQ.seq ?_
          refine KC.region ?_
          refine KL.op ((R.add rfl rfl rfl (by dsimp only [InR]; omega)).val (congrArg (Value.int .i64) (show (k : Int) + 1 = ((k + 1 : Nat) : Int) by omega))) rfl rfl rfl ?_
          refine KL.op (R.move rfl rfl) rfl rfl rfl ?_
          refine KL.nil ?_
          refine KQ.again ((k + 1, vp, vm2, m2)) ?_ ?_ ?_
          · exact (Sub.cons rfl (Sub.cons rfl (Ext.sub (by repeat (first | exact Ext.refl _ _ | refine Ext.put rfl ?_ | refine Ext.drop rfl ?_)))))
          · show xs.length - (k + 1) < xs.length - k; omega
          · exact ⟨by show k + 1 ≤ _; omega, by dsimp only; rw [Isp.flat_step (by omega), ← List.append_assoc]; exact aw, Isp.walk_step (by omega) hw hnx, by
              dsimp only
              intro x hx
              rw [List.take_add_one, List.getElem?_eq_getElem (by omega)] at hx
              rcases List.mem_append.1 hx with hx | hx
              · exact hMs x hx
              · simp only [Option.toList_some, List.mem_cons, List.not_mem_nil, or_false] at hx; subst hx
                have : xs.getD k default = xs[k] := by rw [List.getD_eq_getElem?_getD, List.getElem?_eq_getElem (by omega)]; rfl
                rw [← this]; exact hM, by omega, o0⟩
    · intro hc17
      try simp only [decide_eq_true_eq, decide_eq_false_iff_not, Bool.not_eq_true', Bool.not_eq_false', Bool.and_eq_true, Bool.or_eq_false_iff] at hc17
      refine KC.exit ?_
      refine KQ.exitThen ?_
      refine KQ.exitThen ?_
      refine KQ.hit ?_
      refine KQ.seq ?_
      refine KC.seq ?_
      refine KC.seq ?_
      refine KC.region ?_
      refine KL.op (R.load rfl Try.underlying48 rfl rfl (by first | exact cell_of b9x rfl | exact cell_of aw.bm rfl | assumption)) rfl rfl rfl ?_
      refine KL.op (R.lenO rfl Try.underlying48 rfl aw.wm) rfl rfl rfl ?_
      refine KL.op (R.gtr rfl rfl rfl) rfl rfl rfl ?_
      refine KL.nil ?_
      refine KQ.seq ?_
      refine KC.iteL rfl ?_ ?_
      · intro hc41
        try simp only [decide_eq_true_eq, decide_eq_false_iff_not, Bool.not_eq_true', Bool.not_eq_false', Bool.and_eq_true, Bool.or_eq_false_iff] at hc41
        refine KC.seq ?_
        refine KC.region ?_
        refine KL.op (R.assign rfl rfl) rfl rfl rfl ?_
        refine KL.op (R.assign rfl rfl) rfl rfl rfl ?_
        refine KL.nil ?_
        refine KQ.seq ?_
        refine KC.ret ?_
        refine KQ.retThen ?_
        refine KQ.ofRet ?_
        refine KQ.fin2 Try.results8 rfl rfl ?_
        first
          | exact ⟨.inl ⟨fun h => absurd (h.1.symm.trans (Isp.walk_stop (k := k) (by omega) hw hst)) (by simp), rfl⟩, o0⟩
          | exact ⟨.inl ⟨fun h => absurd h.2 (Isp.may_no (k := k) (by omega) hnM), rfl⟩, o0⟩
          | (have hkl : k = xs.length := by omega
             rw [hkl, List.take_length] at hw
             exact ⟨.inl ⟨fun h => by have e := h.1.symm.trans hw; injection e with e; subst e; simp at *, rfl⟩, o0⟩)
          | (have hkl : k = xs.length := by omega
             rw [hkl, List.take_length] at hw hMs wb
             have hm0 : m = [] := List.eq_nil_of_length_eq_zero (by omega)
             subst hm0
             exact ⟨.inr ⟨⟨hw, hMs⟩, _, rfl, by rw [← List.append_assoc]; exact wb⟩, o0⟩)
      · intro hc41
        try simp only [decide_eq_true_eq, decide_eq_false_iff_not, Bool.not_eq_true', Bool.not_eq_false', Bool.and_eq_true, Bool.or_eq_false_iff] at hc41
        have wb := aw.wb
        refine KC.skip ?_
        refine KQ.seq ?_
        refine KC.seq ?_
        refine KC.region ?_
        refine KL.op (R.move rfl rfl) rfl rfl rfl ?_
        refine KL.opM (M.lit rfl Try.underlying23 zs5 (by decide) rfl rfl rfl) rfl rfl rfl ?_
        rintro _ H9 ⟨rfl, n9⟩
        have z9 := n9.2.1
        have o0 := o0.trans n9.1
        have aw := aw.old n9.1
        have b9 := n9.2.2
        have wb := aw.wb
        have h11 : Sl 1 (EInt .u8) H9 _ [11] := Sl.lits (l := [11]) n9 rfl (by simp) (by decide)
        have lt10 := wb.lt
        refine KL.opM (M.append rfl Try.underlying23 inf5 rfl (by decide) rfl rfl wb (by exact h11) (fun _ _ h _ => h) (by omega) (by simp only [List.length_append, List.length_cons, List.length_nil]; omega) (by unfold maxLen; simp only [List.length_append, List.length_cons, List.length_nil]; omega)) rfl rfl rfl ?_
        rintro vz H10 ⟨w10, g10⟩
        try dsimp only at g10
        have ob10 := g10.oldB wb (by omega)
        have o0 := o0.then ob10 (by omega)
        have z10 := ob10.1
        have wb := w10
        refine KL.op (R.assign rfl rfl) rfl rfl rfl ?_
        refine KL.op (R.assign rfl rfl) rfl rfl rfl ?_
        refine KL.nil ?_
        refine KQ.seq ?_
        refine KC.ret ?_
        refine KQ.ofRet ?_
        refine KQ.fin2 Try.results8 rfl rfl ?_
        first
          | exact ⟨.inl ⟨fun h => absurd (h.1.symm.trans (Isp.walk_stop (k := k) (by omega) hw hst)) (by simp), rfl⟩, o0⟩
          | exact ⟨.inl ⟨fun h => absurd h.2 (Isp.may_no (k := k) (by omega) hnM), rfl⟩, o0⟩
          | (have hkl : k = xs.length := by omega
             rw [hkl, List.take_length] at hw
             exact ⟨.inl ⟨fun h => by have e := h.1.symm.trans hw; injection e with e; subst e; simp at *, rfl⟩, o0⟩)
          | (have hkl : k = xs.length := by omega
             rw [hkl, List.take_length] at hw hMs wb
             have hm0 : m = [] := List.eq_nil_of_length_eq_zero (by omega)
             subst hm0
             exact ⟨.inr ⟨⟨hw, hMs⟩, _, rfl, by rw [← List.append_assoc]; exact wb⟩, o0⟩)

end Go.Proofs.Ytnjodpgahbpiaaa
