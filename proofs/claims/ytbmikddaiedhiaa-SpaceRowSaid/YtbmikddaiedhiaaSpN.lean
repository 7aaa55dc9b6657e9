/- The space of a module. No condition but sizes. -/
import Derived.Test.YtbmikddaiedhiaaSpM
namespace Go.Proofs.Ytbmikddaiedhiaa
open Go Go.RowKit
set_option linter.unusedVariables false
set_option linter.unusedSimpArgs false
set_option linter.unnecessarySimpa false

theorem len2 {cs : List Value} (h : cs.length = 2) : ∃ a b, cs = [a, b] := by
  match cs, h with
  | [a, b], _ => exact ⟨a, b, rfl⟩
theorem cells_mid {H : Heap} {g k n : Nat} {cs : List Value} {t : TypeId} {z : Nat × Nat} (hb : H[g]? = some (.cells cs.toArray t z)) : CellsH H ⟨g, k, none⟩ ((cs.drop k).take n) := by
  intro i v hv
  rw [nth_eq] at hv
  have hi := (List.getElem?_eq_some_iff.1 hv).1
  rw [List.length_take, List.length_drop] at hi
  rw [List.getElem?_take_of_lt (by omega), List.getElem?_drop] at hv
  have e : (⟨g, k, none⟩ : Addr).add i = ⟨g, k + i, none⟩ := by simp [Addr.add]
  rw [e]
  exact cell_of (g := g) (i := k + i) hb (by rw [nth_eq]; exact hv)
theorem ety_of {H1 H : Heap} {gs : List Nat} {c0 c1 : Value} {types : List FTy} {t : Nat} (h : (t < types.length ∧ FK EFTy H1 gs H [c0, c1] (types.getD t default)) ∨ (¬ t < types.length ∧ [c0, c1] = [.slice none 0 0, .slice none 0 0])) (H' : Heap) : FK ETy H1 gs H' [c0, c1, .bool (decide (t < types.length))] (fnTy types t) := by
  intro H2 k
  rcases h with ⟨h1, h2⟩ | ⟨h1, h2⟩
  · obtain ⟨v, w, e, q1, q2⟩ := h2 H2 k
    cases e
    rw [fnTy_in h1, decide_eq_true h1]
    exact ⟨_, _, rfl, q1, q2⟩
  · cases h2
    rw [fnTy_out (by omega), decide_eq_false h1]
    exact ⟨_, _, rfl, Sl.nil _ _ _, Sl.nil _ _ _⟩
theorem fnsOf_getD {m : Mo} {k : Nat} (h : k < (fnL m).length) : (fnsOf m).getD k default = fnTy m.types ((fnL m).getD k default).toNat := getD_mapI h
theorem fnsOf_len (m : Mo) : (fnsOf m).length = (fnL m).length := by simp [fnsOf]
theorem map_take_succ {α β : Type} [Inhabited α] {l : List α} {f : α → β} {k : Nat} (h : k < l.length) : (l.take (k + 1)).map f = (l.take k).map f ++ [f (l.getD k default)] := by
  rw [take_succ h, List.map_append]; rfl

set_option maxRecDepth 100000 in
set_option maxHeartbeats 4000000 in
theorem Of_any {H : Heap} {v0 v1 v2 v3 v4 v5 v6 v7 v8 v9 va vb : Value} {m : Mo} (mv : MV H v0 v1 v2 v3 v4 v5 v6 v7 v8 v9 va vb m) (hsm : m.Small) : Ct Try.prog 10 [.agg [v0, v1, v2, v3, v4, v5, v6, v7, v8, v9, va, vb].toArray] H (fun u H' => ∃ g vt vf vg wa vm ve, u = .pointer (some ⟨g, 0, none⟩) ∧ SP H' g vt vf vg wa vm ve (spcOf m) ∧ H.size ≤ g ∧ Old H H') := by
  refine Ct.mk Try.func10 rfl Try.ntmps10 rfl ?_
  intro W0 hW0
  have o0 : Old H H := Old.refl H
  refine KC.seq ?_
  refine KC.region ?_
  refine KL.opM (M.box rfl rfl rfl) rfl rfl rfl ?_
  rintro _ H1 ⟨rfl, n1⟩
  have z1 := n1.2.1
  have o0 := o0.trans n1.1
  have b1 := n1.2.2
  have bx := b1
  refine KL.op (R.assign rfl rfl) rfl rfl rfl ?_
  refine KL.nil ?_
  refine KQ.seq ?_
  refine KC.seq ?_
  refine KC.region ?_
  refine KL.op ((by first | exact R.fieldAddr rfl Try.underlying38 rfl rfl sz32 rfl | exact R.fieldAddrP rfl Try.underlying38 rfl rfl sz32 rfl)) rfl rfl rfl ?_
  refine KL.op (R.load rfl Try.underlying32 rfl rfl (by first | exact cell_of fs.b rfl | exact cell_of bx rfl | assumption)) rfl rfl rfl ?_
  refine KL.call rfl rfl rfl rfl Try.call27 rfl rfl rfl (CloneE_any (mv.e.old o0) (by have := hsm.e; omega)) ?_
  rintro ve H2 ⟨we, ox⟩
  have zc_H2 := (ox).1
  have o0 := o0.trans ox
  have bx := (ox).blk bx
  have hve := we.lt
  refine KL.op (R.buildL rfl Try.underlying74 zr74 [(0, 1), (1, 1), (2, 1), (3, 1), (4, 1), (5, 4), (9, 1)] (fun w => by kernel_rfl) rfl ⟨⟨_, rfl, rfl⟩, trivial⟩ rfl rfl ⟨⟨_, rfl, by first | rfl | exact we.cells1⟩, trivial⟩ rfl) rfl rfl rfl ?_
  have weP := we
  have oE : OldB (Array.size H2) H2 H2 := OldB.refl _ _
  refine KL.opM (M.box rfl rfl rfl) rfl rfl rfl ?_
  rintro _ H3 ⟨rfl, n3⟩
  have z3 := n3.2.1
  have o0 := o0.trans n3.1
  have bx := (n3.1).blk bx
  have oE := oE.trans ((n3.1).b (by omega))
  have b3 := n3.2.2
  have bg := b3
  refine KL.op (R.assign rfl rfl) rfl rfl rfl ?_
  refine KL.nil ?_
  refine KQ.seq ?_
  refine KC.seq ?_
  refine KC.seq ?_
  refine KC.region ?_
  refine KL.op ((by first | exact R.fieldAddr rfl Try.underlying38 rfl rfl sz27 rfl | exact R.fieldAddrP rfl Try.underlying38 rfl rfl sz27 rfl)) rfl rfl rfl ?_
  refine KL.op (R.load rfl Try.underlying27 rfl rfl (by first | exact cell_of fs.b rfl | exact cell_of bx rfl | exact cell_of bg rfl | assumption)) rfl rfl rfl ?_
  refine KL.op (R.lenS rfl Try.underlying27 rfl mv.t) rfl rfl rfl ?_
  refine KL.op (R.move rfl rfl) rfl rfl rfl ?_
  refine KL.nil ?_
  refine KQ.seq ?_
  refine KC.block ?_
  refine KC.loopD (κ := Nat × Value) [34, 35, 36, 5, 37, 38, 39, 40, 41, 42, 43, 44, 45, 46, 47, 48, 33] (fun k => [(33, .int .i64 (k.1 : Nat))]) (fun k Hl => k.1 ≤ m.types.length ∧ Old H Hl ∧ Hl[Array.size H]? = some (.cells [v0, v1, v2, v3, v4, v5, v6, v7, v8, v9, va, vb].toArray 38 (0, 0)) ∧ Hl[(Array.size H2)]? = some (.cells [k.2, .slice none 0 0, .slice none 0 0, .slice none 0 0, .slice none 0 0, .int .i64 0, .int .i64 0, .int .i64 0, .int .i64 0, ve].toArray 74 (0, 0)) ∧ OwnE 2 EFTy 24 ((Array.size H2) + 1) Hl k.2 [(Array.size H2)] (m.types.take k.1) ∧ OldB (Array.size H2) H2 Hl) (fun k => m.types.length - k.1) (0, .slice none 0 0) ?_ ?_ ?_
  · exact (Sub.cons rfl (Ext.sub (Ext.refl _ _)))
  · exact ⟨Nat.zero_le _, o0, bx, bg, OwnE.nil _ _ _ _ _ _, oE⟩
  · rintro ⟨k, vt⟩ H4 ⟨hk, o0, bx, bg, wt, oE⟩
    have zl_H4 := o0.1
    dsimp only at hk bg wt
    have zb := blk_lt bg
    have ht4 := hsm.t.1
    refine KC.seq ?_
    refine KC.region ?_
    refine KL.op (R.lss rfl rfl rfl) rfl rfl rfl ?_
    refine KL.nil ?_
    refine KQ.seq ?_
    refine KC.seq ?_
    refine KC.iteL rfl ?_ ?_
    · intro hc34
      try simp only [decide_eq_true_eq, decide_eq_false_iff_not, Bool.not_eq_true', Bool.not_eq_false', Bool.and_eq_true, Bool.or_eq_false_iff] at hc34
      obtain ⟨cs, hcl, hcx, v1, w1, rfl, q1, q2⟩ := mv.t.ftyAt k (by omega)
      have hx4 : (m.types.getD k default).1.length ≤ 4000 ∧ (m.types.getD k default).2.length ≤ 4000 := hsm.t.2 _ (by rw [getD_lt (by omega)]; exact List.getElem_mem _)
      refine KC.skip ?_
      refine KQ.seq ?_
      refine KC.seq ?_
      refine KC.block ?_
      refine KC.seq ?_
      refine KC.region ?_
      refine KL.op (R.index (j := k) rfl Try.underlying27 sz24 rfl rfl mv.t rfl (by omega)) rfl rfl rfl ?_
      refine KL.op (R.loadAgg rfl Try.underlying24 rfl sz24 rfl (o0.cells hcx) rfl) rfl rfl rfl ?_
      have oP : Old H4 H4 := Old.refl _
      refine KL.opM (M.alloc rfl zr24 rfl) rfl rfl rfl ?_
      rintro _ H5 ⟨rfl, n5⟩
      have z5 := n5.2.1
      have o0 := o0.trans n5.1
      have bx := (n5.1).blk bx
      have bg := (n5.1).blk bg
      have oE := oE.trans ((n5.1).b (by omega))
      have oP := oP.trans n5.1
      have b5 := n5.2.2
      have bv := b5
      refine KL.opS (S.storeAgg rfl sz24 rfl rfl (rfl) (by intro u hu; simp only [List.mem_cons, List.not_mem_nil, or_false] at hu; rcases hu with rfl | rfl <;> first | exact q1.one | exact q2.one) bv (by simp)) rfl rfl ?_
      rintro H6 ⟨u6, b6⟩
      have o0 := o0.upd u6 (by omega)
      have zu6 := u6.1
      have bx := ((u6).2 _ (by omega)).trans bx
      have bg := ((u6).2 _ (by omega)).trans bg
      have oE := oE.trans (OldB.upd u6 (by omega))
      have oP := oP.upd u6 (by omega)
      have bv := b6
      rw [over_all (by rfl)] at bv
      have wt := wt.old oP
      refine KL.nil ?_
      refine KQ.seq ?_
      refine KC.text (clOf [(6, 2), (7, 2), (8, 2), (11, 2)]) (fun j Hc => (j = 4 → Hc[(Array.size H2)]? = some (.cells [vt, .slice none 0 0, .slice none 0 0, .slice none 0 0, .slice none 0 0, .int .i64 0, .int .i64 0, .int .i64 0, .int .i64 0, ve].toArray 74 (0, 0))) ∧ (j = 5 → Hc[(Array.size H4)]? = some (.cells [v1, w1].toArray 24 (0, 0)))) (by kernel_rfl) (by kernel_rfl) (fun _ => ⟨fun _ => bg, fun _ => bv⟩) ?_
      refine KP.op rfl (fun Hg hg => R.move rfl rfl) rfl rfl rfl ?_
      refine KP.op rfl (fun Hg hg => R.move rfl rfl) rfl rfl rfl ?_
      refine KP.op rfl (fun Hg hg => R.nilCheck rfl rfl) rfl rfl rfl ?_
      refine KP.op rfl (fun Hg hg => (by first | exact R.fieldAddr rfl Try.underlying74 rfl rfl sz27 rfl | exact R.fieldAddrP rfl Try.underlying74 rfl rfl sz27 rfl)) rfl rfl rfl ?_
      refine KP.op rfl (fun Hg hg => R.load rfl Try.underlying27 rfl rfl (cell_of (hg.1 rfl) rfl)) rfl rfl rfl ?_
      refine KP.op rfl (fun Hg hg => R.loadAgg rfl Try.underlying24 rfl sz24 rfl (cells_of (hg.2 rfl)) rfl) rfl rfl rfl ?_
      have hbt := OwnE.blt wt (by omega)
      have zbg := blk_lt bg
      refine KP.call rfl rfl rfl rfl rfl Try.call28 rfl rfl rfl (own_any (q1.old o0) (q2.old o0) (by omega)) (fun _ _ hR j _ _ => ⟨fun _ => hR.2.blk bg, fun _ => hR.2.blk bv⟩) ?_
      rintro _ H7 ⟨⟨vp, vr, rfl, wp, wr⟩, ox⟩
      have zc_H7 := (ox).1
      have o0 := o0.trans ox
      have bx := (ox).blk bx
      have bg := (ox).blk bg
      have oE := oE.trans ((ox).b (by omega))
      have bv := (ox).blk bv
      have wt := wt.old ox
      refine KP.opM rfl (M.lit rfl Try.underlying27 zs24 (by decide) rfl rfl rfl) rfl rfl rfl (fun _ _ hR j _ _ => ⟨fun _ => hR.2.1.blk bg, fun _ => hR.2.1.blk bv⟩) ?_
      rintro _ H8 ⟨rfl, n8⟩
      have z8 := n8.2.1
      have o0 := o0.trans n8.1
      have bx := (n8.1).blk bx
      have bg := (n8.1).blk bg
      have oE := oE.trans ((n8.1).b (by omega))
      have bv := (n8.1).blk bv
      have wt := wt.old n8.1
      have wp := wp.old n8.1
      have wr := wr.old n8.1
      have b8 := n8.2.2
      have se : Sl 2 (FK EFTy H8 (vblock vt :: [(Array.size H2)])) H8 _ [m.types.getD k default] := Sl.lit1N n8 rfl (by decide) (fun Hq kx => ⟨_, _, rfl, fk_own wp (by intro y hy; simp only [List.mem_cons, List.not_mem_nil, or_false] at hy; rcases hy with rfl | rfl <;> omega) Hq kx, fk_own wr (by intro y hy; simp only [List.mem_cons, List.not_mem_nil, or_false] at hy; rcases hy with rfl | rfl <;> omega) Hq kx⟩)
      have lt9 := wt.lt
      refine KP.opM rfl (M.appendE rfl Try.underlying27 inf24 rfl (by decide) rfl rfl wt (se) (by omega) (by simp only [List.length_take, List.length_singleton]; omega) (by unfold maxLen; simp only [List.length_take, List.length_singleton]; omega)) rfl rfl rfl (fun _ _ hR j _ hj2 => ⟨fun hj => by subst hj; exact absurd (by decide +kernel) hj2, fun hj => by subst hj; exact absurd (by decide +kernel) hj2⟩) ?_
      rintro vn H9 ⟨w9, g9, nx9⟩
      try dsimp only at g9 nx9
      have ob9 := g9.oldBE wt (by omega)
      have o0 := o0.then ob9 (by omega)
      have z9 := ob9.1
      have bx := (g9.2 _ (blk_lt bx) (by first | exact .inr (by omega) | exact .inl rfl | exact hve.imp id (fun h => by omega) | exact lt9.imp id (fun h => by omega))).trans bx
      have bg := (g9.2 _ (blk_lt bg) (by first | exact .inr (by omega) | exact .inl rfl | exact hve.imp id (fun h => by omega) | exact lt9.imp id (fun h => by omega))).trans bg
      have oE := oE.trans (ob9.mono (by omega))
      have wt := w9
      refine KP.op rfl (fun Hg hg => R.nilCheck rfl rfl) rfl rfl rfl ?_
      refine KP.op rfl (fun Hg hg => (by first | exact R.fieldAddr rfl Try.underlying74 rfl rfl sz27 rfl | exact R.fieldAddrP rfl Try.underlying74 rfl rfl sz27 rfl)) rfl rfl rfl ?_
      refine KP.opS rfl (S.store rfl sz27 rfl rfl (OwnE.own wt).cells1 (OwnE.own wt).one bg (by simp)) rfl rfl (fun _ h j hj1 hj2 => ⟨fun hj => by subst hj; exact absurd (by decide +kernel) hj2, fun hj => by subst hj; exact absurd (by decide +kernel) hj2⟩) ?_
      rintro H10 ⟨u10, b10⟩
      have o0 := o0.upd u10 (by omega)
      have zu10 := u10.1
      have bx := ((u10).2 _ (by omega)).trans bx
      have oE := oE.trans (OldB.upd u10 (by omega))
      have wt := wt.upd u10 (by simp) (by first | exact .inr (by omega) | exact wt.lt.imp id (fun h => by omega))
      have bg := b10
      have bg : H10[(Array.size H2)]? = some (.cells [vn, .slice none 0 0, .slice none 0 0, .slice none 0 0, .slice none 0 0, .int .i64 0, .int .i64 0, .int .i64 0, .int .i64 0, ve].toArray 74 (0, 0)) := bg
      refine KP.nil ?_
      refine KQ.normBlock ?_
      refine KQ.seq ?_
      refine KC.region ?_
      refine KL.op ((R.add rfl rfl rfl (by dsimp only [InR]; omega)).val (congrArg (Value.int .i64) (show (k : Int) + 1 = ((k + 1 : Nat) : Int) by omega))) rfl rfl rfl ?_
      refine KL.op (R.move rfl rfl) rfl rfl rfl ?_
      refine KL.nil ?_
      refine KQ.again ((k + 1, vn)) ?_ ?_ ?_
      · exact (Sub.cons rfl (Ext.sub (by repeat (first | exact Ext.refl _ _ | refine Ext.put rfl ?_ | refine Ext.drop rfl ?_))))
      · show m.types.length - (k + 1) < m.types.length - k; omega
      · exact ⟨by show k + 1 ≤ _; omega, o0, bx, bg, by dsimp only; rw [take_succ (by omega)]; exact wt, oE⟩
    · intro hc34
      try simp only [decide_eq_true_eq, decide_eq_false_iff_not, Bool.not_eq_true', Bool.not_eq_false', Bool.and_eq_true, Bool.or_eq_false_iff] at hc34
      have hkl : k = m.types.length := by omega
      rw [hkl, List.take_length] at wt
      have hvt := OwnE.lt wt
      refine KC.exit ?_
      refine KQ.exitThen ?_
      refine KQ.exitThen ?_
      refine KQ.hit ?_
      refine KQ.seq ?_
      refine KC.seq ?_
      refine KC.text (clOf [(2, 2), (5, 2), (8, 2), (11, 2)]) (fun j Hc => (j = 1 ∨ j = 4 ∨ j = 7 ∨ j = 10) → Hc[Array.size H]? = some (.cells [v0, v1, v2, v3, v4, v5, v6, v7, v8, v9, va, vb].toArray 38 (0, 0))) (by kernel_rfl) (by kernel_rfl) (fun _ _ => bx) ?_
      refine KP.op rfl (fun Hg hg => (by first | exact R.fieldAddr rfl Try.underlying38 rfl rfl sz28 rfl | exact R.fieldAddrP rfl Try.underlying38 rfl rfl sz28 rfl)) rfl rfl rfl ?_
      refine KP.op rfl (fun Hg hg => R.load rfl Try.underlying28 rfl rfl (cell_of (hg (by simp)) rfl)) rfl rfl rfl ?_
      have zbg := blk_lt bg
      refine KP.call rfl rfl rfl rfl rfl Try.call29 rfl rfl rfl (of_0 (mv.i.old o0) (by have := hsm.i; omega)) (fun _ _ hR j _ _ _ => hR.2.blk bx) ?_
      rintro xi0 H11 ⟨wi0, ox⟩
      have zc_H11 := (ox).1
      have o0 := o0.trans ox
      have bx := (ox).blk bx
      have bg := (ox).blk bg
      have wt := wt.old ox
      have oE := oE.trans ((ox).b (by omega))
      have hw0 := wi0.lt
      refine KP.op rfl (fun Hg hg => (by first | exact R.fieldAddr rfl Try.underlying38 rfl rfl sz28 rfl | exact R.fieldAddrP rfl Try.underlying38 rfl rfl sz28 rfl)) rfl rfl rfl ?_
      refine KP.op rfl (fun Hg hg => R.load rfl Try.underlying28 rfl rfl (cell_of (hg (by simp)) rfl)) rfl rfl rfl ?_
      have zbg := blk_lt bg
      refine KP.call rfl rfl rfl rfl rfl Try.call29 rfl rfl rfl (of_1 (mv.i.old o0) (by have := hsm.i; omega)) (fun _ _ hR j _ _ _ => hR.2.blk bx) ?_
      rintro xi1 H12 ⟨wi1, ox⟩
      have zc_H12 := (ox).1
      have o0 := o0.trans ox
      have bx := (ox).blk bx
      have bg := (ox).blk bg
      have wt := wt.old ox
      have oE := oE.trans ((ox).b (by omega))
      have wi0 := wi0.old ox
      have hw1 := wi1.lt
      refine KP.op rfl (fun Hg hg => (by first | exact R.fieldAddr rfl Try.underlying38 rfl rfl sz28 rfl | exact R.fieldAddrP rfl Try.underlying38 rfl rfl sz28 rfl)) rfl rfl rfl ?_
      refine KP.op rfl (fun Hg hg => R.load rfl Try.underlying28 rfl rfl (cell_of (hg (by simp)) rfl)) rfl rfl rfl ?_
      have zbg := blk_lt bg
      refine KP.call rfl rfl rfl rfl rfl Try.call29 rfl rfl rfl (of_2 (mv.i.old o0) (by have := hsm.i; omega)) (fun _ _ hR j _ _ _ => hR.2.blk bx) ?_
      rintro xi2 H13 ⟨wi2, ox⟩
      have zc_H13 := (ox).1
      have o0 := o0.trans ox
      have bx := (ox).blk bx
      have bg := (ox).blk bg
      have wt := wt.old ox
      have oE := oE.trans ((ox).b (by omega))
      have wi0 := wi0.old ox
      have wi1 := wi1.old ox
      have hw2 := wi2.lt
      refine KP.op rfl (fun Hg hg => (by first | exact R.fieldAddr rfl Try.underlying38 rfl rfl sz28 rfl | exact R.fieldAddrP rfl Try.underlying38 rfl rfl sz28 rfl)) rfl rfl rfl ?_
      refine KP.op rfl (fun Hg hg => R.load rfl Try.underlying28 rfl rfl (cell_of (hg (by simp)) rfl)) rfl rfl rfl ?_
      have zbg := blk_lt bg
      refine KP.call rfl rfl rfl rfl rfl Try.call29 rfl rfl rfl (of_3 (mv.i.old o0) (by have := hsm.i; omega)) (fun _ _ hR j _ _ _ => hR.2.blk bx) ?_
      rintro xi3 H14 ⟨wi3, ox⟩
      have zc_H14 := (ox).1
      have o0 := o0.trans ox
      have bx := (ox).blk bx
      have bg := (ox).blk bg
      have wt := wt.old ox
      have oE := oE.trans ((ox).b (by omega))
      have wi0 := wi0.old ox
      have wi1 := wi1.old ox
      have wi2 := wi2.old ox
      have hw3 := wi3.lt
      refine KP.op rfl (fun Hg hg => R.assign rfl rfl) rfl rfl rfl ?_
      refine KP.op rfl (fun Hg hg => R.assign rfl rfl) rfl rfl rfl ?_
      refine KP.op rfl (fun Hg hg => R.assign rfl rfl) rfl rfl rfl ?_
      refine KP.op rfl (fun Hg hg => R.assign rfl rfl) rfl rfl rfl ?_
      refine KP.nil ?_
      have hvtg : vt = .slice none 0 0 ∨ vblock vt ≠ (Array.size H2) := hvt.imp id (fun e => by omega)
      have pT9 := wt.lasts (by decide) hvtg
      have we9 := weP.keepN (H' := H14) (weP.lt.imp id (fun e => oE.2 _ e.2))
      have pE9 := we9.lasts inferInstance (fun _ _ _ _ h => h) (by decide) (hve.imp id (fun e => show vblock ve ≠ (Array.size H2) by omega))
      have p0 := wi0.lasts inferInstance (fun _ _ _ _ h => h) (by decide) (hw0.imp id (fun e => show vblock xi0 ≠ (Array.size H2) by omega))
      have p1 := wi1.lasts inferInstance (fun _ _ _ _ h => h) (by decide) (hw1.imp id (fun e => show vblock xi1 ≠ (Array.size H2) by omega))
      have p2 := wi2.lasts inferInstance (fun _ _ _ _ h => h) (by decide) (hw2.imp id (fun e => show vblock xi2 ≠ (Array.size H2) by omega))
      have p3 := wi3.lasts inferInstance (fun _ _ _ _ h => h) (by decide) (hw3.imp id (fun e => show vblock xi3 ≠ (Array.size H2) by omega))
      have bs : BS H14 H14 (Array.size H2) vt ve (.slice none 0 0) 0 0 0 0 [] := ⟨bg, KeepX.refl _ _, blk_lt bg, Own.nil _ _ _ _ _ _⟩
      refine KQ.seq ?_
      refine KC.seq ?_
      refine KC.region ?_
      refine KL.op (R.move rfl rfl) rfl rfl rfl ?_
      refine KL.op (R.move rfl rfl) rfl rfl rfl ?_
      refine KL.op (R.lenO rfl Try.underlying28 rfl wi0) rfl rfl rfl ?_
      refine KL.op (R.move rfl rfl) rfl rfl rfl ?_
      refine KL.op (R.lenO rfl Try.underlying28 rfl wi1) rfl rfl rfl ?_
      refine KL.op (R.move rfl rfl) rfl rfl rfl ?_
      refine KL.op (R.lenO rfl Try.underlying28 rfl wi2) rfl rfl rfl ?_
      refine KL.op (R.move rfl rfl) rfl rfl rfl ?_
      refine KL.op (R.lenO rfl Try.underlying28 rfl wi3) rfl rfl rfl ?_
      refine KL.op (R.buildArrL rfl Try.underlying72 zr72 sz3 rfl rfl rfl (by kernel_rfl) rfl) rfl rfl rfl ?_
      refine KL.op (R.nilCheck rfl rfl) rfl rfl rfl ?_
      refine KL.op ((by first | exact R.fieldAddr rfl Try.underlying74 rfl rfl sz72 rfl | exact R.fieldAddrP rfl Try.underlying74 rfl rfl sz72 rfl)) rfl rfl rfl ?_
      refine KL.opS (S.storeAgg (us := [.int .i64 ((ofK 0 m.imports).length : Nat), .int .i64 ((ofK 1 m.imports).length : Nat), .int .i64 ((ofK 2 m.imports).length : Nat), .int .i64 ((ofK 3 m.imports).length : Nat)]) rfl sz72 rfl rfl (rfl) (by intro u hu; simp only [List.mem_cons, List.not_mem_nil, or_false] at hu; rcases hu with rfl | rfl | rfl | rfl <;> rfl) bg (by simp)) rfl rfl ?_
      rintro H15 ⟨u15, b15⟩
      have o0 := o0.upd u15 (by omega)
      have zu15 := u15.1
      have bx := ((u15).2 _ (by omega)).trans bx
      have wt := wt.upd u15 (by simp) (by first | exact .inr (by omega) | exact wt.lt.imp id (fun h => by omega))
      have oE := oE.trans (OldB.upd u15 (by omega))
      have wi0 := wi0.upd u15 (by first | exact .inl rfl | exact .inr (by omega) | exact hve.imp id (fun h => by omega) | exact wi0.lt.imp id (fun h => by omega))
      have wi1 := wi1.upd u15 (by first | exact .inl rfl | exact .inr (by omega) | exact hve.imp id (fun h => by omega) | exact wi1.lt.imp id (fun h => by omega))
      have wi2 := wi2.upd u15 (by first | exact .inl rfl | exact .inr (by omega) | exact hve.imp id (fun h => by omega) | exact wi2.lt.imp id (fun h => by omega))
      have wi3 := wi3.upd u15 (by first | exact .inl rfl | exact .inr (by omega) | exact hve.imp id (fun h => by omega) | exact wi3.lt.imp id (fun h => by omega))
      have bg := b15
      have bg : H15[(Array.size H2)]? = some (.cells [vt, .slice none 0 0, .slice none 0 0, .slice none 0 0, .slice none 0 0, .int .i64 ((ofK 0 m.imports).length : Nat), .int .i64 ((ofK 1 m.imports).length : Nat), .int .i64 ((ofK 2 m.imports).length : Nat), .int .i64 ((ofK 3 m.imports).length : Nat), ve].toArray 74 (0, 0)) := bg
      have bs : BS H14 H15 (Array.size H2) vt ve (.slice none 0 0) (ofK 0 m.imports).length (ofK 1 m.imports).length (ofK 2 m.imports).length (ofK 3 m.imports).length [] := ⟨bg, bs.k.updR u15, bs.hg, Own.nil _ _ _ _ _ _⟩
      have zbs := bs.sz
      have hi4 := hsm.i
      have ho0 := ofK_len (k := 0) (l := m.imports)
      have ho1 := ofK_len (k := 1) (l := m.imports)
      have ho2 := ofK_len (k := 2) (l := m.imports)
      have ho3 := ofK_len (k := 3) (l := m.imports)
      refine KL.nil ?_
      refine KQ.seq ?_
      refine KC.seq ?_
      refine KC.region ?_
      refine KL.op (R.assign rfl rfl) rfl rfl rfl ?_
      refine KL.nil ?_
      refine KQ.seq ?_
      refine KC.seq ?_
      refine KC.seq ?_
      refine KC.region ?_
      refine KL.op (R.move rfl rfl) rfl rfl rfl ?_
      refine KL.op (R.lenO rfl Try.underlying28 rfl wi0) rfl rfl rfl ?_
      refine KL.op (R.move rfl rfl) rfl rfl rfl ?_
      refine KL.nil ?_
      refine KQ.seq ?_
      refine KC.block ?_
      refine KC.loopD (κ := Nat × Value) [76, 77, 78, 12, 79, 80, 81, 82, 83, 10, 84, 75] (fun k => [(75, .int .i64 (k.1 : Nat)), (10, k.2)]) (fun k Hl => k.1 ≤ (ofK 0 m.imports).length ∧ Old H Hl ∧ Hl[Array.size H]? = some (.cells [v0, v1, v2, v3, v4, v5, v6, v7, v8, v9, va, vb].toArray 38 (0, 0)) ∧ BS H14 Hl (Array.size H2) vt ve k.2 (ofK 0 m.imports).length (ofK 1 m.imports).length (ofK 2 m.imports).length (ofK 3 m.imports).length (((ofK 0 m.imports).take k.1).map (·.ty))) (fun k => (ofK 0 m.imports).length - k.1) (0, .slice none 0 0) ?_ ?_ ?_
      · exact (Sub.cons rfl (Sub.cons rfl (Ext.sub (Ext.refl _ _))))
      · exact ⟨Nat.zero_le _, o0, bx, bs⟩
      · rintro ⟨k, vl⟩ H16 ⟨hk, o0, bx, bs⟩
        have zl_H16 := o0.1
        dsimp only at hk bs
        have zbs := bs.sz
        refine KC.seq ?_
        refine KC.region ?_
        refine KL.op (R.lss rfl rfl rfl) rfl rfl rfl ?_
        refine KL.nil ?_
        refine KQ.seq ?_
        refine KC.seq ?_
        refine KC.iteL rfl ?_ ?_
        · intro hc76
          try simp only [decide_eq_true_eq, decide_eq_false_iff_not, Bool.not_eq_true', Bool.not_eq_false', Bool.and_eq_true, Bool.or_eq_false_iff] at hc76
          obtain ⟨hcx, hxr⟩ := (p0 _ bs.k).impAt k (by omega)
          refine KC.skip ?_
          refine KQ.seq ?_
          refine KC.seq ?_
          refine KC.block ?_
          refine KC.seq ?_
          refine KC.region ?_
          refine KL.op (R.index (j := k) rfl Try.underlying28 sz63 rfl rfl (p0 _ bs.k) rfl (by omega)) rfl rfl rfl ?_
          refine KL.op (R.loadAgg (cs := ((ofK 0 m.imports).getD k default).cells) rfl Try.underlying63 rfl sz63 rfl hcx rfl) rfl rfl rfl ?_
          have oP : Old H16 H16 := Old.refl _
          refine KL.opM (M.alloc rfl zr63 rfl) rfl rfl rfl ?_
          rintro _ H17 ⟨rfl, n17⟩
          have z17 := n17.2.1
          have o0 := o0.trans n17.1
          have bx := (n17.1).blk bx
          have oP := oP.trans n17.1
          have b17 := n17.2.2
          have bv := b17
          refine KL.opS (S.storeAgg (us := ((ofK 0 m.imports).getD k default).cells) rfl sz63 rfl rfl (rfl) (by exact kind_one) bv (by simp [Imp.cells])) rfl rfl ?_
          rintro H18 ⟨u18, b18⟩
          have o0 := o0.upd u18 (by omega)
          have zu18 := u18.1
          have bx := ((u18).2 _ (by omega)).trans bx
          have oP := oP.upd u18 (by omega)
          have bv := b18
          rw [over_all (by rfl)] at bv
          have bs := bs.old oP
          refine KL.nil ?_
          refine KQ.seq ?_
          refine KC.region ?_
          refine KL.op (R.move rfl rfl) rfl rfl rfl ?_
          refine KL.op ((by first | exact R.fieldAddr rfl Try.underlying63 rfl rfl sz33 rfl | exact R.fieldAddrP rfl Try.underlying63 rfl rfl sz33 rfl)) rfl rfl rfl ?_
          refine KL.op (R.load rfl Try.underlying33 rfl rfl (by first | exact cell_of fs.b rfl | exact cell_of bx rfl | exact cell_of bv rfl | assumption)) rfl rfl rfl ?_
          refine KL.opM (M.lit rfl Try.underlying29 zs33 (by decide) rfl rfl rfl) rfl rfl rfl ?_
          rintro _ H19 ⟨rfl, n19⟩
          have z19 := n19.2.1
          have o0 := o0.trans n19.1
          have bx := (n19.1).blk bx
          have bv := (n19.1).blk bv
          have bs := bs.old n19.1
          have b19 := n19.2.2
          have se : Sl 1 (EInt .u32) H19 _ [((ofK 0 m.imports).getD k default).ty] := Sl.lits (l := [((ofK 0 m.imports).getD k default).ty]) n19 rfl (by simp) (by intro y hy; simp only [List.mem_cons, List.not_mem_nil, or_false] at hy; subst hy; exact hxr.2.1)
          have wl := bs.l
          have zbs := bs.sz
          have lt20 := wl.lt
          refine KL.opM (M.append rfl Try.underlying29 inf33 rfl (by decide) rfl rfl wl (by exact se) (fun _ _ h _ => h) (by omega) (by simp only [List.length_map, List.length_take, List.length_singleton]; omega) (by unfold maxLen; simp only [List.length_map, List.length_take, List.length_singleton]; omega)) rfl rfl rfl ?_
          rintro vn H20 ⟨w20, g20⟩
          try dsimp only at g20
          have ob20 := g20.oldB wl (by omega)
          have o0 := o0.then ob20 (by omega)
          have z20 := ob20.1
          have bx := (g20.2 _ (blk_lt bx) (by first | exact .inr (by omega) | exact .inl rfl | exact hve.imp id (fun h => by omega) | exact lt20.imp id (fun h => by omega))).trans bx
          have wl := w20
          have bs := bs.app w20 g20
          refine KL.op (R.assign rfl rfl) rfl rfl rfl ?_
          refine KL.nil ?_
          refine KQ.normBlock ?_
          refine KQ.seq ?_
          refine KC.region ?_
          refine KL.op ((R.add rfl rfl rfl (by dsimp only [InR]; omega)).val (congrArg (Value.int .i64) (show (k : Int) + 1 = ((k + 1 : Nat) : Int) by omega))) rfl rfl rfl ?_
          refine KL.op (R.move rfl rfl) rfl rfl rfl ?_
          refine KL.nil ?_
          refine KQ.again ((k + 1, vn)) ?_ ?_ ?_
          · exact (Sub.cons rfl (Sub.cons rfl (Ext.sub (by repeat (first | exact Ext.refl _ _ | refine Ext.put rfl ?_ | refine Ext.drop rfl ?_)))))
          · show (ofK 0 m.imports).length - (k + 1) < (ofK 0 m.imports).length - k; omega
          · exact ⟨by show k + 1 ≤ _; omega, o0, bx, by dsimp only; rw [map_take_succ (by omega)]; exact bs⟩
        · intro hc76
          try simp only [decide_eq_true_eq, decide_eq_false_iff_not, Bool.not_eq_true', Bool.not_eq_false', Bool.and_eq_true, Bool.or_eq_false_iff] at hc76
          have hkl : k = (ofK 0 m.imports).length := by omega
          rw [hkl, List.take_length] at bs
          refine KC.exit ?_
          refine KQ.exitThen ?_
          refine KQ.exitThen ?_
          refine KQ.hit ?_
          refine KQ.seq ?_
          refine KC.seq ?_
          refine KC.seq ?_
          refine KC.region ?_
          refine KL.op (R.move rfl rfl) rfl rfl rfl ?_
          refine KL.op ((by first | exact R.fieldAddr rfl Try.underlying38 rfl rfl sz29 rfl | exact R.fieldAddrP rfl Try.underlying38 rfl rfl sz29 rfl)) rfl rfl rfl ?_
          refine KL.op (R.load rfl Try.underlying29 rfl rfl (by first | exact cell_of fs.b rfl | exact cell_of bx rfl | assumption)) rfl rfl rfl ?_
          have wl := bs.l
          have zbs := bs.sz
          have lt21 := wl.lt
          refine KL.opM (M.append rfl Try.underlying29 inf33 rfl (by decide) rfl rfl wl (by exact (mv.f.old o0)) (fun _ _ h _ => h) (by omega) (by simp only [List.length_map]; have := hsm.f; omega) (by unfold maxLen; simp only [List.length_map]; have := hsm.f; omega)) rfl rfl rfl ?_
          rintro vq H21 ⟨w21, g21⟩
          try dsimp only at g21
          have ob21 := g21.oldB wl (by omega)
          have o0 := o0.then ob21 (by omega)
          have z21 := ob21.1
          have bx := (g21.2 _ (blk_lt bx) (by first | exact .inr (by omega) | exact .inl rfl | exact hve.imp id (fun h => by omega) | exact lt21.imp id (fun h => by omega))).trans bx
          have wl := w21
          have bs := bs.app w21 g21
          have pT : ∀ Hq, KeepX [(Array.size H2)] H21 Hq → Sl 2 (FK EFTy H21 [(Array.size H2)]) Hq vt m.types := fun Hq k2 => (pT9 Hq (bs.k.trans k2)).mapE (fun cs x hf Hr k3 => hf Hr (bs.k.trans k3))
          have pE : ∀ Hq, KeepX [(Array.size H2)] H21 Hq → Sl 3 EExp Hq ve m.exports := fun Hq k2 => pE9 Hq (bs.k.trans k2)
          have p1 : ∀ Hq, KeepX [(Array.size H2)] H21 Hq → Sl 8 EImp Hq xi1 (ofK 1 m.imports) := fun Hq k2 => p1 Hq (bs.k.trans k2)
          have p2 : ∀ Hq, KeepX [(Array.size H2)] H21 Hq → Sl 8 EImp Hq xi2 (ofK 2 m.imports) := fun Hq k2 => p2 Hq (bs.k.trans k2)
          have p3 : ∀ Hq, KeepX [(Array.size H2)] H21 Hq → Sl 8 EImp Hq xi3 (ofK 3 m.imports) := fun Hq k2 => p3 Hq (bs.k.trans k2)
          have pL : ∀ Hq, KeepX [(Array.size H2)] H21 Hq → Sl 1 (EInt .u32) Hq vq (fnL m) := bs.l.lasts inferInstance (fun _ _ _ _ h => h) (by decide) (bs.l.lt.imp id (fun e => show vblock vq ≠ (Array.size H2) by have := bs.sz; omega))
          have zbs := bs.sz
          have hfl := fnL_len m
          have hf4 := hsm.f
          have fs := FS.begin bs.b
          refine KL.op (R.lenS rfl Try.underlying29 rfl (pL _ fs.k)) rfl rfl rfl ?_
          refine KL.op (R.move rfl rfl) rfl rfl rfl ?_
          refine KL.nil ?_
          refine KQ.seq ?_
          refine KC.block ?_
          refine KC.loopD (κ := Nat × Value) [91, 92, 93, 14, 95, 96, 97, 98, 99, 100, 94, 101, 102, 15, 16, 103, 104, 105, 106, 107, 108, 109, 110, 111, 112, 113, 114, 115, 90] (fun k => [(90, .int .i64 (k.1 : Nat))]) (fun k Hl => k.1 ≤ (fnL m).length ∧ Old H Hl ∧ Hl[Array.size H]? = some (.cells [v0, v1, v2, v3, v4, v5, v6, v7, v8, v9, va, vb].toArray 38 (0, 0)) ∧ FS H21 Hl (Array.size H2) vt (k.2) (.slice none 0 0) (.slice none 0 0) (.slice none 0 0) ve (k.2) (.slice none 0 0) (.slice none 0 0) (.slice none 0 0) (ofK 0 m.imports).length (ofK 1 m.imports).length (ofK 2 m.imports).length (ofK 3 m.imports).length ((fnsOf m).take k.1) ([]) ([]) ([])) (fun k => (fnL m).length - k.1) (0, .slice none 0 0) ?_ ?_ ?_
          · exact (Sub.cons rfl (Ext.sub (Ext.refl _ _)))
          · exact ⟨Nat.zero_le _, o0, bx, by simpa using fs⟩
          · rintro ⟨k, vk90⟩ H22 ⟨hk, o0, bx, fs⟩
            have zl_H22 := o0.1
            dsimp only at hk fs
            have zfs := fs.sz
            refine KC.seq ?_
            refine KC.region ?_
            refine KL.op (R.lss rfl rfl rfl) rfl rfl rfl ?_
            refine KL.nil ?_
            refine KQ.seq ?_
            refine KC.seq ?_
            refine KC.iteL rfl ?_ ?_
            · intro hc91
              try simp only [decide_eq_true_eq, decide_eq_false_iff_not, Bool.not_eq_true', Bool.not_eq_false', Bool.and_eq_true, Bool.or_eq_false_iff] at hc91
              have hir := ((pL _ fs.k).int k (by omega)).2
              dsimp only [InR] at hir
              refine KC.skip ?_
              refine KQ.seq ?_
              refine KC.seq ?_
              refine KC.block ?_
              refine KC.seq ?_
              refine KC.region ?_
              refine KL.op (R.index1 (j := k) rfl Try.underlying29 sz33 rfl rfl (pL _ fs.k) rfl (by omega)) rfl rfl rfl ?_
              refine KL.op ((R.load rfl Try.underlying33 rfl rfl ((pL _ fs.k).int k (by omega)).1).val (congrArg (Value.int .u32) (show (fnL m).getD k default = ((((fnL m).getD k default).toNat : Nat) : Int) by omega))) rfl rfl rfl ?_
              refine KL.op (R.assign rfl rfl) rfl rfl rfl ?_
              refine KL.nil ?_
              refine KQ.seq ?_
              refine KC.seq ?_
              refine KC.region ?_
              refine KL.op (R.move rfl rfl) rfl rfl rfl ?_
              refine KL.op (R.nilCheck rfl rfl) rfl rfl rfl ?_
              refine KL.op ((by first | exact R.fieldAddr rfl Try.underlying74 rfl rfl sz27 rfl | exact R.fieldAddrP rfl Try.underlying74 rfl rfl sz27 rfl)) rfl rfl rfl ?_
              refine KL.op (R.load rfl Try.underlying27 rfl rfl (by first | exact cell_of fs.b rfl | exact cell_of bx rfl | assumption)) rfl rfl rfl ?_
              refine KL.op (R.move rfl rfl) rfl rfl rfl ?_
              refine KL.call rfl rfl rfl rfl Try.call34 rfl rfl rfl (atFE_any (pT _ fs.k) ((fnL m).getD k default).toNat (by omega)) ?_
              rintro _ H23 ⟨⟨cs, rfl, hcl, hcs⟩, ox⟩
              have zc_H23 := (ox).1
              have o0 := o0.trans ox
              have bx := (ox).blk bx
              have fs := fs.old ox
              obtain ⟨c0, c1, rfl⟩ := len2 hcl
              have hone : ∀ u ∈ [c0, c1], u.oneCell' = true := by
                rcases hcs with ⟨_, h⟩ | ⟨_, h⟩
                · exact One.one h
                · rw [h]; intro u hu; simp only [List.mem_cons, List.not_mem_nil, or_false] at hu; rcases hu with rfl | rfl <;> rfl
              refine KL.op (R.move rfl rfl) rfl rfl rfl ?_
              refine KL.op (R.extract rfl rfl rfl) rfl rfl rfl ?_
              refine KL.op (R.extract rfl rfl rfl) rfl rfl rfl ?_
              have oP : Old H23 H23 := Old.refl _
              refine KL.opM (M.alloc rfl zr24 rfl) rfl rfl rfl ?_
              rintro _ H24 ⟨rfl, n24⟩
              have z24 := n24.2.1
              have o0 := o0.trans n24.1
              have bx := (n24.1).blk bx
              have oP := oP.trans n24.1
              have b24 := n24.2.2
              have bv := b24
              refine KL.opS (S.storeAgg (us := [c0, c1]) rfl sz24 rfl rfl (rfl) (by exact hone) bv (by simp)) rfl rfl ?_
              rintro H25 ⟨u25, b25⟩
              have o0 := o0.upd u25 (by omega)
              have zu25 := u25.1
              have bx := ((u25).2 _ (by omega)).trans bx
              have oP := oP.upd u25 (by omega)
              have bv := b25
              rw [over_all (by rfl)] at bv
              have fs := fs.old oP
              refine KL.op (R.assign rfl rfl) rfl rfl rfl ?_
              refine KL.nil ?_
              refine KQ.seq ?_
              refine KC.text (clOf [(8, 2), (9, 2), (12, 2)]) (fun j Hc => (j = 4 → Hc[(Array.size H2)]? = some (.cells [vt, vk90, .slice none 0 0, .slice none 0 0, .slice none 0 0, .int .i64 ((ofK 0 m.imports).length : Nat), .int .i64 ((ofK 1 m.imports).length : Nat), .int .i64 ((ofK 2 m.imports).length : Nat), .int .i64 ((ofK 3 m.imports).length : Nat), ve].toArray 74 (0, 0))) ∧ (j = 5 → Hc[(Array.size H23)]? = some (.cells [c0, c1].toArray 24 (0, 0)))) (by kernel_rfl) (by kernel_rfl) (fun _ => ⟨fun _ => fs.b, fun _ => bv⟩) ?_
              refine KP.op rfl (fun Hg hg => R.move rfl rfl) rfl rfl rfl ?_
              refine KP.op rfl (fun Hg hg => R.move rfl rfl) rfl rfl rfl ?_
              refine KP.op rfl (fun Hg hg => R.nilCheck rfl rfl) rfl rfl rfl ?_
              refine KP.op rfl (fun Hg hg => (by first | exact R.fieldAddr rfl Try.underlying74 rfl rfl sz70 rfl | exact R.fieldAddrP rfl Try.underlying74 rfl rfl sz70 rfl)) rfl rfl rfl ?_
              refine KP.op rfl (fun Hg hg => R.load rfl Try.underlying70 rfl rfl (cell_of (hg.1 rfl) rfl)) rfl rfl rfl ?_
              refine KP.op rfl (fun Hg hg => R.loadAgg rfl Try.underlying24 rfl sz24 rfl (cells_of (hg.2 rfl)) rfl) rfl rfl rfl ?_
              refine KP.op rfl (fun Hg hg => R.move rfl rfl) rfl rfl rfl ?_
              refine KP.op rfl (fun Hg hg => R.build (places := #[(0, 2), (2, 1)]) (cs := #[c0, c1, .bool (decide (((fnL m).getD k default).toNat < m.types.length))]) rfl Try.underlying81 zr81 (fun w => by kernel_rfl) rfl (by kernel_rfl)) rfl rfl rfl ?_
              refine KP.opM rfl (M.lit rfl Try.underlying70 zs81 (by decide) rfl rfl rfl) rfl rfl rfl (fun _ _ hR j _ _ => ⟨fun _ => hR.2.1.blk fs.b, fun _ => hR.2.1.blk bv⟩) ?_
              rintro _ H26 ⟨rfl, n26⟩
              have z26 := n26.2.1
              have o0 := o0.trans n26.1
              have bx := (n26.1).blk bx
              have bv := (n26.1).blk bv
              have fs := fs.old n26.1
              have b26 := n26.2.2
              have se : Sl 3 (FK ETy H21 [(Array.size H2)]) H26 _ [fnTy m.types ((fnL m).getD k default).toNat] := Sl.lit1N n26 rfl (by decide) (ety_of hcs _)
              have wo := fs.rf
              have zfs := fs.sz
              have lt27 := wo.lt
              refine KP.opM rfl (M.appendN rfl Try.underlying70 inf81 rfl (by decide) rfl rfl wo (by exact se) (fun _ _ h _ => h) (by omega) (by simp only [List.length_take, List.length_singleton]; omega) (by unfold maxLen; simp only [List.length_take, List.length_singleton]; omega)) rfl rfl rfl (fun _ _ hR j _ hj2 => ⟨fun hj => by subst hj; exact absurd (by decide +kernel) hj2, fun hj => by subst hj; exact absurd (by decide +kernel) hj2⟩) ?_
              rintro vn H27 ⟨w27, g27, nx27⟩
              try dsimp only at g27 nx27
              have ob27 := g27.oldB wo (by omega)
              have o0 := o0.then ob27 (by omega)
              have z27 := ob27.1
              have bx := (g27.2 _ (blk_lt bx) (by first | exact .inr (by omega) | exact .inl rfl | exact hve.imp id (fun h => by omega) | exact lt27.imp id (fun h => by omega))).trans bx
              have wo := w27
              have fs := fs.app_f w27 g27 nx27
              have zfs := fs.sz
              refine KP.op rfl (fun Hg hg => R.nilCheck rfl rfl) rfl rfl rfl ?_
              refine KP.op rfl (fun Hg hg => (by first | exact R.fieldAddr rfl Try.underlying74 rfl rfl sz70 rfl | exact R.fieldAddrP rfl Try.underlying74 rfl rfl sz70 rfl)) rfl rfl rfl ?_
              have bg := fs.b
              refine KP.opS rfl (S.store rfl sz70 rfl rfl fs.rf.cells1 fs.rf.one bg (by simp)) rfl rfl (fun _ h j hj1 hj2 => ⟨fun hj => by subst hj; exact absurd (by decide +kernel) hj2, fun hj => by subst hj; exact absurd (by decide +kernel) hj2⟩) ?_
              rintro H28 ⟨u28, b28⟩
              have o0 := o0.upd u28 (by omega)
              have zu28 := u28.1
              have bx := ((u28).2 _ (by omega)).trans bx
              have bg := b28
              have fs := fs.sto_f u28 bg
              refine KP.nil ?_
              refine KQ.normBlock ?_
              refine KQ.seq ?_
              refine KC.region ?_
              refine KL.op ((R.add rfl rfl rfl (by dsimp only [InR]; omega)).val (congrArg (Value.int .i64) (show (k : Int) + 1 = ((k + 1 : Nat) : Int) by omega))) rfl rfl rfl ?_
              refine KL.op (R.move rfl rfl) rfl rfl rfl ?_
              refine KL.nil ?_
              refine KQ.again ((k + 1, vn)) ?_ ?_ ?_
              · exact (Sub.cons rfl (Ext.sub (by repeat (first | exact Ext.refl _ _ | refine Ext.put rfl ?_ | refine Ext.drop rfl ?_))))
              · show (fnL m).length - (k + 1) < (fnL m).length - k; omega
              · exact ⟨by show k + 1 ≤ _; omega, o0, bx, by dsimp only; first | (rw [map_take_succ (by omega)]; exact fs) | (rw [take_succ (by rw [fnsOf_len]; omega), fnsOf_getD (by omega)]; exact fs) | (rw [take_succ (by omega), ← List.append_assoc]; exact fs)⟩
            · intro hc91
              try simp only [decide_eq_true_eq, decide_eq_false_iff_not, Bool.not_eq_true', Bool.not_eq_false', Bool.and_eq_true, Bool.or_eq_false_iff] at hc91
              have hkl : k = (fnL m).length := by omega
              rw [hkl, ← fnsOf_len, List.take_length] at fs
              refine KC.exit ?_
              refine KQ.exitThen ?_
              refine KQ.exitThen ?_
              refine KQ.hit ?_
              refine KQ.seq ?_
              refine KC.seq ?_
              refine KC.seq ?_
              refine KC.region ?_
              refine KL.op (R.move rfl rfl) rfl rfl rfl ?_
              refine KL.op (R.lenS rfl Try.underlying28 rfl (p1 _ fs.k)) rfl rfl rfl ?_
              refine KL.op (R.move rfl rfl) rfl rfl rfl ?_
              refine KL.nil ?_
              refine KQ.seq ?_
              refine KC.block ?_
              refine KC.loopD (κ := Nat × Value) [119, 120, 121, 18, 122, 123, 124, 125, 126, 127, 128, 129, 130, 131, 132, 133, 118] (fun k => [(118, .int .i64 (k.1 : Nat))]) (fun k Hl => k.1 ≤ (ofK 1 m.imports).length ∧ Old H Hl ∧ Hl[Array.size H]? = some (.cells [v0, v1, v2, v3, v4, v5, v6, v7, v8, v9, va, vb].toArray 38 (0, 0)) ∧ FS H21 Hl (Array.size H2) vt (vk90) (.slice none 0 0) (k.2) (.slice none 0 0) ve (vk90) (.slice none 0 0) (k.2) (.slice none 0 0) (ofK 0 m.imports).length (ofK 1 m.imports).length (ofK 2 m.imports).length (ofK 3 m.imports).length (fnsOf m) ([]) (((ofK 1 m.imports).take k.1).map (·.lim)) ([])) (fun k => (ofK 1 m.imports).length - k.1) (0, .slice none 0 0) ?_ ?_ ?_
              · exact (Sub.cons rfl (Ext.sub (Ext.refl _ _)))
              · exact ⟨Nat.zero_le _, o0, bx, by simpa using fs⟩
              · rintro ⟨k, vk118⟩ H29 ⟨hk, o0, bx, fs⟩
                have zl_H29 := o0.1
                dsimp only at hk fs
                have zfs := fs.sz
                refine KC.seq ?_
                refine KC.region ?_
                refine KL.op (R.lss rfl rfl rfl) rfl rfl rfl ?_
                refine KL.nil ?_
                refine KQ.seq ?_
                refine KC.seq ?_
                refine KC.iteL rfl ?_ ?_
                · intro hc119
                  try simp only [decide_eq_true_eq, decide_eq_false_iff_not, Bool.not_eq_true', Bool.not_eq_false', Bool.and_eq_true, Bool.or_eq_false_iff] at hc119
                  obtain ⟨hcx, hxr⟩ := (p1 _ fs.k).impAt k (by omega)
                  refine KC.skip ?_
                  refine KQ.seq ?_
                  refine KC.seq ?_
                  refine KC.block ?_
                  refine KC.seq ?_
                  refine KC.region ?_
                  refine KL.op (R.index (j := k) rfl Try.underlying28 sz63 rfl rfl (p1 _ fs.k) rfl (by omega)) rfl rfl rfl ?_
                  refine KL.op (R.loadAgg (cs := ((ofK 1 m.imports).getD k default).cells) rfl Try.underlying63 rfl sz63 rfl hcx rfl) rfl rfl rfl ?_
                  have oP : Old H29 H29 := Old.refl _
                  refine KL.opM (M.alloc rfl zr63 rfl) rfl rfl rfl ?_
                  rintro _ H30 ⟨rfl, n30⟩
                  have z30 := n30.2.1
                  have o0 := o0.trans n30.1
                  have bx := (n30.1).blk bx
                  have oP := oP.trans n30.1
                  have b30 := n30.2.2
                  have bv := b30
                  refine KL.opS (S.storeAgg (us := ((ofK 1 m.imports).getD k default).cells) rfl sz63 rfl rfl (rfl) (by exact kind_one) bv (by simp [Imp.cells])) rfl rfl ?_
                  rintro H31 ⟨u31, b31⟩
                  have o0 := o0.upd u31 (by omega)
                  have zu31 := u31.1
                  have bx := ((u31).2 _ (by omega)).trans bx
                  have oP := oP.upd u31 (by omega)
                  have bv := b31
                  rw [over_all (by rfl)] at bv
                  have fs := fs.old oP
                  refine KL.nil ?_
                  refine KQ.seq ?_
                  refine KC.text (clOf [(7, 2), (8, 2), (11, 2)]) (fun j Hc => (j = 4 → Hc[(Array.size H2)]? = some (.cells [vt, vk90, .slice none 0 0, vk118, .slice none 0 0, .int .i64 ((ofK 0 m.imports).length : Nat), .int .i64 ((ofK 1 m.imports).length : Nat), .int .i64 ((ofK 2 m.imports).length : Nat), .int .i64 ((ofK 3 m.imports).length : Nat), ve].toArray 74 (0, 0))) ∧ (j = 6 → Hc[(Array.size H29)]? = some (.cells ((ofK 1 m.imports).getD k default).cells.toArray 63 (0, 0)))) (by kernel_rfl) (by kernel_rfl) (fun _ => ⟨fun _ => fs.b, fun _ => bv⟩) ?_
                  refine KP.op rfl (fun Hg hg => R.move rfl rfl) rfl rfl rfl ?_
                  refine KP.op rfl (fun Hg hg => R.move rfl rfl) rfl rfl rfl ?_
                  refine KP.op rfl (fun Hg hg => R.nilCheck rfl rfl) rfl rfl rfl ?_
                  refine KP.op rfl (fun Hg hg => (by first | exact R.fieldAddr rfl Try.underlying74 rfl rfl sz30 rfl | exact R.fieldAddrP rfl Try.underlying74 rfl rfl sz30 rfl)) rfl rfl rfl ?_
                  refine KP.op rfl (fun Hg hg => R.load rfl Try.underlying30 rfl rfl (cell_of (hg.1 rfl) rfl)) rfl rfl rfl ?_
                  refine KP.op rfl (fun Hg hg => (by first | exact R.fieldAddr rfl Try.underlying63 rfl rfl sz51 rfl | exact R.fieldAddrP rfl Try.underlying63 rfl rfl sz51 rfl)) rfl rfl rfl ?_
                  refine KP.op rfl (fun Hg hg => R.loadAgg (cs := ((ofK 1 m.imports).getD k default).lim.cells) rfl Try.underlying51 rfl sz51 rfl (cells_mid (k := 4) (n := 2) (hg.2 rfl)) rfl) rfl rfl rfl ?_
                  refine KP.opM rfl (M.lit rfl Try.underlying30 zs51 (by decide) rfl rfl rfl) rfl rfl rfl (fun _ _ hR j _ _ => ⟨fun _ => hR.2.1.blk fs.b, fun _ => hR.2.1.blk bv⟩) ?_
                  rintro _ H32 ⟨rfl, n32⟩
                  have z32 := n32.2.1
                  have o0 := o0.trans n32.1
                  have bx := (n32.1).blk bx
                  have bv := (n32.1).blk bv
                  have fs := fs.old n32.1
                  have b32 := n32.2.2
                  have se : Sl 2 ELim H32 _ [((ofK 1 m.imports).getD k default).lim] := Sl.lit1N n32 rfl (by decide) ⟨rfl, hxr.2.2.1⟩
                  have wo := fs.ra
                  have zfs := fs.sz
                  have lt33 := wo.lt
                  refine KP.opM rfl (M.appendN rfl Try.underlying30 inf51 rfl (by decide) rfl rfl wo (by exact se) (fun _ _ h _ => h) (by omega) (by simp only [List.length_map, List.length_take, List.length_singleton]; omega) (by unfold maxLen; simp only [List.length_map, List.length_take, List.length_singleton]; omega)) rfl rfl rfl (fun _ _ hR j _ hj2 => ⟨fun hj => by subst hj; exact absurd (by decide +kernel) hj2, fun hj => by subst hj; exact absurd (by decide +kernel) hj2⟩) ?_
                  rintro vn H33 ⟨w33, g33, nx33⟩
                  try dsimp only at g33 nx33
                  have ob33 := g33.oldB wo (by omega)
                  have o0 := o0.then ob33 (by omega)
                  have z33 := ob33.1
                  have bx := (g33.2 _ (blk_lt bx) (by first | exact .inr (by omega) | exact .inl rfl | exact hve.imp id (fun h => by omega) | exact lt33.imp id (fun h => by omega))).trans bx
                  have wo := w33
                  have fs := fs.app_a w33 g33 nx33
                  have zfs := fs.sz
                  refine KP.op rfl (fun Hg hg => R.nilCheck rfl rfl) rfl rfl rfl ?_
                  refine KP.op rfl (fun Hg hg => (by first | exact R.fieldAddr rfl Try.underlying74 rfl rfl sz30 rfl | exact R.fieldAddrP rfl Try.underlying74 rfl rfl sz30 rfl)) rfl rfl rfl ?_
                  have bg := fs.b
                  refine KP.opS rfl (S.store rfl sz30 rfl rfl fs.ra.cells1 fs.ra.one bg (by simp)) rfl rfl (fun _ h j hj1 hj2 => ⟨fun hj => by subst hj; exact absurd (by decide +kernel) hj2, fun hj => by subst hj; exact absurd (by decide +kernel) hj2⟩) ?_
                  rintro H34 ⟨u34, b34⟩
                  have o0 := o0.upd u34 (by omega)
                  have zu34 := u34.1
                  have bx := ((u34).2 _ (by omega)).trans bx
                  have bg := b34
                  have fs := fs.sto_a u34 bg
                  refine KP.nil ?_
                  refine KQ.normBlock ?_
                  refine KQ.seq ?_
                  refine KC.region ?_
                  refine KL.op ((R.add rfl rfl rfl (by dsimp only [InR]; omega)).val (congrArg (Value.int .i64) (show (k : Int) + 1 = ((k + 1 : Nat) : Int) by omega))) rfl rfl rfl ?_
                  refine KL.op (R.move rfl rfl) rfl rfl rfl ?_
                  refine KL.nil ?_
                  refine KQ.again ((k + 1, vn)) ?_ ?_ ?_
                  · exact (Sub.cons rfl (Ext.sub (by repeat (first | exact Ext.refl _ _ | refine Ext.put rfl ?_ | refine Ext.drop rfl ?_))))
                  · show (ofK 1 m.imports).length - (k + 1) < (ofK 1 m.imports).length - k; omega
                  · exact ⟨by show k + 1 ≤ _; omega, o0, bx, by dsimp only; first | (rw [map_take_succ (by omega)]; exact fs) | (rw [take_succ (by rw [fnsOf_len]; omega), fnsOf_getD (by omega)]; exact fs) | (rw [take_succ (by omega), ← List.append_assoc]; exact fs)⟩
                · intro hc119
                  try simp only [decide_eq_true_eq, decide_eq_false_iff_not, Bool.not_eq_true', Bool.not_eq_false', Bool.and_eq_true, Bool.or_eq_false_iff] at hc119
                  have hkl : k = (ofK 1 m.imports).length := by omega
                  rw [hkl, List.take_length] at fs
                  refine KC.exit ?_
                  refine KQ.exitThen ?_
                  refine KQ.exitThen ?_
                  refine KQ.hit ?_
                  refine KQ.seq ?_
                  refine KC.seq ?_
                  refine KC.seq ?_
                  refine KC.region ?_
                  refine KL.op (R.move rfl rfl) rfl rfl rfl ?_
                  refine KL.op (R.lenS rfl Try.underlying28 rfl (p2 _ fs.k)) rfl rfl rfl ?_
                  refine KL.op (R.move rfl rfl) rfl rfl rfl ?_
                  refine KL.nil ?_
                  refine KQ.seq ?_
                  refine KC.block ?_
                  refine KC.loopD (κ := Nat × Value) [137, 138, 139, 20, 140, 141, 142, 143, 144, 145, 146, 147, 148, 149, 150, 151, 136] (fun k => [(136, .int .i64 (k.1 : Nat))]) (fun k Hl => k.1 ≤ (ofK 2 m.imports).length ∧ Old H Hl ∧ Hl[Array.size H]? = some (.cells [v0, v1, v2, v3, v4, v5, v6, v7, v8, v9, va, vb].toArray 38 (0, 0)) ∧ FS H21 Hl (Array.size H2) vt (vk90) (.slice none 0 0) (vk118) (k.2) ve (vk90) (.slice none 0 0) (vk118) (k.2) (ofK 0 m.imports).length (ofK 1 m.imports).length (ofK 2 m.imports).length (ofK 3 m.imports).length (fnsOf m) ([]) ((ofK 1 m.imports).map (·.lim)) (((ofK 2 m.imports).take k.1).map (·.lim))) (fun k => (ofK 2 m.imports).length - k.1) (0, .slice none 0 0) ?_ ?_ ?_
                  · exact (Sub.cons rfl (Ext.sub (Ext.refl _ _)))
                  · exact ⟨Nat.zero_le _, o0, bx, by simpa using fs⟩
                  · rintro ⟨k, vk136⟩ H35 ⟨hk, o0, bx, fs⟩
                    have zl_H35 := o0.1
                    dsimp only at hk fs
                    have zfs := fs.sz
                    refine KC.seq ?_
                    refine KC.region ?_
                    refine KL.op (R.lss rfl rfl rfl) rfl rfl rfl ?_
                    refine KL.nil ?_
                    refine KQ.seq ?_
                    refine KC.seq ?_
                    refine KC.iteL rfl ?_ ?_
                    · intro hc137
                      try simp only [decide_eq_true_eq, decide_eq_false_iff_not, Bool.not_eq_true', Bool.not_eq_false', Bool.and_eq_true, Bool.or_eq_false_iff] at hc137
                      obtain ⟨hcx, hxr⟩ := (p2 _ fs.k).impAt k (by omega)
                      refine KC.skip ?_
                      refine KQ.seq ?_
                      refine KC.seq ?_
                      refine KC.block ?_
                      refine KC.seq ?_
                      refine KC.region ?_
                      refine KL.op (R.index (j := k) rfl Try.underlying28 sz63 rfl rfl (p2 _ fs.k) rfl (by omega)) rfl rfl rfl ?_
                      refine KL.op (R.loadAgg (cs := ((ofK 2 m.imports).getD k default).cells) rfl Try.underlying63 rfl sz63 rfl hcx rfl) rfl rfl rfl ?_
                      have oP : Old H35 H35 := Old.refl _
                      refine KL.opM (M.alloc rfl zr63 rfl) rfl rfl rfl ?_
                      rintro _ H36 ⟨rfl, n36⟩
                      have z36 := n36.2.1
                      have o0 := o0.trans n36.1
                      have bx := (n36.1).blk bx
                      have oP := oP.trans n36.1
                      have b36 := n36.2.2
                      have bv := b36
                      refine KL.opS (S.storeAgg (us := ((ofK 2 m.imports).getD k default).cells) rfl sz63 rfl rfl (rfl) (by exact kind_one) bv (by simp [Imp.cells])) rfl rfl ?_
                      rintro H37 ⟨u37, b37⟩
                      have o0 := o0.upd u37 (by omega)
                      have zu37 := u37.1
                      have bx := ((u37).2 _ (by omega)).trans bx
                      have oP := oP.upd u37 (by omega)
                      have bv := b37
                      rw [over_all (by rfl)] at bv
                      have fs := fs.old oP
                      refine KL.nil ?_
                      refine KQ.seq ?_
                      refine KC.text (clOf [(7, 2), (8, 2), (11, 2)]) (fun j Hc => (j = 4 → Hc[(Array.size H2)]? = some (.cells [vt, vk90, .slice none 0 0, vk118, vk136, .int .i64 ((ofK 0 m.imports).length : Nat), .int .i64 ((ofK 1 m.imports).length : Nat), .int .i64 ((ofK 2 m.imports).length : Nat), .int .i64 ((ofK 3 m.imports).length : Nat), ve].toArray 74 (0, 0))) ∧ (j = 6 → Hc[(Array.size H35)]? = some (.cells ((ofK 2 m.imports).getD k default).cells.toArray 63 (0, 0)))) (by kernel_rfl) (by kernel_rfl) (fun _ => ⟨fun _ => fs.b, fun _ => bv⟩) ?_
                      refine KP.op rfl (fun Hg hg => R.move rfl rfl) rfl rfl rfl ?_
                      refine KP.op rfl (fun Hg hg => R.move rfl rfl) rfl rfl rfl ?_
                      refine KP.op rfl (fun Hg hg => R.nilCheck rfl rfl) rfl rfl rfl ?_
                      refine KP.op rfl (fun Hg hg => (by first | exact R.fieldAddr rfl Try.underlying74 rfl rfl sz30 rfl | exact R.fieldAddrP rfl Try.underlying74 rfl rfl sz30 rfl)) rfl rfl rfl ?_
                      refine KP.op rfl (fun Hg hg => R.load rfl Try.underlying30 rfl rfl (cell_of (hg.1 rfl) rfl)) rfl rfl rfl ?_
                      refine KP.op rfl (fun Hg hg => (by first | exact R.fieldAddr rfl Try.underlying63 rfl rfl sz51 rfl | exact R.fieldAddrP rfl Try.underlying63 rfl rfl sz51 rfl)) rfl rfl rfl ?_
                      refine KP.op rfl (fun Hg hg => R.loadAgg (cs := ((ofK 2 m.imports).getD k default).lim.cells) rfl Try.underlying51 rfl sz51 rfl (cells_mid (k := 4) (n := 2) (hg.2 rfl)) rfl) rfl rfl rfl ?_
                      refine KP.opM rfl (M.lit rfl Try.underlying30 zs51 (by decide) rfl rfl rfl) rfl rfl rfl (fun _ _ hR j _ _ => ⟨fun _ => hR.2.1.blk fs.b, fun _ => hR.2.1.blk bv⟩) ?_
                      rintro _ H38 ⟨rfl, n38⟩
                      have z38 := n38.2.1
                      have o0 := o0.trans n38.1
                      have bx := (n38.1).blk bx
                      have bv := (n38.1).blk bv
                      have fs := fs.old n38.1
                      have b38 := n38.2.2
                      have se : Sl 2 ELim H38 _ [((ofK 2 m.imports).getD k default).lim] := Sl.lit1N n38 rfl (by decide) ⟨rfl, hxr.2.2.1⟩
                      have wo := fs.rm
                      have zfs := fs.sz
                      have lt39 := wo.lt
                      refine KP.opM rfl (M.appendN rfl Try.underlying30 inf51 rfl (by decide) rfl rfl wo (by exact se) (fun _ _ h _ => h) (by omega) (by simp only [List.length_map, List.length_take, List.length_singleton]; omega) (by unfold maxLen; simp only [List.length_map, List.length_take, List.length_singleton]; omega)) rfl rfl rfl (fun _ _ hR j _ hj2 => ⟨fun hj => by subst hj; exact absurd (by decide +kernel) hj2, fun hj => by subst hj; exact absurd (by decide +kernel) hj2⟩) ?_
                      rintro vn H39 ⟨w39, g39, nx39⟩
                      try dsimp only at g39 nx39
                      have ob39 := g39.oldB wo (by omega)
                      have o0 := o0.then ob39 (by omega)
                      have z39 := ob39.1
                      have bx := (g39.2 _ (blk_lt bx) (by first | exact .inr (by omega) | exact .inl rfl | exact hve.imp id (fun h => by omega) | exact lt39.imp id (fun h => by omega))).trans bx
                      have wo := w39
                      have fs := fs.app_m w39 g39 nx39
                      have zfs := fs.sz
                      refine KP.op rfl (fun Hg hg => R.nilCheck rfl rfl) rfl rfl rfl ?_
                      refine KP.op rfl (fun Hg hg => (by first | exact R.fieldAddr rfl Try.underlying74 rfl rfl sz30 rfl | exact R.fieldAddrP rfl Try.underlying74 rfl rfl sz30 rfl)) rfl rfl rfl ?_
                      have bg := fs.b
                      refine KP.opS rfl (S.store rfl sz30 rfl rfl fs.rm.cells1 fs.rm.one bg (by simp)) rfl rfl (fun _ h j hj1 hj2 => ⟨fun hj => by subst hj; exact absurd (by decide +kernel) hj2, fun hj => by subst hj; exact absurd (by decide +kernel) hj2⟩) ?_
                      rintro H40 ⟨u40, b40⟩
                      have o0 := o0.upd u40 (by omega)
                      have zu40 := u40.1
                      have bx := ((u40).2 _ (by omega)).trans bx
                      have bg := b40
                      have fs := fs.sto_m u40 bg
                      refine KP.nil ?_
                      refine KQ.normBlock ?_
                      refine KQ.seq ?_
                      refine KC.region ?_
                      refine KL.op ((R.add rfl rfl rfl (by dsimp only [InR]; omega)).val (congrArg (Value.int .i64) (show (k : Int) + 1 = ((k + 1 : Nat) : Int) by omega))) rfl rfl rfl ?_
                      refine KL.op (R.move rfl rfl) rfl rfl rfl ?_
                      refine KL.nil ?_
                      refine KQ.again ((k + 1, vn)) ?_ ?_ ?_
                      · exact (Sub.cons rfl (Ext.sub (by repeat (first | exact Ext.refl _ _ | refine Ext.put rfl ?_ | refine Ext.drop rfl ?_))))
                      · show (ofK 2 m.imports).length - (k + 1) < (ofK 2 m.imports).length - k; omega
                      · exact ⟨by show k + 1 ≤ _; omega, o0, bx, by dsimp only; first | (rw [map_take_succ (by omega)]; exact fs) | (rw [take_succ (by rw [fnsOf_len]; omega), fnsOf_getD (by omega)]; exact fs) | (rw [take_succ (by omega), ← List.append_assoc]; exact fs)⟩
                    · intro hc137
                      try simp only [decide_eq_true_eq, decide_eq_false_iff_not, Bool.not_eq_true', Bool.not_eq_false', Bool.and_eq_true, Bool.or_eq_false_iff] at hc137
                      have hkl : k = (ofK 2 m.imports).length := by omega
                      rw [hkl, List.take_length] at fs
                      refine KC.exit ?_
                      refine KQ.exitThen ?_
                      refine KQ.exitThen ?_
                      refine KQ.hit ?_
                      refine KQ.seq ?_
                      refine KC.seq ?_
                      refine KC.seq ?_
                      refine KC.region ?_
                      refine KL.op (R.move rfl rfl) rfl rfl rfl ?_
                      refine KL.op (R.lenS rfl Try.underlying28 rfl (p3 _ fs.k)) rfl rfl rfl ?_
                      refine KL.op (R.move rfl rfl) rfl rfl rfl ?_
                      refine KL.nil ?_
                      refine KQ.seq ?_
                      refine KC.block ?_
                      refine KC.loopD (κ := Nat × Value) [155, 156, 157, 22, 158, 159, 160, 161, 162, 163, 164, 165, 166, 167, 168, 169, 154] (fun k => [(154, .int .i64 (k.1 : Nat))]) (fun k Hl => k.1 ≤ (ofK 3 m.imports).length ∧ Old H Hl ∧ Hl[Array.size H]? = some (.cells [v0, v1, v2, v3, v4, v5, v6, v7, v8, v9, va, vb].toArray 38 (0, 0)) ∧ FS H21 Hl (Array.size H2) vt (vk90) (k.2) (vk118) (vk136) ve (vk90) (k.2) (vk118) (vk136) (ofK 0 m.imports).length (ofK 1 m.imports).length (ofK 2 m.imports).length (ofK 3 m.imports).length (fnsOf m) (((ofK 3 m.imports).take k.1).map (·.glb)) ((ofK 1 m.imports).map (·.lim)) ((ofK 2 m.imports).map (·.lim))) (fun k => (ofK 3 m.imports).length - k.1) (0, .slice none 0 0) ?_ ?_ ?_
                      · exact (Sub.cons rfl (Ext.sub (Ext.refl _ _)))
                      · exact ⟨Nat.zero_le _, o0, bx, by simpa using fs⟩
                      · rintro ⟨k, vk154⟩ H41 ⟨hk, o0, bx, fs⟩
                        have zl_H41 := o0.1
                        dsimp only at hk fs
                        have zfs := fs.sz
                        refine KC.seq ?_
                        refine KC.region ?_
                        refine KL.op (R.lss rfl rfl rfl) rfl rfl rfl ?_
                        refine KL.nil ?_
                        refine KQ.seq ?_
                        refine KC.seq ?_
                        refine KC.iteL rfl ?_ ?_
                        · intro hc155
                          try simp only [decide_eq_true_eq, decide_eq_false_iff_not, Bool.not_eq_true', Bool.not_eq_false', Bool.and_eq_true, Bool.or_eq_false_iff] at hc155
                          obtain ⟨hcx, hxr⟩ := (p3 _ fs.k).impAt k (by omega)
                          refine KC.skip ?_
                          refine KQ.seq ?_
                          refine KC.seq ?_
                          refine KC.block ?_
                          refine KC.seq ?_
                          refine KC.region ?_
                          refine KL.op (R.index (j := k) rfl Try.underlying28 sz63 rfl rfl (p3 _ fs.k) rfl (by omega)) rfl rfl rfl ?_
                          refine KL.op (R.loadAgg (cs := ((ofK 3 m.imports).getD k default).cells) rfl Try.underlying63 rfl sz63 rfl hcx rfl) rfl rfl rfl ?_
                          have oP : Old H41 H41 := Old.refl _
                          refine KL.opM (M.alloc rfl zr63 rfl) rfl rfl rfl ?_
                          rintro _ H42 ⟨rfl, n42⟩
                          have z42 := n42.2.1
                          have o0 := o0.trans n42.1
                          have bx := (n42.1).blk bx
                          have oP := oP.trans n42.1
                          have b42 := n42.2.2
                          have bv := b42
                          refine KL.opS (S.storeAgg (us := ((ofK 3 m.imports).getD k default).cells) rfl sz63 rfl rfl (rfl) (by exact kind_one) bv (by simp [Imp.cells])) rfl rfl ?_
                          rintro H43 ⟨u43, b43⟩
                          have o0 := o0.upd u43 (by omega)
                          have zu43 := u43.1
                          have bx := ((u43).2 _ (by omega)).trans bx
                          have oP := oP.upd u43 (by omega)
                          have bv := b43
                          rw [over_all (by rfl)] at bv
                          have fs := fs.old oP
                          refine KL.nil ?_
                          refine KQ.seq ?_
                          refine KC.text (clOf [(7, 2), (8, 2), (11, 2)]) (fun j Hc => (j = 4 → Hc[(Array.size H2)]? = some (.cells [vt, vk90, vk154, vk118, vk136, .int .i64 ((ofK 0 m.imports).length : Nat), .int .i64 ((ofK 1 m.imports).length : Nat), .int .i64 ((ofK 2 m.imports).length : Nat), .int .i64 ((ofK 3 m.imports).length : Nat), ve].toArray 74 (0, 0))) ∧ (j = 6 → Hc[(Array.size H41)]? = some (.cells ((ofK 3 m.imports).getD k default).cells.toArray 63 (0, 0)))) (by kernel_rfl) (by kernel_rfl) (fun _ => ⟨fun _ => fs.b, fun _ => bv⟩) ?_
                          refine KP.op rfl (fun Hg hg => R.move rfl rfl) rfl rfl rfl ?_
                          refine KP.op rfl (fun Hg hg => R.move rfl rfl) rfl rfl rfl ?_
                          refine KP.op rfl (fun Hg hg => R.nilCheck rfl rfl) rfl rfl rfl ?_
                          refine KP.op rfl (fun Hg hg => (by first | exact R.fieldAddr rfl Try.underlying74 rfl rfl sz71 rfl | exact R.fieldAddrP rfl Try.underlying74 rfl rfl sz71 rfl)) rfl rfl rfl ?_
                          refine KP.op rfl (fun Hg hg => R.load rfl Try.underlying71 rfl rfl (cell_of (hg.1 rfl) rfl)) rfl rfl rfl ?_
                          refine KP.op rfl (fun Hg hg => (by first | exact R.fieldAddr rfl Try.underlying63 rfl rfl sz46 rfl | exact R.fieldAddrP rfl Try.underlying63 rfl rfl sz46 rfl)) rfl rfl rfl ?_
                          refine KP.op rfl (fun Hg hg => R.loadAgg (cs := ((ofK 3 m.imports).getD k default).glb.cells) rfl Try.underlying46 rfl sz46 rfl (cells_mid (k := 6) (n := 2) (hg.2 rfl)) rfl) rfl rfl rfl ?_
                          refine KP.opM rfl (M.lit rfl Try.underlying71 zs46 (by decide) rfl rfl rfl) rfl rfl rfl (fun _ _ hR j _ _ => ⟨fun _ => hR.2.1.blk fs.b, fun _ => hR.2.1.blk bv⟩) ?_
                          rintro _ H44 ⟨rfl, n44⟩
                          have z44 := n44.2.1
                          have o0 := o0.trans n44.1
                          have bx := (n44.1).blk bx
                          have bv := (n44.1).blk bv
                          have fs := fs.old n44.1
                          have b44 := n44.2.2
                          have se : Sl 2 EGlb H44 _ [((ofK 3 m.imports).getD k default).glb] := Sl.lit1N n44 rfl (by decide) ⟨rfl, hxr.2.2.2⟩
                          have wo := fs.rg
                          have zfs := fs.sz
                          have lt45 := wo.lt
                          refine KP.opM rfl (M.appendN rfl Try.underlying71 inf46 rfl (by decide) rfl rfl wo (by exact se) (fun _ _ h _ => h) (by omega) (by simp only [List.length_map, List.length_take, List.length_singleton]; omega) (by unfold maxLen; simp only [List.length_map, List.length_take, List.length_singleton]; omega)) rfl rfl rfl (fun _ _ hR j _ hj2 => ⟨fun hj => by subst hj; exact absurd (by decide +kernel) hj2, fun hj => by subst hj; exact absurd (by decide +kernel) hj2⟩) ?_
                          rintro vn H45 ⟨w45, g45, nx45⟩
                          try dsimp only at g45 nx45
                          have ob45 := g45.oldB wo (by omega)
                          have o0 := o0.then ob45 (by omega)
                          have z45 := ob45.1
                          have bx := (g45.2 _ (blk_lt bx) (by first | exact .inr (by omega) | exact .inl rfl | exact hve.imp id (fun h => by omega) | exact lt45.imp id (fun h => by omega))).trans bx
                          have wo := w45
                          have fs := fs.app_g w45 g45 nx45
                          have zfs := fs.sz
                          refine KP.op rfl (fun Hg hg => R.nilCheck rfl rfl) rfl rfl rfl ?_
                          refine KP.op rfl (fun Hg hg => (by first | exact R.fieldAddr rfl Try.underlying74 rfl rfl sz71 rfl | exact R.fieldAddrP rfl Try.underlying74 rfl rfl sz71 rfl)) rfl rfl rfl ?_
                          have bg := fs.b
                          refine KP.opS rfl (S.store rfl sz71 rfl rfl fs.rg.cells1 fs.rg.one bg (by simp)) rfl rfl (fun _ h j hj1 hj2 => ⟨fun hj => by subst hj; exact absurd (by decide +kernel) hj2, fun hj => by subst hj; exact absurd (by decide +kernel) hj2⟩) ?_
                          rintro H46 ⟨u46, b46⟩
                          have o0 := o0.upd u46 (by omega)
                          have zu46 := u46.1
                          have bx := ((u46).2 _ (by omega)).trans bx
                          have bg := b46
                          have fs := fs.sto_g u46 bg
                          refine KP.nil ?_
                          refine KQ.normBlock ?_
                          refine KQ.seq ?_
                          refine KC.region ?_
                          refine KL.op ((R.add rfl rfl rfl (by dsimp only [InR]; omega)).val (congrArg (Value.int .i64) (show (k : Int) + 1 = ((k + 1 : Nat) : Int) by omega))) rfl rfl rfl ?_
                          refine KL.op (R.move rfl rfl) rfl rfl rfl ?_
                          refine KL.nil ?_
                          refine KQ.again ((k + 1, vn)) ?_ ?_ ?_
                          · exact (Sub.cons rfl (Ext.sub (by repeat (first | exact Ext.refl _ _ | refine Ext.put rfl ?_ | refine Ext.drop rfl ?_))))
                          · show (ofK 3 m.imports).length - (k + 1) < (ofK 3 m.imports).length - k; omega
                          · exact ⟨by show k + 1 ≤ _; omega, o0, bx, by dsimp only; first | (rw [map_take_succ (by omega)]; exact fs) | (rw [take_succ (by rw [fnsOf_len]; omega), fnsOf_getD (by omega)]; exact fs) | (rw [take_succ (by omega), ← List.append_assoc]; exact fs)⟩
                        · intro hc155
                          try simp only [decide_eq_true_eq, decide_eq_false_iff_not, Bool.not_eq_true', Bool.not_eq_false', Bool.and_eq_true, Bool.or_eq_false_iff] at hc155
                          have hkl : k = (ofK 3 m.imports).length := by omega
                          rw [hkl, List.take_length] at fs
                          refine KC.exit ?_
                          refine KQ.exitThen ?_
                          refine KQ.exitThen ?_
                          refine KQ.hit ?_
                          refine KQ.seq ?_
                          refine KC.seq ?_
                          refine KC.text (clOf [(8, 2), (15, 2), (18, 2), (21, 2)]) (fun j Hc => (j = 5 ∨ j = 12 → Hc[(Array.size H2)]? = some (.cells [vt, vk90, vk154, vk118, vk136, .int .i64 ((ofK 0 m.imports).length : Nat), .int .i64 ((ofK 1 m.imports).length : Nat), .int .i64 ((ofK 2 m.imports).length : Nat), .int .i64 ((ofK 3 m.imports).length : Nat), ve].toArray 74 (0, 0))) ∧ (j = 7 ∨ j = 14 → Hc[Array.size H]? = some (.cells [v0, v1, v2, v3, v4, v5, v6, v7, v8, v9, va, vb].toArray 38 (0, 0)))) (by kernel_rfl) (by kernel_rfl) (fun _ => ⟨fun _ => fs.b, fun _ => bx⟩) ?_
                          refine KP.op rfl (fun Hg hg => R.move rfl rfl) rfl rfl rfl ?_
                          refine KP.op rfl (fun Hg hg => R.move rfl rfl) rfl rfl rfl ?_
                          refine KP.op rfl (fun Hg hg => R.move rfl rfl) rfl rfl rfl ?_
                          refine KP.op rfl (fun Hg hg => R.nilCheck rfl rfl) rfl rfl rfl ?_
                          refine KP.op rfl (fun Hg hg => (by first | exact R.fieldAddr rfl Try.underlying74 rfl rfl sz30 rfl | exact R.fieldAddrP rfl Try.underlying74 rfl rfl sz30 rfl)) rfl rfl rfl ?_
                          refine KP.op rfl (fun Hg hg => R.load rfl Try.underlying30 rfl rfl (cell_of (hg.1 (by simp)) rfl)) rfl rfl rfl ?_
                          refine KP.op rfl (fun Hg hg => (by first | exact R.fieldAddr rfl Try.underlying38 rfl rfl sz30 rfl | exact R.fieldAddrP rfl Try.underlying38 rfl rfl sz30 rfl)) rfl rfl rfl ?_
                          refine KP.op rfl (fun Hg hg => R.load rfl Try.underlying30 rfl rfl (cell_of (hg.2 (by simp)) rfl)) rfl rfl rfl ?_
                          have wo := fs.ra
                          have zfs := fs.sz
                          have bgA := fs.b
                          have zbA := blk_lt bgA
                          have zxA := blk_lt bx
                          have hroA := wo.lt
                          have lt47 := wo.lt
                          refine KP.opM rfl (M.appendN rfl Try.underlying30 inf51 rfl (by decide) rfl rfl wo (by exact (mv.a.old o0)) (fun _ _ h _ => h) (by omega) (by simp only [List.length_map]; have := hsm.a; omega) (by unfold maxLen; simp only [List.length_map]; have := hsm.a; omega)) rfl rfl rfl (fun _ _ hR j _ hj2 => ⟨fun _ => (hR.2.1.2 _ zbA (hroA.imp id (fun e => by omega))).trans bgA, fun _ => (hR.2.1.2 _ zxA (hroA.imp id (fun e => by omega))).trans bx⟩) ?_
                          rintro vn1 H47 ⟨w47, g47, nx47⟩
                          try dsimp only at g47 nx47
                          have ob47 := g47.oldB wo (by omega)
                          have o0 := o0.then ob47 (by omega)
                          have z47 := ob47.1
                          have bx := (g47.2 _ (blk_lt bx) (by first | exact .inr (by omega) | exact .inl rfl | exact hve.imp id (fun h => by omega) | exact lt47.imp id (fun h => by omega))).trans bx
                          have wo := w47
                          have fs := fs.app_a w47 g47 nx47
                          have zfs := fs.sz
                          refine KP.op rfl (fun Hg hg => R.move rfl rfl) rfl rfl rfl ?_
                          refine KP.op rfl (fun Hg hg => R.nilCheck rfl rfl) rfl rfl rfl ?_
                          refine KP.op rfl (fun Hg hg => (by first | exact R.fieldAddr rfl Try.underlying74 rfl rfl sz30 rfl | exact R.fieldAddrP rfl Try.underlying74 rfl rfl sz30 rfl)) rfl rfl rfl ?_
                          refine KP.op rfl (fun Hg hg => R.load rfl Try.underlying30 rfl rfl (cell_of (hg.1 (by simp)) rfl)) rfl rfl rfl ?_
                          refine KP.op rfl (fun Hg hg => (by first | exact R.fieldAddr rfl Try.underlying38 rfl rfl sz30 rfl | exact R.fieldAddrP rfl Try.underlying38 rfl rfl sz30 rfl)) rfl rfl rfl ?_
                          refine KP.op rfl (fun Hg hg => R.load rfl Try.underlying30 rfl rfl (cell_of (hg.2 (by simp)) rfl)) rfl rfl rfl ?_
                          have wo := fs.rm
                          have zfs := fs.sz
                          have bgA := fs.b
                          have zbA := blk_lt bgA
                          have zxA := blk_lt bx
                          have hroA := wo.lt
                          have lt48 := wo.lt
                          refine KP.opM rfl (M.appendN rfl Try.underlying30 inf51 rfl (by decide) rfl rfl wo (by exact (mv.mm.old o0)) (fun _ _ h _ => h) (by omega) (by simp only [List.length_map]; have := hsm.mm; omega) (by unfold maxLen; simp only [List.length_map]; have := hsm.mm; omega)) rfl rfl rfl (fun _ _ hR j _ hj2 => ⟨fun _ => (hR.2.1.2 _ zbA (hroA.imp id (fun e => by omega))).trans bgA, fun _ => (hR.2.1.2 _ zxA (hroA.imp id (fun e => by omega))).trans bx⟩) ?_
                          rintro vn2 H48 ⟨w48, g48, nx48⟩
                          try dsimp only at g48 nx48
                          have ob48 := g48.oldB wo (by omega)
                          have o0 := o0.then ob48 (by omega)
                          have z48 := ob48.1
                          have bx := (g48.2 _ (blk_lt bx) (by first | exact .inr (by omega) | exact .inl rfl | exact hve.imp id (fun h => by omega) | exact lt48.imp id (fun h => by omega))).trans bx
                          have wo := w48
                          have fs := fs.app_m w48 g48 nx48
                          have zfs := fs.sz
                          refine KP.op rfl (fun Hg hg => R.nilCheck rfl rfl) rfl rfl rfl ?_
                          refine KP.op rfl (fun Hg hg => (by first | exact R.fieldAddr rfl Try.underlying74 rfl rfl sz30 rfl | exact R.fieldAddrP rfl Try.underlying74 rfl rfl sz30 rfl)) rfl rfl rfl ?_
                          have bg := fs.b
                          refine KP.opS rfl (S.store rfl sz30 rfl rfl fs.ra.cells1 fs.ra.one bg (by simp)) rfl rfl (fun _ h j hj1 hj2 => ⟨fun hj => by rcases hj with rfl | rfl <;> exact absurd (by decide +kernel) hj2, fun _ => (h.1.2 _ (by omega)).trans bx⟩) ?_
                          rintro H49 ⟨u49, b49⟩
                          have o0 := o0.upd u49 (by omega)
                          have zu49 := u49.1
                          have bx := ((u49).2 _ (by omega)).trans bx
                          have bg := b49
                          have fs := fs.sto_a u49 bg
                          refine KP.op rfl (fun Hg hg => R.nilCheck rfl rfl) rfl rfl rfl ?_
                          refine KP.op rfl (fun Hg hg => (by first | exact R.fieldAddr rfl Try.underlying74 rfl rfl sz30 rfl | exact R.fieldAddrP rfl Try.underlying74 rfl rfl sz30 rfl)) rfl rfl rfl ?_
                          have bg := fs.b
                          refine KP.opS rfl (S.store rfl sz30 rfl rfl fs.rm.cells1 fs.rm.one bg (by simp)) rfl rfl (fun _ h j hj1 hj2 => ⟨fun hj => by rcases hj with rfl | rfl <;> exact absurd (by decide +kernel) hj2, fun _ => (h.1.2 _ (by omega)).trans bx⟩) ?_
                          rintro H50 ⟨u50, b50⟩
                          have o0 := o0.upd u50 (by omega)
                          have zu50 := u50.1
                          have bx := ((u50).2 _ (by omega)).trans bx
                          have bg := b50
                          have fs := fs.sto_m u50 bg
                          refine KP.nil ?_
                          refine KQ.seq ?_
                          refine KC.seq ?_
                          refine KC.seq ?_
                          refine KC.region ?_
                          refine KL.op ((by first | exact R.fieldAddr rfl Try.underlying38 rfl rfl sz31 rfl | exact R.fieldAddrP rfl Try.underlying38 rfl rfl sz31 rfl)) rfl rfl rfl ?_
                          refine KL.op (R.load rfl Try.underlying31 rfl rfl (by first | exact cell_of fs.b rfl | exact cell_of bx rfl | assumption)) rfl rfl rfl ?_
                          refine KL.op (R.lenS rfl Try.underlying31 rfl mv.g) rfl rfl rfl ?_
                          refine KL.op (R.move rfl rfl) rfl rfl rfl ?_
                          refine KL.nil ?_
                          refine KQ.seq ?_
                          refine KC.block ?_
                          refine KC.loopD (κ := Nat × Value) [194, 195, 196, 24, 197, 198, 199, 200, 201, 202, 203, 204, 205, 206, 207, 208, 193] (fun k => [(193, .int .i64 (k.1 : Nat))]) (fun k Hl => k.1 ≤ m.globals.length ∧ Old H Hl ∧ Hl[Array.size H]? = some (.cells [v0, v1, v2, v3, v4, v5, v6, v7, v8, v9, va, vb].toArray 38 (0, 0)) ∧ FS H21 Hl (Array.size H2) vt (vk90) (k.2) (vn1) (vn2) ve (vk90) (k.2) (vn1) (vn2) (ofK 0 m.imports).length (ofK 1 m.imports).length (ofK 2 m.imports).length (ofK 3 m.imports).length (fnsOf m) ((ofK 3 m.imports).map (·.glb) ++ m.globals.take k.1) ((ofK 1 m.imports).map (·.lim) ++ m.tables) ((ofK 2 m.imports).map (·.lim) ++ m.mems)) (fun k => m.globals.length - k.1) (0, vk154) ?_ ?_ ?_
                          · exact (Sub.cons rfl (Ext.sub (Ext.refl _ _)))
                          · exact ⟨Nat.zero_le _, o0, bx, by simpa using fs⟩
                          · rintro ⟨k, vk193⟩ H51 ⟨hk, o0, bx, fs⟩
                            have zl_H51 := o0.1
                            dsimp only at hk fs
                            have zfs := fs.sz
                            refine KC.seq ?_
                            refine KC.region ?_
                            refine KL.op (R.lss rfl rfl rfl) rfl rfl rfl ?_
                            refine KL.nil ?_
                            refine KQ.seq ?_
                            refine KC.seq ?_
                            refine KC.iteL rfl ?_ ?_
                            · intro hc194
                              try simp only [decide_eq_true_eq, decide_eq_false_iff_not, Bool.not_eq_true', Bool.not_eq_false', Bool.and_eq_true, Bool.or_eq_false_iff] at hc194
                              obtain ⟨cs, hcl, hcx, vi, rfl, hvi, hgr⟩ := mv.g.at k (by omega)
                              have hg4 := hsm.g
                              refine KC.skip ?_
                              refine KQ.seq ?_
                              refine KC.seq ?_
                              refine KC.block ?_
                              refine KC.seq ?_
                              refine KC.region ?_
                              refine KL.op (R.index (j := k) rfl Try.underlying31 sz84 rfl rfl mv.g rfl (by omega)) rfl rfl rfl ?_
                              refine KL.op (R.loadAgg rfl Try.underlying84 rfl sz84 rfl (o0.cells hcx) rfl) rfl rfl rfl ?_
                              have oP : Old H51 H51 := Old.refl _
                              refine KL.opM (M.alloc rfl zr84 rfl) rfl rfl rfl ?_
                              rintro _ H52 ⟨rfl, n52⟩
                              have z52 := n52.2.1
                              have o0 := o0.trans n52.1
                              have bx := (n52.1).blk bx
                              have oP := oP.trans n52.1
                              have b52 := n52.2.2
                              have bv := b52
                              refine KL.opS (S.storeAgg rfl sz84 rfl rfl (rfl) (by intro u hu; simp only [List.mem_cons, List.not_mem_nil, or_false] at hu; rcases hu with rfl | rfl | rfl <;> first | rfl | exact hvi) bv (by simp)) rfl rfl ?_
                              rintro H53 ⟨u53, b53⟩
                              have o0 := o0.upd u53 (by omega)
                              have zu53 := u53.1
                              have bx := ((u53).2 _ (by omega)).trans bx
                              have oP := oP.upd u53 (by omega)
                              have bv := b53
                              rw [over_all (by rfl)] at bv
                              have fs := fs.old oP
                              refine KL.nil ?_
                              refine KQ.seq ?_
                              refine KC.text (clOf [(7, 2), (8, 2), (11, 2)]) (fun j Hc => (j = 4 → Hc[(Array.size H2)]? = some (.cells [vt, vk90, vk193, vn1, vn2, .int .i64 ((ofK 0 m.imports).length : Nat), .int .i64 ((ofK 1 m.imports).length : Nat), .int .i64 ((ofK 2 m.imports).length : Nat), .int .i64 ((ofK 3 m.imports).length : Nat), ve].toArray 74 (0, 0))) ∧ (j = 6 → Hc[(Array.size H51)]? = some (.cells [.int .u8 (m.globals.getD k default).1, .bool (m.globals.getD k default).2, vi].toArray 84 (0, 0)))) (by kernel_rfl) (by kernel_rfl) (fun _ => ⟨fun _ => fs.b, fun _ => bv⟩) ?_
                              refine KP.op rfl (fun Hg hg => R.move rfl rfl) rfl rfl rfl ?_
                              refine KP.op rfl (fun Hg hg => R.move rfl rfl) rfl rfl rfl ?_
                              refine KP.op rfl (fun Hg hg => R.nilCheck rfl rfl) rfl rfl rfl ?_
                              refine KP.op rfl (fun Hg hg => (by first | exact R.fieldAddr rfl Try.underlying74 rfl rfl sz71 rfl | exact R.fieldAddrP rfl Try.underlying74 rfl rfl sz71 rfl)) rfl rfl rfl ?_
                              refine KP.op rfl (fun Hg hg => R.load rfl Try.underlying71 rfl rfl (cell_of (hg.1 rfl) rfl)) rfl rfl rfl ?_
                              refine KP.op rfl (fun Hg hg => (by first | exact R.fieldAddr rfl Try.underlying84 rfl rfl sz46 rfl | exact R.fieldAddrP rfl Try.underlying84 rfl rfl sz46 rfl)) rfl rfl rfl ?_
                              refine KP.op rfl (fun Hg hg => R.loadAgg (cs := (m.globals.getD k default).cells) rfl Try.underlying46 rfl sz46 rfl (cells_mid (k := 0) (n := 2) (hg.2 rfl)) rfl) rfl rfl rfl ?_
                              refine KP.opM rfl (M.lit rfl Try.underlying71 zs46 (by decide) rfl rfl rfl) rfl rfl rfl (fun _ _ hR j _ _ => ⟨fun _ => hR.2.1.blk fs.b, fun _ => hR.2.1.blk bv⟩) ?_
                              rintro _ H54 ⟨rfl, n54⟩
                              have z54 := n54.2.1
                              have o0 := o0.trans n54.1
                              have bx := (n54.1).blk bx
                              have bv := (n54.1).blk bv
                              have fs := fs.old n54.1
                              have b54 := n54.2.2
                              have se : Sl 2 EGlb H54 _ [(m.globals.getD k default)] := Sl.lit1N n54 rfl (by decide) ⟨rfl, hgr⟩
                              have wo := fs.rg
                              have zfs := fs.sz
                              have lt55 := wo.lt
                              refine KP.opM rfl (M.appendN rfl Try.underlying71 inf46 rfl (by decide) rfl rfl wo (by exact se) (fun _ _ h _ => h) (by omega) (by simp only [List.length_append, List.length_map, List.length_take, List.length_singleton]; omega) (by unfold maxLen; simp only [List.length_append, List.length_map, List.length_take, List.length_singleton]; omega)) rfl rfl rfl (fun _ _ hR j _ hj2 => ⟨fun hj => by subst hj; exact absurd (by decide +kernel) hj2, fun hj => by subst hj; exact absurd (by decide +kernel) hj2⟩) ?_
                              rintro vn H55 ⟨w55, g55, nx55⟩
                              try dsimp only at g55 nx55
                              have ob55 := g55.oldB wo (by omega)
                              have o0 := o0.then ob55 (by omega)
                              have z55 := ob55.1
                              have bx := (g55.2 _ (blk_lt bx) (by first | exact .inr (by omega) | exact .inl rfl | exact hve.imp id (fun h => by omega) | exact lt55.imp id (fun h => by omega))).trans bx
                              have wo := w55
                              have fs := fs.app_g w55 g55 nx55
                              have zfs := fs.sz
                              refine KP.op rfl (fun Hg hg => R.nilCheck rfl rfl) rfl rfl rfl ?_
                              refine KP.op rfl (fun Hg hg => (by first | exact R.fieldAddr rfl Try.underlying74 rfl rfl sz71 rfl | exact R.fieldAddrP rfl Try.underlying74 rfl rfl sz71 rfl)) rfl rfl rfl ?_
                              have bg := fs.b
                              refine KP.opS rfl (S.store rfl sz71 rfl rfl fs.rg.cells1 fs.rg.one bg (by simp)) rfl rfl (fun _ h j hj1 hj2 => ⟨fun hj => by subst hj; exact absurd (by decide +kernel) hj2, fun hj => by subst hj; exact absurd (by decide +kernel) hj2⟩) ?_
                              rintro H56 ⟨u56, b56⟩
                              have o0 := o0.upd u56 (by omega)
                              have zu56 := u56.1
                              have bx := ((u56).2 _ (by omega)).trans bx
                              have bg := b56
                              have fs := fs.sto_g u56 bg
                              refine KP.nil ?_
                              refine KQ.normBlock ?_
                              refine KQ.seq ?_
                              refine KC.region ?_
                              refine KL.op ((R.add rfl rfl rfl (by dsimp only [InR]; omega)).val (congrArg (Value.int .i64) (show (k : Int) + 1 = ((k + 1 : Nat) : Int) by omega))) rfl rfl rfl ?_
                              refine KL.op (R.move rfl rfl) rfl rfl rfl ?_
                              refine KL.nil ?_
                              refine KQ.again ((k + 1, vn)) ?_ ?_ ?_
                              · exact (Sub.cons rfl (Ext.sub (by repeat (first | exact Ext.refl _ _ | refine Ext.put rfl ?_ | refine Ext.drop rfl ?_))))
                              · show m.globals.length - (k + 1) < m.globals.length - k; omega
                              · exact ⟨by show k + 1 ≤ _; omega, o0, bx, by dsimp only; first | (rw [map_take_succ (by omega)]; exact fs) | (rw [take_succ (by rw [fnsOf_len]; omega), fnsOf_getD (by omega)]; exact fs) | (rw [take_succ (by omega), ← List.append_assoc]; exact fs)⟩
                            · intro hc194
                              try simp only [decide_eq_true_eq, decide_eq_false_iff_not, Bool.not_eq_true', Bool.not_eq_false', Bool.and_eq_true, Bool.or_eq_false_iff] at hc194
                              have hkl : k = m.globals.length := by omega
                              rw [hkl, List.take_length] at fs
                              refine KC.exit ?_
                              refine KQ.exitThen ?_
                              refine KQ.exitThen ?_
                              refine KQ.hit ?_
                              refine KQ.seq ?_
                              refine KC.seq ?_
                              refine KC.region ?_
                              refine KL.op (R.move rfl rfl) rfl rfl rfl ?_
                              refine KL.op (R.assign rfl rfl) rfl rfl rfl ?_
                              refine KL.nil ?_
                              refine KQ.seq ?_
                              refine KC.ret ?_
                              refine KQ.ofRet ?_
                              refine KQ.fin1 Try.results10 rfl ?_
                              exact ⟨(Array.size H2), vt, vk90, vk193, vn1, vn2, ve, rfl, ⟨fs.b, (pT _ fs.k).mapE (fun cs x hf => hf _ fs.k), ((fs.rf).sl (emptyOld _) (by decide)).mapE (fun cs x hf => hf _ fs.k), fs.rg.sl (emptyOld _) (by decide), fs.ra.sl (emptyOld _) (by decide), fs.rm.sl (emptyOld _) (by decide), pE _ fs.k⟩, by omega, o0⟩

end Go.Proofs.Ytbmikddaiedhiaa
