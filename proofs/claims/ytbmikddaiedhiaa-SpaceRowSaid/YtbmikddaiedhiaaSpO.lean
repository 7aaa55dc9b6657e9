/- The document's module. No condition. -/
import Derived.Test.YtbmikddaiedhiaaSpN
namespace Go.Proofs.Ytbmikddaiedhiaa
open Go Go.RowKit
set_option linter.unusedVariables false
set_option linter.unusedSimpArgs false
set_option linter.unnecessarySimpa false

/-- what stands at a place, or nought -/
def glbAt (l : List Glb) (i : Nat) : Glb := if i < l.length then l.getD i default else (0, false)
def limAt (l : List Lim) (i : Nat) : Lim := if i < l.length then l.getD i default else (0, 0)
theorem glbAt_of {H : Heap} {cs : List Value} {l : List Glb} {i : Nat} (h : (i < l.length ∧ EGlb H cs (l.getD i default)) ∨ (¬ i < l.length ∧ cs = [.int .u8 0, .bool false])) : cs = (glbAt l i).cells := by
  unfold glbAt
  rcases h with ⟨h1, h2⟩ | ⟨h1, rfl⟩
  · rw [if_pos h1]; exact h2.1
  · rw [if_neg h1]; rfl
theorem limAt_of {H : Heap} {cs : List Value} {l : List Lim} {i : Nat} (h : (i < l.length ∧ ELim H cs (l.getD i default)) ∨ (¬ i < l.length ∧ cs = [.int .u32 0, .int .i64 0])) : cs = (limAt l i).cells := by
  unfold limAt
  rcases h with ⟨h1, h2⟩ | ⟨h1, rfl⟩
  · rw [if_pos h1]; exact h2.1
  · rw [if_neg h1]; rfl

theorem SGlobal_v {H : Heap} {g : Nat} {vt vf vg va vm ve : Value} {s : Spc} (sp : SP H g vt vf vg va vm ve s) (i : Nat) (hi : i ≤ 4294967295) : Ct Try.prog 13 [.pointer (some ⟨g, 0, none⟩), .int .u32 (i : Nat)] H (fun u H' => u = .tuple #[.agg (glbAt (s.globals) i).cells.toArray, .bool (decide (i < (s.globals).length))] ∧ Old H H') :=
  (SGlobal_any sp i hi).mono (by
    rintro _ _ ⟨⟨cs, rfl, h⟩, o⟩
    rw [glbAt_of h]
    exact ⟨rfl, o⟩)

theorem STable_v {H : Heap} {g : Nat} {vt vf vg va vm ve : Value} {s : Spc} (sp : SP H g vt vf vg va vm ve s) (i : Nat) (hi : i ≤ 4294967295) : Ct Try.prog 15 [.pointer (some ⟨g, 0, none⟩), .int .u32 (i : Nat)] H (fun u H' => u = .tuple #[.agg (limAt (s.tables) i).cells.toArray, .bool (decide (i < (s.tables).length))] ∧ Old H H') :=
  (STable_any sp i hi).mono (by
    rintro _ _ ⟨⟨cs, rfl, h⟩, o⟩
    rw [limAt_of h]
    exact ⟨rfl, o⟩)

theorem SMem_v {H : Heap} {g : Nat} {vt vf vg va vm ve : Value} {s : Spc} (sp : SP H g vt vf vg va vm ve s) (i : Nat) (hi : i ≤ 4294967295) : Ct Try.prog 17 [.pointer (some ⟨g, 0, none⟩), .int .u32 (i : Nat)] H (fun u H' => u = .tuple #[.agg (limAt (s.mems) i).cells.toArray, .bool (decide (i < (s.mems).length))] ∧ Old H H') :=
  (SMem_any sp i hi).mono (by
    rintro _ _ ⟨⟨cs, rfl, h⟩, o⟩
    rw [limAt_of h]
    exact ⟨rfl, o⟩)

theorem RGlobal_v {H : Heap} {v0 v1 v2 v3 v4 v5 v6 v7 v8 v9 va vb : Value} {m : Mo} (mv : MV H v0 v1 v2 v3 v4 v5 v6 v7 v8 v9 va vb m) (i : Nat) (hi : i ≤ 4294967295) (hb : impN m 3 + ownK m 3 ≤ 1000000000) (hml : m.imports.length ≤ 1000000) : Ct Try.prog 14 [.agg [v0, v1, v2, v3, v4, v5, v6, v7, v8, v9, va, vb].toArray, .int .u32 (i : Nat)] H (fun u H' => u = .tuple #[.agg (glbAt (glL m) i).cells.toArray, .bool (decide (i < (glL m).length))] ∧ Old H H') :=
  (RGlobal_any mv i hi hb hml).mono (by
    rintro _ _ ⟨⟨cs, rfl, h⟩, o⟩
    rw [glbAt_of h]
    exact ⟨rfl, o⟩)

theorem RLim1_v {H : Heap} {v0 v1 v2 v3 v4 v5 v6 v7 v8 v9 va vb : Value} {m : Mo} (mv : MV H v0 v1 v2 v3 v4 v5 v6 v7 v8 v9 va vb m) (i : Nat) (hi : i ≤ 4294967295) (hb : impN m 1 + ownK m 1 ≤ 1000000000) (hml : m.imports.length ≤ 1000000) : Ct Try.prog 16 [.agg [v0, v1, v2, v3, v4, v5, v6, v7, v8, v9, va, vb].toArray, .int .u8 1, .int .u32 (i : Nat)] H (fun u H' => u = .tuple #[.agg (limAt (lmL m 1) i).cells.toArray, .bool (decide (i < (lmL m 1).length))] ∧ Old H H') :=
  (RLim1_any mv i hi hb hml).mono (by
    rintro _ _ ⟨⟨cs, rfl, h⟩, o⟩
    rw [limAt_of h]
    exact ⟨rfl, o⟩)

theorem RLim2_v {H : Heap} {v0 v1 v2 v3 v4 v5 v6 v7 v8 v9 va vb : Value} {m : Mo} (mv : MV H v0 v1 v2 v3 v4 v5 v6 v7 v8 v9 va vb m) (i : Nat) (hi : i ≤ 4294967295) (hb : impN m 2 + ownK m 2 ≤ 1000000000) (hml : m.imports.length ≤ 1000000) : Ct Try.prog 16 [.agg [v0, v1, v2, v3, v4, v5, v6, v7, v8, v9, va, vb].toArray, .int .u8 2, .int .u32 (i : Nat)] H (fun u H' => u = .tuple #[.agg (limAt (lmL m 2) i).cells.toArray, .bool (decide (i < (lmL m 2).length))] ∧ Old H H') :=
  (RLim2_any mv i hi hb hml).mono (by
    rintro _ _ ⟨⟨cs, rfl, h⟩, o⟩
    rw [limAt_of h]
    exact ⟨rfl, o⟩)


def M0 : Mo := ⟨[([], []), ([127], [])], [⟨⟨#[]⟩, ⟨#[]⟩, 0, 1, (0, 0), (0, false)⟩, ⟨⟨#[]⟩, ⟨#[]⟩, 2, 0, (1, -1), (0, false)⟩, ⟨⟨#[]⟩, ⟨#[]⟩, 0, 0, (0, 0), (0, false)⟩], [1, 7], [], [], [], [⟨⟨#[109, 97, 105, 110]⟩, 0, 2⟩]⟩
theorem M0_small : M0.Small := ⟨by decide, by decide, by decide, by decide, by decide, by decide, by decide⟩

set_option maxRecDepth 100000 in
set_option maxHeartbeats 4000000 in
theorem module_any {H : Heap} : Ct Try.prog 25 [] H (fun u H' => (∃ v0 v1 v2 v3 v4 v5 v6 v7 v8 v9 va vb, u = .agg [v0, v1, v2, v3, v4, v5, v6, v7, v8, v9, va, vb].toArray ∧ MV H' v0 v1 v2 v3 v4 v5 v6 v7 v8 v9 va vb M0) ∧ Old H H') := by
  refine Ct.mk Try.func25 rfl Try.ntmps25 rfl ?_
  intro W0 hW0
  have o0 : Old H H := Old.refl H
  refine KC.seq ?_
  refine KC.region ?_
  refine KL.opM (M.alloc rfl zr38 rfl) rfl rfl rfl ?_
  rintro _ H1 ⟨rfl, n1⟩
  have z1 := n1.2.1
  have o0 := o0.trans n1.1
  have b1 := n1.2.2
  have bq := b1
  refine KL.nil ?_
  refine KQ.seq ?_
  refine KC.seq ?_
  refine KC.region ?_
  refine KL.op (R.buildL rfl Try.underlying24 zr24 [(0, 1), (1, 1)] (fun w => by kernel_rfl) rfl trivial rfl rfl trivial rfl) rfl rfl rfl ?_
  refine KL.opM (M.lit rfl Try.underlying22 zs5 (by decide) rfl rfl rfl) rfl rfl rfl ?_
  rintro _ H2 ⟨rfl, n2⟩
  have z2 := n2.2.1
  have o0 := o0.trans n2.1
  have bq := (n2.1).blk bq
  have b2 := n2.2.2
  have o2 := Own.litI (l := [127]) n2 (Nat.le_refl _) rfl (by decide) (by decide)
  refine KL.op (R.buildL rfl Try.underlying24 zr24 [(0, 1), (1, 1)] (fun w => by kernel_rfl) rfl ⟨⟨_, rfl, rfl⟩, trivial⟩ rfl rfl ⟨⟨_, rfl, by first | rfl | exact o2.cells1⟩, trivial⟩ rfl) rfl rfl rfl ?_
  refine KL.opM (M.lit rfl Try.underlying27 zs24 (by decide) rfl rfl rfl) rfl rfl rfl ?_
  rintro _ H3 ⟨rfl, n3⟩
  have z3 := n3.2.1
  have o0 := o0.trans n3.1
  have bq := (n3.1).blk bq
  have o2 := o2.old n3.1
  have b3 := n3.2.2
  have w4 : Own 2 (FK EFTy H3 [Array.size H]) 24 #[] (Array.size H + 1) H3 _ (M0.types : List (FTy)) := Own.litN (n := 2) n3 (by omega) rfl (by decide) rfl (by
    intro j x hj
    match j, hj with
    | 0, hj => cases hj; exact fun Hq kx => ⟨_, _, rfl, Sl.nil _ _ _, Sl.nil _ _ _⟩
    | 1, hj => cases hj; exact fun Hq kx => ⟨_, _, rfl, fk_own o2 (by intro y hy; simp only [List.mem_cons, List.not_mem_nil, or_false] at hy; omega) Hq kx, Sl.nil _ _ _⟩)
  have kP : Old H3 H3 := Old.refl _
  refine KL.op (R.build (places := #[(0, 1), (1, 1), (2, 1), (3, 1), (4, 2), (6, 2)]) (cs := #[.string ⟨#[]⟩, .string ⟨#[]⟩, .int .u8 0, .int .u32 1, .int .u32 0, .int .i64 0, .int .u8 0, .bool false]) rfl Try.underlying63 zr63 (fun w => by kernel_rfl) rfl (by kernel_rfl)) rfl rfl rfl ?_
  refine KL.op (R.buildL rfl Try.underlying51 zr51 [(0, 1), (1, 1)] (fun w => by kernel_rfl) rfl ⟨⟨_, rfl, rfl⟩, ⟨_, rfl, rfl⟩, trivial⟩ rfl rfl ⟨⟨_, rfl, by first | rfl | exact o2.cells1 | exact w4.cells1⟩, ⟨_, rfl, by first | rfl | exact o2.cells1 | exact w4.cells1⟩, trivial⟩ rfl) rfl rfl rfl ?_
  refine KL.op (R.build (places := #[(0, 1), (1, 1), (2, 1), (3, 1), (4, 2), (6, 2)]) (cs := #[.string ⟨#[]⟩, .string ⟨#[]⟩, .int .u8 2, .int .u32 0, .int .u32 1, .int .i64 (-1), .int .u8 0, .bool false]) rfl Try.underlying63 zr63 (fun w => by kernel_rfl) rfl (by kernel_rfl)) rfl rfl rfl ?_
  refine KL.op (R.build (places := #[(0, 1), (1, 1), (2, 1), (3, 1), (4, 2), (6, 2)]) (cs := #[.string ⟨#[]⟩, .string ⟨#[]⟩, .int .u8 0, .int .u32 0, .int .u32 0, .int .i64 0, .int .u8 0, .bool false]) rfl Try.underlying63 zr63 (fun w => by kernel_rfl) rfl (by kernel_rfl)) rfl rfl rfl ?_
  refine KL.opM (M.lit rfl Try.underlying28 zs63 (by decide) rfl rfl rfl) rfl rfl rfl ?_
  rintro _ H4 ⟨rfl, n4⟩
  have z4 := n4.2.1
  have o0 := o0.trans n4.1
  have bq := (n4.1).blk bq
  have o2 := o2.old n4.1
  have w4 := w4.old n4.1
  have kP := kP.trans n4.1
  have b4 := n4.2.2
  have w9 : Own 8 (EImp) 63 #[] (Array.size H + 1) H4 _ (M0.imports : List (Imp)) := Own.litN (n := 8) n4 (by omega) rfl (by decide) rfl (by
    intro j x hj
    match j, hj with
    | 0, hj => cases hj; exact ⟨rfl, by unfold Imp.R Lim.R Glb.R; decide⟩
    | 1, hj => cases hj; exact ⟨rfl, by unfold Imp.R Lim.R Glb.R; decide⟩
    | 2, hj => cases hj; exact ⟨rfl, by unfold Imp.R Lim.R Glb.R; decide⟩)
  refine KL.opM (M.lit rfl Try.underlying29 zs33 (by decide) rfl rfl rfl) rfl rfl rfl ?_
  rintro _ H5 ⟨rfl, n5⟩
  have z5 := n5.2.1
  have o0 := o0.trans n5.1
  have bq := (n5.1).blk bq
  have o2 := o2.old n5.1
  have w4 := w4.old n5.1
  have kP := kP.trans n5.1
  have w9 := w9.old n5.1
  have b5 := n5.2.2
  have w10 := Own.litI (B := Array.size H + 1) (l := [1, 7]) n5 (by omega) rfl (by decide) (by decide)
  refine KL.op (R.buildL rfl Try.underlying69 zr69 [(0, 1), (1, 1), (2, 1)] (fun w => by kernel_rfl) rfl ⟨⟨_, rfl, rfl⟩, ⟨_, rfl, rfl⟩, trivial⟩ rfl rfl ⟨⟨_, rfl, by first | rfl | exact o2.cells1 | exact w4.cells1 | exact w9.cells1 | exact w10.cells1⟩, ⟨_, rfl, by first | rfl | exact o2.cells1 | exact w4.cells1 | exact w9.cells1 | exact w10.cells1⟩, trivial⟩ rfl) rfl rfl rfl ?_
  refine KL.opM (M.lit rfl Try.underlying32 zs69 (by decide) rfl rfl rfl) rfl rfl rfl ?_
  rintro _ H6 ⟨rfl, n6⟩
  have z6 := n6.2.1
  have o0 := o0.trans n6.1
  have bq := (n6.1).blk bq
  have o2 := o2.old n6.1
  have w4 := w4.old n6.1
  have kP := kP.trans n6.1
  have w9 := w9.old n6.1
  have w10 := w10.old n6.1
  have b6 := n6.2.2
  have w12 : Own 3 (EExp) 69 #[] (Array.size H + 1) H6 _ (M0.exports : List (Exp)) := Own.litN (n := 3) n6 (by omega) rfl (by decide) rfl (by
    intro j x hj
    match j, hj with
    | 0, hj => cases hj; exact ⟨rfl, by unfold Exp.R; decide⟩)
  refine KL.op (R.buildL rfl Try.underlying38 zr38 [(0, 1), (1, 1), (2, 1), (3, 1), (4, 1), (5, 1), (6, 1), (7, 1), (8, 1), (9, 1), (10, 1), (11, 1)] (fun w => by kernel_rfl) rfl ⟨⟨_, rfl, rfl⟩, ⟨_, rfl, rfl⟩, ⟨_, rfl, rfl⟩, ⟨_, rfl, rfl⟩, trivial⟩ rfl rfl ⟨⟨_, rfl, by first | rfl | exact o2.cells1 | exact w4.cells1 | exact w9.cells1 | exact w10.cells1 | exact w12.cells1⟩, ⟨_, rfl, by first | rfl | exact o2.cells1 | exact w4.cells1 | exact w9.cells1 | exact w10.cells1 | exact w12.cells1⟩, ⟨_, rfl, by first | rfl | exact o2.cells1 | exact w4.cells1 | exact w9.cells1 | exact w10.cells1 | exact w12.cells1⟩, ⟨_, rfl, by first | rfl | exact o2.cells1 | exact w4.cells1 | exact w9.cells1 | exact w10.cells1 | exact w12.cells1⟩, trivial⟩ rfl) rfl rfl rfl ?_
  refine KL.opS (S.storeAgg rfl sz38 rfl rfl (rfl) (by intro u hu; simp only [List.mem_cons, List.not_mem_nil, or_false] at hu; rcases hu with rfl | rfl | rfl | rfl | rfl | rfl | rfl | rfl | rfl | rfl | rfl | rfl <;> rfl) bq (by simp)) rfl rfl ?_
  rintro H7 ⟨u7, b7⟩
  have o0 := o0.upd u7 (by omega)
  have zu7 := u7.1
  have o2 := o2.upd u7 (by first | exact .inl rfl | exact .inr (by omega) | exact o2.lt.imp id (fun h => by omega))
  have w4 := w4.upd u7 (by first | exact .inl rfl | exact .inr (by omega) | exact w4.lt.imp id (fun h => by omega))
  have w9 := w9.upd u7 (by first | exact .inl rfl | exact .inr (by omega) | exact w9.lt.imp id (fun h => by omega))
  have w10 := w10.upd u7 (by first | exact .inl rfl | exact .inr (by omega) | exact w10.lt.imp id (fun h => by omega))
  have w12 := w12.upd u7 (by first | exact .inl rfl | exact .inr (by omega) | exact w12.lt.imp id (fun h => by omega))
  have bq := b7
  rw [over_all (by rfl)] at bq
  have kx := ((KeepX.refl [Array.size H] _).oldR kP).updR u7
  refine KL.nil ?_
  refine KQ.seq ?_
  refine KC.ret ?_
  refine KQ.ofRet ?_
  refine KQ.finCell Try.results25 rfl Try.underlying38 rfl sz38 (cells_of bq) (rfl) ?_
  exact ⟨⟨_, _, _, _, _, _, _, _, _, _, _, _, rfl, ⟨(w4.sl (emptyOld _) (by decide)).mapE (fun cs x hf => hf _ kx), w9.sl (emptyOld _) (by decide), w10.sl (emptyOld _) (by decide), Sl.nil _ _ _, Sl.nil _ _ _, Sl.nil _ _ _, w12.sl (emptyOld _) (by decide), rfl, rfl, rfl, rfl, rfl⟩⟩, o0⟩

end Go.Proofs.Ytbmikddaiedhiaa
