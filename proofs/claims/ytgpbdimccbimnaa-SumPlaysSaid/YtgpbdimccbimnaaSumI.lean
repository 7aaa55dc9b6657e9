/- gabellelaw33.SumEnds, walked. No condition. -/
import Derived.Test.YtgpbdimccbimnaaSumH
import Derived.Test.YtgpbdimccbimnaaKVals
namespace Go.Proofs.Ytgpbdimccbimnaa
open Go Go.RowKit
set_option linter.unusedVariables false
set_option linter.unusedSimpArgs false
set_option linter.unnecessarySimpa false

/-- two rows apart from one another -/
def SepV (v w : Value) : Prop := v = .slice none 0 0 ∨ w = .slice none 0 0 ∨ vblock v ≠ vblock w
theorem SepV.nx {H : Heap} {v v' w : Value} (h : SepV v w) (nx : Nx H v v') (hw : w = .slice none 0 0 ∨ vblock w < H.size) : SepV v' w := by
  rcases nx with n | ⟨n1, n2⟩ | n
  · exact .inl n
  · rcases h with h | h | h
    · exact absurd h n1
    · exact .inr (.inl h)
    · exact .inr (.inr (by rw [n2]; exact h))
  · rcases hw with hw | hw
    · exact .inr (.inl hw)
    · exact .inr (.inr (by omega))
theorem SepV.symm {v w : Value} (h : SepV v w) : SepV w v := by
  rcases h with h | h | h
  · exact .inr (.inl h)
  · exact .inl h
  · exact .inr (.inr (fun e => h e.symm))
theorem HMn.grown {H H' : Heap} {g : Nat} {vr v : Value} {m : List Int} {n : Int} (h : HMn H g vr m n) (gr : Grown v H H') (hg : v = .slice none 0 0 ∨ g ≠ vblock v) (hs : SepV vr v) : HMn H' g vr m n := by
  refine ⟨(gr.2 g (blk_lt h.bg) hg).trans h.bg, ?_⟩
  rcases h.wr.lt with e | e
  · subst e
    obtain ⟨flat, ⟨h0, hc⟩, hel⟩ := h.wr
    rcases hc with hc | ⟨_, _, _, hv, _⟩
    · exact ⟨flat, ⟨h0, .inl hc⟩, hel⟩
    · cases hv
  · rcases hs with hs | hs | hs
    · subst hs
      obtain ⟨flat, ⟨h0, hc⟩, hel⟩ := h.wr
      rcases hc with hc | ⟨_, _, _, hv, _⟩
      · exact ⟨flat, ⟨h0, .inl hc⟩, hel⟩
      · cases hv
    · exact h.wr.keep (gr.2 _ e.2 (.inl hs))
    · exact h.wr.keep (gr.2 _ e.2 (.inr hs))
theorem rep_succ (k : Nat) (c : Int) : List.replicate (k + 1) c = List.replicate k c ++ [c] := by rw [List.replicate_succ']

set_option maxRecDepth 100000 in
set_option maxHeartbeats 4000000 in
theorem SumEnds_any {H : Heap} (c : Int) (hc : InR .u8 c) : Ct Try.prog 5 [.int .u8 c] H (fun u H' => u = .bool true ∧ Old H H') := by
  refine Ct.mk Try.func5 rfl Try.ntmps5 rfl ?_
  intro W0 hW0
  have o0 : Old H H := Old.refl H
  refine KC.seq ?_
  refine KC.region ?_
  refine KL.op (R.assign rfl rfl) rfl rfl rfl ?_
  refine KL.nil ?_
  refine KQ.seq ?_
  refine KC.seq ?_
  refine KC.seq ?_
  refine KC.region ?_
  refine KL.call rfl rfl rfl rfl Try.call7 rfl rfl rfl (known_any) ?_
  rintro _ H1 ⟨rfl, ox⟩
  have zc_H1 := (ox).1
  have o0 := o0.trans ox
  refine KL.op (R.not rfl rfl) rfl rfl rfl ?_
  refine KL.nil ?_
  refine KQ.seq ?_
  refine KC.condF rfl ?_
  refine KC.skip ?_
  refine KQ.seq ?_
  refine KC.seq ?_
  refine KC.region ?_
  have zN := o0.1
  refine KL.call rfl rfl rfl rfl Try.call8 rfl rfl rfl (New_any) ?_
  rintro _ H2 ⟨rfl, hm0, ox, zx⟩
  have zc_H2 := (ox).1
  have o0 := o0.trans ox
  refine KL.op (R.assign rfl rfl) rfl rfl rfl ?_
  refine KL.nil ?_
  refine KQ.seq ?_
  refine KC.seq ?_
  refine KC.region ?_
  refine KL.op (R.assign rfl rfl) rfl rfl rfl ?_
  refine KL.nil ?_
  refine KQ.seq ?_
  refine KC.seq ?_
  refine KC.seq ?_
  refine KC.region ?_
  refine KL.op (R.move rfl rfl) rfl rfl rfl ?_
  refine KL.nil ?_
  refine KQ.seq ?_
  refine KC.block ?_
  refine KC.loopD (κ := Nat × Value) [9, 10, 11, 12, 13, 14, 15, 16, 17, 18, 4, 19, 20, 21, 22, 23, 24, 25, 26, 27, 28, 29, 30, 31, 32, 33, 34, 35, 36, 37, 38, 2, 39, 8] (fun k => [(8, .int .i64 (k.1 : Nat)), (4, k.2)]) (fun k Hl => k.1 ≤ 140 ∧ (∃ vr, HMn Hl (Array.size H1) vr (List.replicate k.1 c) (k.1 : Nat) ∧ SepV vr k.2) ∧ Own 1 (EInt .u8) 5 #[] (Array.size H1 + 1) Hl k.2 (List.replicate k.1 c) ∧ Old H Hl) (fun k => 140 - k.1) (0, .slice none 0 0) ?_ ?_ ?_
  · exact (Sub.cons rfl (Sub.cons rfl (Ext.sub (Ext.refl _ _))))
  · exact ⟨by omega, ⟨_, hm0, .inl rfl⟩, Own.nil _ _ _ _ _ _, o0⟩
  · rintro ⟨k, va⟩ H3 ⟨hk, ⟨vr, hm, sep⟩, wa, o0⟩
    have zl_H3 := o0.1
    dsimp only
    dsimp only at hk hm sep wa
    have zl := o0.1
    have hrl : (List.replicate k c).length = k := List.length_replicate
    have hvr := hm.wr.lt
    have hva := wa.lt
    have hgl := blk_lt hm.bg
    have hm1 := hm
    refine KC.seq ?_
    refine KC.region ?_
    refine KL.op (R.lss rfl rfl rfl) rfl rfl rfl ?_
    refine KL.nil ?_
    refine KQ.seq ?_
    refine KC.seq ?_
    refine KC.iteL rfl ?_ ?_
    · intro hc9
      try simp only [decide_eq_true_eq, decide_eq_false_iff_not, Bool.not_eq_true', Bool.not_eq_false', Bool.and_eq_true, Bool.or_eq_false_iff] at hc9
      refine KC.skip ?_
      refine KQ.seq ?_
      refine KC.seq ?_
      refine KC.block ?_
      refine KC.seq ?_
      refine KC.region ?_
      refine KL.op (R.move rfl rfl) rfl rfl rfl ?_
      refine KL.op (R.move rfl rfl) rfl rfl rfl ?_
      refine KL.opM (M.lit rfl Try.underlying24 zs5 (by decide) rfl rfl rfl) rfl rfl rfl ?_
      rintro _ H4 ⟨rfl, n4⟩
      have z4 := n4.2.1
      have o0 := o0.trans n4.1
      have wa := wa.old n4.1
      have hm1 := hm1.old n4.1
      have b4 := n4.2.2
      have s12 : Sl 1 (EInt .u8) H4 _ [c] := Sl.lits (l := [c]) n4 rfl (by simp) (by intro x hx; simp only [List.mem_singleton] at hx; subst hx; exact hc)
      refine KL.opM (M.lit rfl Try.underlying50 zs24 (by decide) rfl rfl rfl) rfl rfl rfl ?_
      rintro _ H5 ⟨rfl, n5⟩
      have z5 := n5.2.1
      have o0 := o0.trans n5.1
      have wa := wa.old n5.1
      have hm1 := hm1.old n5.1
      have b5 := n5.2.2
      have hst1 := stab_lit (g := Array.size H1) (vr := vr) (ls := [[c]]) (vs := [.slice (some ⟨Array.size H3, 0, none⟩) 1 1]) b5 rfl (by simp [maxLen]) (by intro j v l hj hl; match j, hj, hl with | 0, hj, hl => cases hj; cases hl; exact ⟨s12.old n5.1, .inr ⟨by show Array.size _ < _; omega, by show Array.size _ ≠ _; omega, hvr.imp id (fun h => by show Array.size _ ≠ _; omega)⟩⟩) (by omega) (hvr.imp id (fun h => by omega))
      refine KL.call rfl rfl rfl rfl Try.call9 rfl rfl rfl (Write_any (Array.size H1) vr (List.replicate k c) _ [[c]] (by rw [hrl]; exact hm1) hst1 (by rw [hrl]; simp; omega)) ?_
      rintro _ H6 ⟨rfl, vr2, hm2, f2, nx2⟩
      have ob2 := f2.oldB (B := H.size) (by have := o0.1; omega) (by omega) (hvr.imp id (fun h => by omega))
      have wa := wa.fr f2 (by
        rcases sep with e | e | e
        · exact hva.imp id (fun h => ⟨by omega, .inl e⟩)
        · exact .inl e
        · exact hva.imp id (fun h => ⟨by omega, .inr (fun e2 => e e2.symm)⟩))
      have sep2 := sep.nx nx2 (hva.imp id (fun h => by omega))
      rw [flat1, ← rep_succ, List.length_replicate] at hm2
      have z_ob2 := ob2.1
      have o0 := o0.then ob2 (by omega)
      have zw := f2.1
      refine KL.nil ?_
      refine KQ.seq ?_
      refine KC.seq ?_
      refine KC.region ?_
      refine KL.op (R.move rfl rfl) rfl rfl rfl ?_
      refine KL.op (R.move rfl rfl) rfl rfl rfl ?_
      refine KL.opM (M.lit rfl Try.underlying24 zs5 (by decide) rfl rfl rfl) rfl rfl rfl ?_
      rintro _ H7 ⟨rfl, n7⟩
      have z7 := n7.2.1
      have o0 := o0.trans n7.1
      have wa := wa.old n7.1
      have hm2 := hm2.old n7.1
      have b7 := n7.2.2
      have s17 : Sl 1 (EInt .u8) H7 _ [c] := Sl.lits (l := [c]) n7 rfl (by simp) (by intro x hx; simp only [List.mem_singleton] at hx; subst hx; exact hc)
      have hva2 := wa.lt
      have lt8 := wa.lt
      refine KL.opM (M.appendN rfl Try.underlying24 inf5 rfl (by decide) rfl rfl wa (by exact s17) (fun _ _ h _ => h) (by omega) (by simp; omega) (by unfold maxLen; simp; omega)) rfl rfl rfl ?_
      rintro vn H8 ⟨w8, g8, nx8⟩
      try dsimp only at g8 nx8
      have ob8 := g8.oldB wa (by omega)
      have o0 := o0.then ob8 (by omega)
      have z8 := ob8.1
      have wa := w8
      have hm3 := hm2.grown g8 (hva2.imp id (fun h => by omega)) sep2
      have sep3 := (sep2.symm.nx nx8 (hm2.wr.lt.imp id (fun h => h.2))).symm
      rw [← rep_succ] at wa
      refine KL.op (R.assign rfl rfl) rfl rfl rfl ?_
      refine KL.nil ?_
      refine KQ.seq ?_
      refine KC.seq ?_
      have hmL : HMn H8 (Array.size H1) vr2 (List.replicate (k + 1) c) ((List.replicate (k + 1) c).length : Nat) := by rw [List.length_replicate]; exact hm3
      obtain ⟨b0, hb0⟩ : ∃ b, b = decide (Sha.digest (List.replicate (k + 1) c) = Sha.digest ((List.replicate (k + 1) c).drop 1)) := ⟨_, rfl⟩
      refine KC.valsL [19, 20, 21, 22, 23, 24, 25, 26, 27, 28, 29, 30, 31, 32, 33, 34, 35, 36, 37, 38] [[], [0], [], [2], [3, 1], [1, 4], [5, 4], [6], [7, 6, 6], [6], [9, 6], [10, 6], [11, 8, 6], [8, 12, 6], [13, 12, 6], [14], [15, 14], [16, 14], [14, 17, 6], [6, 18]] (fun (i : Nat) (u : Value) (Hc : Heap) => match i with | 0 => u = .pointer (some ⟨Array.size H1, 0, none⟩) | 1 => u = .agg ((Sha.digest (List.replicate (k + 1) c)).map (Value.int .u8)).toArray | 2 => u = vn | 3 => Sl 1 (ESl 1 (EInt .u8)) Hc u [List.replicate (k + 1) c] | 4 => u = .agg ((Sha.digest (List.replicate (k + 1) c)).map (Value.int .u8)).toArray | 5 => u = .bool false | 6 => u = .bool false | 7 => u = .pointer (some ⟨Array.size H1, 0, none⟩) | 8 => u = .agg ((Sha.digest (List.replicate (k + 1) c)).map (Value.int .u8)).toArray | 9 => u = vn | 10 => u = subV 1 vn 1 (List.replicate (k + 1) c).length | 11 => Sl 1 (ESl 1 (EInt .u8)) Hc u [(List.replicate (k + 1) c).drop 1] | 12 => u = .agg ((Sha.digest ((List.replicate (k + 1) c).drop 1)).map (Value.int .u8)).toArray | 13 => u = .bool b0 | 14 => u = .bool b0 | 15 => u = gval b0 vn | 16 => u = gval b0 (.int .i64 ((List.replicate (k + 1) c).length : Nat)) | 17 => u = gval b0 (.bool false) | 18 => u = .bool false | 19 => u = .bool false | _ => True) (by kernel_rfl) (by kernel_rfl) (by kernel_rfl) (by kernel_rfl) ?_ ?_
      · intro i o ho u Hc og hp
        have hst : ∀ H2, Old Hc H2 → ∀ j x, (fun (i : Nat) (u : Value) (Hc : Heap) => match i with | 0 => u = .pointer (some ⟨Array.size H1, 0, none⟩) | 1 => u = .agg ((Sha.digest (List.replicate (k + 1) c)).map (Value.int .u8)).toArray | 2 => u = vn | 3 => Sl 1 (ESl 1 (EInt .u8)) Hc u [List.replicate (k + 1) c] | 4 => u = .agg ((Sha.digest (List.replicate (k + 1) c)).map (Value.int .u8)).toArray | 5 => u = .bool false | 6 => u = .bool false | 7 => u = .pointer (some ⟨Array.size H1, 0, none⟩) | 8 => u = .agg ((Sha.digest (List.replicate (k + 1) c)).map (Value.int .u8)).toArray | 9 => u = vn | 10 => u = subV 1 vn 1 (List.replicate (k + 1) c).length | 11 => Sl 1 (ESl 1 (EInt .u8)) Hc u [(List.replicate (k + 1) c).drop 1] | 12 => u = .agg ((Sha.digest ((List.replicate (k + 1) c).drop 1)).map (Value.int .u8)).toArray | 13 => u = .bool b0 | 14 => u = .bool b0 | 15 => u = gval b0 vn | 16 => u = gval b0 (.int .i64 ((List.replicate (k + 1) c).length : Nat)) | 17 => u = gval b0 (.bool false) | 18 => u = .bool false | 19 => u = .bool false | _ => True) j x Hc → (fun (i : Nat) (u : Value) (Hc : Heap) => match i with | 0 => u = .pointer (some ⟨Array.size H1, 0, none⟩) | 1 => u = .agg ((Sha.digest (List.replicate (k + 1) c)).map (Value.int .u8)).toArray | 2 => u = vn | 3 => Sl 1 (ESl 1 (EInt .u8)) Hc u [List.replicate (k + 1) c] | 4 => u = .agg ((Sha.digest (List.replicate (k + 1) c)).map (Value.int .u8)).toArray | 5 => u = .bool false | 6 => u = .bool false | 7 => u = .pointer (some ⟨Array.size H1, 0, none⟩) | 8 => u = .agg ((Sha.digest (List.replicate (k + 1) c)).map (Value.int .u8)).toArray | 9 => u = vn | 10 => u = subV 1 vn 1 (List.replicate (k + 1) c).length | 11 => Sl 1 (ESl 1 (EInt .u8)) Hc u [(List.replicate (k + 1) c).drop 1] | 12 => u = .agg ((Sha.digest ((List.replicate (k + 1) c).drop 1)).map (Value.int .u8)).toArray | 13 => u = .bool b0 | 14 => u = .bool b0 | 15 => u = gval b0 vn | 16 => u = gval b0 (.int .i64 ((List.replicate (k + 1) c).length : Nat)) | 17 => u = gval b0 (.bool false) | 18 => u = .bool false | 19 => u = .bool false | _ => True) j x H2 := by
          intro H2 o2 j x hx
          match j, hx with
          | 0, hx => exact hx
          | 1, hx => exact hx
          | 2, hx => exact hx
          | 3, hx => exact Sl.old hx o2
          | 4, hx => exact hx
          | 5, hx => exact hx
          | 6, hx => exact hx
          | 7, hx => exact hx
          | 8, hx => exact hx
          | 9, hx => exact hx
          | 10, hx => exact hx
          | 11, hx => exact Sl.old hx o2
          | 12, hx => exact hx
          | 13, hx => exact hx
          | 14, hx => exact hx
          | 15, hx => exact hx
          | 16, hx => exact hx
          | 17, hx => exact hx
          | 18, hx => exact hx
          | 19, hx => exact hx
          | j + 20, hx => exact hx
        match i, ho, hp with
        | 0, ho, hp =>
          have e := Option.some.inj (ho : some _ = some o)
          subst e
          change ∀ j ∈ ([] : List Nat), _ at hp
          change Ob _ _ (([] : Env) ++ _) _ _ _
          exact .inl ⟨rfl, D1.op (R.move rfl rfl) ⟨rfl, og, fun _ _ h => h⟩⟩
        | 1, ho, hp =>
          have e := Option.some.inj (ho : some _ = some o)
          subst e
          change ∀ j ∈ ([0] : List Nat), _ at hp
          have h19 : (u 0) = .pointer (some ⟨Array.size H1, 0, none⟩) := hp 0 (by simp)
          change Ob _ _ (([(19, u 0)] : Env) ++ _) _ _ _
          simp only [h19]
          exact .inl ⟨rfl, D1.call rfl rfl rfl rfl Try.call11 (Sum_any _ _ _ (hmL.old og) (by rw [List.length_replicate]; omega)) (by rintro _ H2 ⟨rfl, ox⟩; exact ⟨rfl, og.trans ox, hst _ ox⟩)⟩
        | 2, ho, hp =>
          have e := Option.some.inj (ho : some _ = some o)
          subst e
          change ∀ j ∈ ([] : List Nat), _ at hp
          change Ob _ _ (([] : Env) ++ _) _ _ _
          exact .inl ⟨rfl, D1.op (R.move rfl rfl) ⟨rfl, og, fun _ _ h => h⟩⟩
        | 3, ho, hp =>
          have e := Option.some.inj (ho : some _ = some o)
          subst e
          change ∀ j ∈ ([2] : List Nat), _ at hp
          have h21 : (u 2) = vn := hp 2 (by simp)
          change Ob _ _ (([(21, u 2)] : Env) ++ _) _ _ _
          simp only [h21]
          refine .inl ⟨rfl, D1.mem (M.lit rfl Try.underlying50 zs24 (by decide) rfl rfl (by obtain ⟨a, c2, hv2, _⟩ := wa.val; subst hv2; rfl)) ?_⟩
          rintro _ H2 ⟨rfl, nn⟩
          refine ⟨?_, og.trans nn.1, hst _ nn.1⟩
          have nn2 := nn
          rw [show flatV [vn] = [vn] from (by obtain ⟨a, c2, hv2, _⟩ := wa.val; subst hv2; rfl)] at nn2
          exact (Own.lit (E := ESl 1 (EInt .u8)) (H0 := H2) (B := 0) (l := [List.replicate (k + 1) c]) nn2 (Nat.zero_le _) rfl (by simp [maxLen]) rfl (by intro j x2 u hj hu; match j, hj, hu with | 0, hj, hu => cases hj; cases hu; exact ⟨_, rfl, ((wa.sl (emptyOld _) (by omega))).old (og.trans nn.1)⟩)).sl (Old.refl _) (by omega)
        | 4, ho, hp =>
          have e := Option.some.inj (ho : some _ = some o)
          subst e
          change ∀ j ∈ ([3, 1] : List Nat), _ at hp
          have h20 : (u 1) = .agg ((Sha.digest (List.replicate (k + 1) c)).map (Value.int .u8)).toArray := hp 1 (by simp)
          have h22 : Sl 1 (ESl 1 (EInt .u8)) Hc (u 3) [List.replicate (k + 1) c] := hp 3 (by simp)
          change Ob _ _ (([(22, u 3), (20, u 1)] : Env) ++ _) _ _ _
          simp only [h20]
          exact .inl ⟨rfl, D1.call rfl rfl rfl rfl Try.call14 (Of_any _ _ h22 (by rw [flat1, List.length_replicate]; omega)) (by rintro _ H2 ⟨rfl, ox⟩; exact ⟨by rw [flat1], og.trans ox, hst _ ox⟩)⟩
        | 5, ho, hp =>
          have e := Option.some.inj (ho : some _ = some o)
          subst e
          change ∀ j ∈ ([1, 4] : List Nat), _ at hp
          have h20 : (u 1) = .agg ((Sha.digest (List.replicate (k + 1) c)).map (Value.int .u8)).toArray := hp 1 (by simp)
          have h23 : (u 4) = .agg ((Sha.digest (List.replicate (k + 1) c)).map (Value.int .u8)).toArray := hp 4 (by simp)
          change Ob _ _ (([(20, u 1), (23, u 4)] : Env) ++ _) _ _ _
          simp only [h20, h23]
          exact .inl ⟨rfl, D1.op ((R.neqA rfl Try.underlying33 Try.underlying5 sz5 (by kernel_rfl) rfl rfl (Sha.digest_length _) (Sha.digest_length _)).val (congrArg (fun b => Value.bool (!b)) (decide_eq_true rfl))) ⟨rfl, og, fun _ _ h => h⟩⟩
        | 6, ho, hp =>
          have e := Option.some.inj (ho : some _ = some o)
          subst e
          change ∀ j ∈ ([5, 4] : List Nat), _ at hp
          have h23 : (u 4) = .agg ((Sha.digest (List.replicate (k + 1) c)).map (Value.int .u8)).toArray := hp 4 (by simp)
          have h24 : (u 5) = .bool false := hp 5 (by simp)
          change Ob _ _ (([(24, u 5), (23, u 4)] : Env) ++ _) _ _ _
          simp only [h23, h24]
          exact .inl ⟨rfl, D1.op (R.move rfl rfl) ⟨rfl, og, fun _ _ h => h⟩⟩
        | 7, ho, hp =>
          have e := Option.some.inj (ho : some _ = some o)
          subst e
          change ∀ j ∈ ([6] : List Nat), _ at hp
          have h25 : (u 6) = .bool false := hp 6 (by simp)
          change Ob _ _ (([(25, u 6)] : Env) ++ _) _ _ _
          simp only [h25]
          exact .inl ⟨rfl, D1.op (R.move rfl rfl) ⟨rfl, og, fun _ _ h => h⟩⟩
        | 8, ho, hp =>
          have e := Option.some.inj (ho : some _ = some o)
          subst e
          change ∀ j ∈ ([7, 6, 6] : List Nat), _ at hp
          have h25 : (u 6) = .bool false := hp 6 (by simp)
          have h26 : (u 7) = .pointer (some ⟨Array.size H1, 0, none⟩) := hp 7 (by simp)
          change Ob _ _ (([(26, u 7), (25, u 6), (25, u 6)] : Env) ++ _) _ _ _
          simp only [h25, h26]
          exact .inl ⟨rfl, D1.call rfl rfl rfl rfl Try.call11 (Sum_any _ _ _ (hmL.old og) (by rw [List.length_replicate]; omega)) (by rintro _ H2 ⟨rfl, ox⟩; exact ⟨rfl, og.trans ox, hst _ ox⟩)⟩
        | 9, ho, hp =>
          have e := Option.some.inj (ho : some _ = some o)
          subst e
          change ∀ j ∈ ([6] : List Nat), _ at hp
          have h25 : (u 6) = .bool false := hp 6 (by simp)
          change Ob _ _ (([(25, u 6)] : Env) ++ _) _ _ _
          simp only [h25]
          exact .inl ⟨rfl, D1.op (R.move rfl rfl) ⟨rfl, og, fun _ _ h => h⟩⟩
        | 10, ho, hp =>
          have e := Option.some.inj (ho : some _ = some o)
          subst e
          change ∀ j ∈ ([9, 6] : List Nat), _ at hp
          have h25 : (u 6) = .bool false := hp 6 (by simp)
          have h28 : (u 9) = vn := hp 9 (by simp)
          change Ob _ _ (([(28, u 9), (25, u 6)] : Env) ++ _) _ _ _
          simp only [h25, h28]
          exact .inl ⟨rfl, D1.op (R.slice (i := 1) (j := (List.replicate (k + 1) c).length) rfl Try.underlying24 sz5 rfl (wa.sl (emptyOld _) (by omega)) (bnd.mk rfl rfl) bnd.no (by rw [List.length_replicate]; omega) (Nat.le_refl _)) ⟨rfl, og, fun _ _ h => h⟩⟩
        | 11, ho, hp =>
          have e := Option.some.inj (ho : some _ = some o)
          subst e
          change ∀ j ∈ ([10, 6] : List Nat), _ at hp
          have h25 : (u 6) = .bool false := hp 6 (by simp)
          have h29 : (u 10) = subV 1 vn 1 (List.replicate (k + 1) c).length := hp 10 (by simp)
          change Ob _ _ (([(29, u 10), (25, u 6)] : Env) ++ _) _ _ _
          simp only [h25, h29]
          have hsub := (wa.sl (emptyOld _) (by omega)).sub (lo := 1) (hi := (List.replicate (k + 1) c).length) (by rw [List.length_replicate]; omega) (Nat.le_refl _)
          rw [List.take_length] at hsub
          refine .inl ⟨rfl, D1.mem (M.lit rfl Try.underlying50 zs24 (by decide) rfl rfl (by obtain ⟨a, c2, hv2⟩ := hsub.val; rw [hv2]; rfl)) ?_⟩
          rintro _ H2 ⟨rfl, nn⟩
          refine ⟨?_, og.trans nn.1, hst _ nn.1⟩
          have nn2 := nn
          rw [show flatV [subV 1 vn 1 (List.replicate (k + 1) c).length] = [subV 1 vn 1 (List.replicate (k + 1) c).length] from (by obtain ⟨a, c2, hv2⟩ := hsub.val; rw [hv2]; rfl)] at nn2
          exact (Own.lit (E := ESl 1 (EInt .u8)) (H0 := H2) (B := 0) (l := [(List.replicate (k + 1) c).drop 1]) nn2 (Nat.zero_le _) rfl (by simp [maxLen]) rfl (by intro j x2 u hj hu; match j, hj, hu with | 0, hj, hu => cases hj; cases hu; exact ⟨_, rfl, (hsub).old (og.trans nn.1)⟩)).sl (Old.refl _) (by omega)
        | 12, ho, hp =>
          have e := Option.some.inj (ho : some _ = some o)
          subst e
          change ∀ j ∈ ([11, 8, 6] : List Nat), _ at hp
          have h25 : (u 6) = .bool false := hp 6 (by simp)
          have h27 : (u 8) = .agg ((Sha.digest (List.replicate (k + 1) c)).map (Value.int .u8)).toArray := hp 8 (by simp)
          have h30 : Sl 1 (ESl 1 (EInt .u8)) Hc (u 11) [(List.replicate (k + 1) c).drop 1] := hp 11 (by simp)
          change Ob _ _ (([(30, u 11), (27, u 8), (25, u 6)] : Env) ++ _) _ _ _
          simp only [h25, h27]
          exact .inl ⟨rfl, D1.call rfl rfl rfl rfl Try.call14 (Of_any _ _ h30 (by rw [flat1, List.length_drop, List.length_replicate]; omega)) (by rintro _ H2 ⟨rfl, ox⟩; exact ⟨by rw [flat1], og.trans ox, hst _ ox⟩)⟩
        | 13, ho, hp =>
          have e := Option.some.inj (ho : some _ = some o)
          subst e
          change ∀ j ∈ ([8, 12, 6] : List Nat), _ at hp
          have h25 : (u 6) = .bool false := hp 6 (by simp)
          have h27 : (u 8) = .agg ((Sha.digest (List.replicate (k + 1) c)).map (Value.int .u8)).toArray := hp 8 (by simp)
          have h31 : (u 12) = .agg ((Sha.digest ((List.replicate (k + 1) c).drop 1)).map (Value.int .u8)).toArray := hp 12 (by simp)
          change Ob _ _ (([(27, u 8), (31, u 12), (25, u 6)] : Env) ++ _) _ _ _
          simp only [h25, h27, h31]
          exact .inl ⟨rfl, D1.op ((R.eqlA rfl Try.underlying33 Try.underlying5 sz5 (by kernel_rfl) rfl rfl (Sha.digest_length _) (Sha.digest_length _)).val (congrArg Value.bool hb0.symm)) ⟨rfl, og, fun _ _ h => h⟩⟩
        | 14, ho, hp =>
          have e := Option.some.inj (ho : some _ = some o)
          subst e
          change ∀ j ∈ ([13, 12, 6] : List Nat), _ at hp
          have h25 : (u 6) = .bool false := hp 6 (by simp)
          have h31 : (u 12) = .agg ((Sha.digest ((List.replicate (k + 1) c).drop 1)).map (Value.int .u8)).toArray := hp 12 (by simp)
          have h32 : (u 13) = .bool b0 := hp 13 (by simp)
          change Ob _ _ (([(32, u 13), (31, u 12), (25, u 6)] : Env) ++ _) _ _ _
          simp only [h25, h31, h32]
          exact .inl ⟨rfl, D1.op (R.move rfl rfl) ⟨rfl, og, fun _ _ h => h⟩⟩
        | 15, ho, hp =>
          have e := Option.some.inj (ho : some _ = some o)
          subst e
          change ∀ j ∈ ([14] : List Nat), _ at hp
          have h33 : (u 14) = .bool b0 := hp 14 (by simp)
          change Ob _ _ (([(33, u 14)] : Env) ++ _) _ _ _
          simp only [h33]
          clear hb0
          cases b0
          · exact .inr ⟨rfl, rfl, og, fun _ _ h => h⟩
          · exact .inl ⟨rfl, D1.op (R.move rfl rfl) ⟨rfl, og, fun _ _ h => h⟩⟩
        | 16, ho, hp =>
          have e := Option.some.inj (ho : some _ = some o)
          subst e
          change ∀ j ∈ ([15, 14] : List Nat), _ at hp
          have h33 : (u 14) = .bool b0 := hp 14 (by simp)
          have h34 : (u 15) = gval b0 vn := hp 15 (by simp)
          change Ob _ _ (([(34, u 15), (33, u 14)] : Env) ++ _) _ _ _
          simp only [h33, h34]
          clear hb0
          cases b0
          · exact .inr ⟨rfl, rfl, og, fun _ _ h => h⟩
          · exact .inl ⟨rfl, D1.op (R.lenO (v := vn) rfl Try.underlying24 rfl wa) ⟨rfl, og, fun _ _ h => h⟩⟩
        | 17, ho, hp =>
          have e := Option.some.inj (ho : some _ = some o)
          subst e
          change ∀ j ∈ ([16, 14] : List Nat), _ at hp
          have h33 : (u 14) = .bool b0 := hp 14 (by simp)
          have h35 : (u 16) = gval b0 (.int .i64 ((List.replicate (k + 1) c).length : Nat)) := hp 16 (by simp)
          change Ob _ _ (([(35, u 16), (33, u 14)] : Env) ++ _) _ _ _
          simp only [h33, h35]
          clear hb0
          cases b0
          · exact .inr ⟨rfl, rfl, og, fun _ _ h => h⟩
          · exact .inl ⟨rfl, D1.op ((R.gtr (k := .i64) (a := ((List.replicate (k + 1) c).length : Nat)) rfl rfl rfl).val (congrArg Value.bool (decide_eq_false (by rw [List.length_replicate]; omega)))) ⟨rfl, og, fun _ _ h => h⟩⟩
        | 18, ho, hp =>
          have e := Option.some.inj (ho : some _ = some o)
          subst e
          change ∀ j ∈ ([14, 17, 6] : List Nat), _ at hp
          have h25 : (u 6) = .bool false := hp 6 (by simp)
          have h33 : (u 14) = .bool b0 := hp 14 (by simp)
          have h36 : (u 17) = gval b0 (.bool false) := hp 17 (by simp)
          change Ob _ _ (([(33, u 14), (36, u 17), (25, u 6)] : Env) ++ _) _ _ _
          simp only [h25, h33, h36]
          clear hb0
          cases b0
          · exact .inl ⟨rfl, D1.op (R.pick (t := false) rfl rfl rfl) ⟨rfl, og, fun _ _ h => h⟩⟩
          · exact .inl ⟨rfl, D1.op (R.pick (t := true) rfl rfl rfl) ⟨rfl, og, fun _ _ h => h⟩⟩
        | 19, ho, hp =>
          have e := Option.some.inj (ho : some _ = some o)
          subst e
          change ∀ j ∈ ([6, 18] : List Nat), _ at hp
          have h25 : (u 6) = .bool false := hp 6 (by simp)
          have h37 : (u 18) = .bool false := hp 18 (by simp)
          change Ob _ _ (([(25, u 6), (37, u 18)] : Env) ++ _) _ _ _
          simp only [h25, h37]
          exact .inl ⟨rfl, D1.op (R.pick rfl rfl rfl) ⟨rfl, og, fun _ _ h => h⟩⟩
        | i + 20, ho, hp => exact absurd ho (by simp)
      · intro u H9 og9 hv
        have h19 : (u 0) = .pointer (some ⟨Array.size H1, 0, none⟩) := hv 0 (by decide)
        have h20 : (u 1) = .agg ((Sha.digest (List.replicate (k + 1) c)).map (Value.int .u8)).toArray := hv 1 (by decide)
        have h21 : (u 2) = vn := hv 2 (by decide)
        have h22 : Sl 1 (ESl 1 (EInt .u8)) H9 (u 3) [List.replicate (k + 1) c] := hv 3 (by decide)
        have h23 : (u 4) = .agg ((Sha.digest (List.replicate (k + 1) c)).map (Value.int .u8)).toArray := hv 4 (by decide)
        have h24 : (u 5) = .bool false := hv 5 (by decide)
        have h25 : (u 6) = .bool false := hv 6 (by decide)
        have h26 : (u 7) = .pointer (some ⟨Array.size H1, 0, none⟩) := hv 7 (by decide)
        have h27 : (u 8) = .agg ((Sha.digest (List.replicate (k + 1) c)).map (Value.int .u8)).toArray := hv 8 (by decide)
        have h28 : (u 9) = vn := hv 9 (by decide)
        have h29 : (u 10) = subV 1 vn 1 (List.replicate (k + 1) c).length := hv 10 (by decide)
        have h30 : Sl 1 (ESl 1 (EInt .u8)) H9 (u 11) [(List.replicate (k + 1) c).drop 1] := hv 11 (by decide)
        have h31 : (u 12) = .agg ((Sha.digest ((List.replicate (k + 1) c).drop 1)).map (Value.int .u8)).toArray := hv 12 (by decide)
        have h32 : (u 13) = .bool b0 := hv 13 (by decide)
        have h33 : (u 14) = .bool b0 := hv 14 (by decide)
        have h34 : (u 15) = gval b0 vn := hv 15 (by decide)
        have h35 : (u 16) = gval b0 (.int .i64 ((List.replicate (k + 1) c).length : Nat)) := hv 16 (by decide)
        have h36 : (u 17) = gval b0 (.bool false) := hv 17 (by decide)
        have h37 : (u 18) = .bool false := hv 18 (by decide)
        have h38 : (u 19) = .bool false := hv 19 (by decide)
        change KQ _ _ _ _ (([(19, u 0), (20, u 1), (21, u 2), (22, u 3), (23, u 4), (24, u 5), (25, u 6), (26, u 7), (27, u 8), (28, u 9), (29, u 10), (30, u 11), (31, u 12), (32, u 13), (33, u 14), (34, u 15), (35, u 16), (36, u 17), (37, u 18), (38, u 19)] : Env) ++ _) _
        have o0 := o0.trans og9
        have wa := wa.old og9
        have hm3 := hm3.old og9
        have z9 := og9.1
        simp only [h19, h20, h21, h23, h24, h25, h26, h27, h28, h29, h31, h32, h33, h34, h35, h36, h37, h38]
        refine KQ.seq ?_
        refine KC.condF rfl ?_
        refine KC.skip ?_
        refine KQ.normBlock ?_
        refine KQ.seq ?_
        refine KC.region ?_
        refine KL.op (R.add rfl rfl rfl (by dsimp only [InR]; omega)) rfl rfl rfl ?_
        refine KL.op (R.move rfl rfl) rfl rfl rfl ?_
        refine KL.nil ?_
        refine KQ.again ((k + 1, vn)) ?_ ?_ ?_
        · exact (Sub.cons rfl (Sub.cons rfl (Ext.sub (by repeat (first | exact Ext.refl _ _ | refine Ext.put rfl ?_ | refine Ext.drop rfl ?_)))))
        · show 140 - (k + 1) < 140 - k; omega
        · exact ⟨by show k + 1 ≤ _; omega, ⟨vr2, hm3, sep3⟩, wa, o0⟩
    · intro hc9
      try simp only [decide_eq_true_eq, decide_eq_false_iff_not, Bool.not_eq_true', Bool.not_eq_false', Bool.and_eq_true, Bool.or_eq_false_iff] at hc9
      have ek : k = 140 := (by omega)
      subst ek
      refine KC.exit ?_
      refine KQ.exitThen ?_
      refine KQ.exitThen ?_
      refine KQ.hit ?_
      refine KQ.seq ?_
      refine KC.seq ?_
      refine KC.region ?_
      refine KL.op (R.move rfl rfl) rfl rfl rfl ?_
      refine KL.call rfl rfl rfl rfl Try.call11 rfl rfl rfl (Sum_any _ _ (List.replicate 140 c) (by rw [List.length_replicate]; exact hm1) (by rw [List.length_replicate]; decide)) ?_
      rintro _ H10 ⟨rfl, ox⟩
      have zc_H10 := (ox).1
      have o0 := o0.trans ox
      have wa := wa.old ox
      have hm1 := hm1.old ox
      refine KL.op (R.move rfl rfl) rfl rfl rfl ?_
      refine KL.call rfl rfl rfl rfl Try.call12 rfl rfl rfl (lof_any _ (List.replicate 140 c) (wa.sl (emptyOld _) (by omega)) (by rw [List.length_replicate]; decide)) ?_
      rintro _ H11 ⟨rfl, ox⟩
      have zc_H11 := (ox).1
      have o0 := o0.trans ox
      have wa := wa.old ox
      have hm1 := hm1.old ox
      refine KL.op ((R.eqlA rfl Try.underlying33 Try.underlying5 sz5 (by kernel_rfl) rfl rfl (Sha.digest_length _) (Sha.digest_length _)).val (congrArg Value.bool (decide_eq_true rfl))) rfl rfl rfl ?_
      refine KL.op (R.assign rfl rfl) rfl rfl rfl ?_
      refine KL.nil ?_
      refine KQ.seq ?_
      refine KC.ret ?_
      refine KQ.ofRet ?_
      refine KQ.fin1 Try.results5 rfl ?_
      exact ⟨rfl, o0⟩

end Go.Proofs.Ytgpbdimccbimnaa
