/- gabellelaw33.SumTells, walked. No condition. -/
import Derived.Test.YtgpbdimccbimnaaSumT
namespace Go.Proofs.Ytgpbdimccbimnaa
open Go Go.RowKit
set_option linter.unusedVariables false
set_option linter.unusedSimpArgs false
set_option linter.unnecessarySimpa false
set_option maxRecDepth 100000 in
set_option maxHeartbeats 4000000 in
theorem SumTells_any {H : Heap} (vb : Value) (b xs ys : List Int) (sb : Sl 1 (EInt .u8) H vb b) (hx32 : xs.length = 32) (hy32 : ys.length = 32) (rx : ∀ a ∈ xs, InR .u8 a) (ry : ∀ a ∈ ys, InR .u8 a) : Ct Try.prog 6 [vb, .agg ((xs).map (Value.int .u8)).toArray, .agg ((ys).map (Value.int .u8)).toArray] H (fun u H' => u = .bool true ∧ Old H H') := by
  refine Ct.mk Try.func6 rfl Try.ntmps6 rfl ?_
  intro W0 hW0
  have o0 : Old H H := Old.refl H
  obtain ⟨a0, cap0, rfl⟩ := sb.val
  refine KC.seq ?_
  refine KC.region ?_
  refine KL.opM (M.box (cs := (xs.map (Value.int .u8))) rfl rfl rfl) rfl rfl rfl ?_
  rintro _ H1 ⟨rfl, n1⟩
  have z1 := n1.2.1
  have o0 := o0.trans n1.1
  have b1 := n1.2.2
  have bx := b1
  refine KL.opM (M.box (cs := (ys.map (Value.int .u8))) rfl rfl rfl) rfl rfl rfl ?_
  rintro _ H2 ⟨rfl, n2⟩
  have z2 := n2.2.1
  have o0 := o0.trans n2.1
  have bx := (n2.1).blk bx
  have b2 := n2.2.2
  have by_ := b2
  refine KL.op (R.assign rfl rfl) rfl rfl rfl ?_
  refine KL.nil ?_
  refine KQ.seq ?_
  refine KC.seq ?_
  refine KC.seq ?_
  refine KC.region ?_
  refine KL.call rfl rfl rfl rfl Try.call7 rfl rfl rfl (known_any) ?_
  rintro _ H3 ⟨rfl, ox⟩
  have zc_H3 := (ox).1
  have o0 := o0.trans ox
  have bx := (ox).blk bx
  have by_ := (ox).blk by_
  refine KL.op (R.not rfl rfl) rfl rfl rfl ?_
  refine KL.nil ?_
  refine KQ.seq ?_
  refine KC.condF rfl ?_
  refine KC.skip ?_
  refine KQ.seq ?_
  refine KC.seq ?_
  refine KC.seq ?_
  refine KC.region ?_
  refine KL.op (R.move rfl rfl) rfl rfl rfl ?_
  refine KL.op (R.lenS rfl Try.underlying24 rfl sb) rfl rfl rfl ?_
  refine KL.op (R.gtr rfl rfl rfl) rfl rfl rfl ?_
  refine KL.nil ?_
  refine KQ.seq ?_
  refine KC.iteL rfl ?_ ?_
  · intro hc11
    try simp only [decide_eq_true_eq, decide_eq_false_iff_not, Bool.not_eq_true', Bool.not_eq_false', Bool.and_eq_true, Bool.or_eq_false_iff] at hc11
    refine KC.seq ?_
    refine KC.region ?_
    refine KL.op (R.assign rfl rfl) rfl rfl rfl ?_
    refine KL.nil ?_
    refine KQ.seq ?_
    refine KC.ret ?_
    refine KQ.retThen ?_
    refine KQ.ofRet ?_
    refine KQ.fin1 Try.results6 rfl ?_
    exact ⟨rfl, o0⟩
  · intro hc11
    try simp only [decide_eq_true_eq, decide_eq_false_iff_not, Bool.not_eq_true', Bool.not_eq_false', Bool.and_eq_true, Bool.or_eq_false_iff] at hc11
    refine KC.skip ?_
    refine KQ.seq ?_
    refine KC.seq ?_
    have oR := o0
    refine KC.valsL [12, 13, 14, 15, 16, 17, 18, 19, 20, 21, 22, 23, 24, 25, 26, 27, 28, 29, 6] [[], [0], [1], [], [3, 2], [2, 4], [5, 4], [6], [6], [7, 8, 6, 6], [6], [6], [10, 11, 9, 6], [6], [12, 13, 12, 6], [14, 14, 6], [9, 15, 6], [6, 16], [17, 15, 0, 1, 2, 3, 4, 5, 6, 7, 8, 9, 10, 11, 12, 13, 14, 15, 16, 17]] (fun (i : Nat) (u : Value) (Hc : Heap) => match i with | 0 => u = (.slice a0 b.length cap0) | 1 => ∃ g, Array.size H3 ≤ g ∧ u = .slice (some ⟨g, 0, none⟩) 1 1 ∧ Hc[g]? = some (.cells #[(.slice a0 b.length cap0)] 24 (0, 0)) | 2 => u = .agg ((Sha.digest b).map (Value.int .u8)).toArray | 3 => u = (.slice a0 b.length cap0) | 4 => u = .agg ((Sha.digest b).map (Value.int .u8)).toArray | 5 => u = .bool true | 6 => u = .bool true | 7 => u = .agg ((xs).map (Value.int .u8)).toArray | 8 => u = .agg ((ys).map (Value.int .u8)).toArray | 9 => u = .agg ((Sha.digest (([1] ++ xs) ++ ys)).map (Value.int .u8)).toArray | 10 => ∃ g, Array.size H3 ≤ g ∧ u = .slice (some ⟨g, 0, none⟩) 1 1 ∧ Hc[g]? = some (.cells #[.int .u8 1] 5 (0, 0)) | 11 => u = .slice (some ⟨Array.size H, 0, none⟩) 32 32 | 12 => Own 1 (EInt .u8) 5 #[] (Array.size H3) Hc u ([1] ++ xs) | 13 => u = .slice (some ⟨Array.size H1, 0, none⟩) 32 32 | 14 => Own 1 (EInt .u8) 5 #[] (Array.size H3) Hc u (([1] ++ xs) ++ ys) | 15 => u = .agg ((Sha.digest (([1] ++ xs) ++ ys)).map (Value.int .u8)).toArray | 16 => u = .bool true | 17 => u = .bool true | 18 => u = .bool true | _ => True) (by kernel_rfl) (by kernel_rfl) (by kernel_rfl) (by kernel_rfl) ?_ ?_
    · intro i o ho u Hc og hp
      have hst : ∀ H2, Old Hc H2 → ∀ j x, (fun (i : Nat) (u : Value) (Hc : Heap) => match i with | 0 => u = (.slice a0 b.length cap0) | 1 => ∃ g, Array.size H3 ≤ g ∧ u = .slice (some ⟨g, 0, none⟩) 1 1 ∧ Hc[g]? = some (.cells #[(.slice a0 b.length cap0)] 24 (0, 0)) | 2 => u = .agg ((Sha.digest b).map (Value.int .u8)).toArray | 3 => u = (.slice a0 b.length cap0) | 4 => u = .agg ((Sha.digest b).map (Value.int .u8)).toArray | 5 => u = .bool true | 6 => u = .bool true | 7 => u = .agg ((xs).map (Value.int .u8)).toArray | 8 => u = .agg ((ys).map (Value.int .u8)).toArray | 9 => u = .agg ((Sha.digest (([1] ++ xs) ++ ys)).map (Value.int .u8)).toArray | 10 => ∃ g, Array.size H3 ≤ g ∧ u = .slice (some ⟨g, 0, none⟩) 1 1 ∧ Hc[g]? = some (.cells #[.int .u8 1] 5 (0, 0)) | 11 => u = .slice (some ⟨Array.size H, 0, none⟩) 32 32 | 12 => Own 1 (EInt .u8) 5 #[] (Array.size H3) Hc u ([1] ++ xs) | 13 => u = .slice (some ⟨Array.size H1, 0, none⟩) 32 32 | 14 => Own 1 (EInt .u8) 5 #[] (Array.size H3) Hc u (([1] ++ xs) ++ ys) | 15 => u = .agg ((Sha.digest (([1] ++ xs) ++ ys)).map (Value.int .u8)).toArray | 16 => u = .bool true | 17 => u = .bool true | 18 => u = .bool true | _ => True) j x Hc → (fun (i : Nat) (u : Value) (Hc : Heap) => match i with | 0 => u = (.slice a0 b.length cap0) | 1 => ∃ g, Array.size H3 ≤ g ∧ u = .slice (some ⟨g, 0, none⟩) 1 1 ∧ Hc[g]? = some (.cells #[(.slice a0 b.length cap0)] 24 (0, 0)) | 2 => u = .agg ((Sha.digest b).map (Value.int .u8)).toArray | 3 => u = (.slice a0 b.length cap0) | 4 => u = .agg ((Sha.digest b).map (Value.int .u8)).toArray | 5 => u = .bool true | 6 => u = .bool true | 7 => u = .agg ((xs).map (Value.int .u8)).toArray | 8 => u = .agg ((ys).map (Value.int .u8)).toArray | 9 => u = .agg ((Sha.digest (([1] ++ xs) ++ ys)).map (Value.int .u8)).toArray | 10 => ∃ g, Array.size H3 ≤ g ∧ u = .slice (some ⟨g, 0, none⟩) 1 1 ∧ Hc[g]? = some (.cells #[.int .u8 1] 5 (0, 0)) | 11 => u = .slice (some ⟨Array.size H, 0, none⟩) 32 32 | 12 => Own 1 (EInt .u8) 5 #[] (Array.size H3) Hc u ([1] ++ xs) | 13 => u = .slice (some ⟨Array.size H1, 0, none⟩) 32 32 | 14 => Own 1 (EInt .u8) 5 #[] (Array.size H3) Hc u (([1] ++ xs) ++ ys) | 15 => u = .agg ((Sha.digest (([1] ++ xs) ++ ys)).map (Value.int .u8)).toArray | 16 => u = .bool true | 17 => u = .bool true | 18 => u = .bool true | _ => True) j x H2 := by
        intro H2 o2 j x hx
        match j, hx with
        | 0, hx => exact hx
        | 1, hx => exact by obtain ⟨g, g1, g2, g3⟩ := hx; exact ⟨g, g1, g2, o2.blk g3⟩
        | 2, hx => exact hx
        | 3, hx => exact hx
        | 4, hx => exact hx
        | 5, hx => exact hx
        | 6, hx => exact hx
        | 7, hx => exact hx
        | 8, hx => exact hx
        | 9, hx => exact hx
        | 10, hx => exact by obtain ⟨g, g1, g2, g3⟩ := hx; exact ⟨g, g1, g2, o2.blk g3⟩
        | 11, hx => exact hx
        | 12, hx => exact Own.old hx o2
        | 13, hx => exact hx
        | 14, hx => exact Own.old hx o2
        | 15, hx => exact hx
        | 16, hx => exact hx
        | 17, hx => exact hx
        | 18, hx => exact hx
        | j + 19, hx => exact hx
      match i, ho, hp with
      | 0, ho, hp =>
        have e := Option.some.inj (ho : some _ = some o)
        subst e
        change ∀ j ∈ ([] : List Nat), _ at hp
        change Ob _ _ (([] : Env) ++ _) _ _ _
        exact .inl ⟨rfl, D1.op (R.move rfl rfl) ⟨rfl, og, fun _ _ h => h⟩⟩
      | 1, ho, hp =>
        have e := Option.some.inj (ho : some _ = some o)
        subst e
        change ∀ j ∈ ([0] : List Nat), _ at hp
        have h12 : (u 0) = (.slice a0 b.length cap0) := hp 0 (by simp)
        change Ob _ _ (([(12, u 0)] : Env) ++ _) _ _ _
        simp only [h12]
        refine .inl ⟨rfl, D1.mem (M.lit rfl Try.underlying50 zs24 (by decide) rfl rfl rfl) ?_⟩
        rintro _ H2 ⟨rfl, nn⟩
        exact ⟨⟨_, og.1, rfl, nn.2.2⟩, og.trans nn.1, hst _ nn.1⟩
      | 2, ho, hp =>
        have e := Option.some.inj (ho : some _ = some o)
        subst e
        change ∀ j ∈ ([1] : List Nat), _ at hp
        have h13 : ∃ g, Array.size H3 ≤ g ∧ (u 1) = .slice (some ⟨g, 0, none⟩) 1 1 ∧ Hc[g]? = some (.cells #[(.slice a0 b.length cap0)] 24 (0, 0)) := hp 1 (by simp)
        change Ob _ _ (([(13, u 1)] : Env) ++ _) _ _ _
        obtain ⟨g, g1, g2, g3⟩ := h13
        have hls : Sl 1 (ESl 1 (EInt .u8)) Hc (u 1) [b] := by rw [g2]; exact ⟨_, _, rfl, Nat.le_refl _, by simp [maxLen], by simp, fun _ p hp => by cases hp; rfl, fun j z hj => by match j, hj with | 0, hj => cases hj; exact ⟨[(.slice a0 b.length cap0)], rfl, fun i q hq => by match i, hq with | 0, hq => (cases hq; exact cell_of (cs := [(.slice a0 b.length cap0)]) g3 rfl), ⟨_, rfl, sb.old (oR.trans og)⟩⟩⟩
        exact .inl ⟨rfl, D1.call rfl rfl rfl rfl Try.call14 (Of_any _ _ hls (by rw [flat1]; omega)) (by rintro _ H2 ⟨rfl, ox⟩; exact ⟨by show _ = _; rw [flat1], og.trans ox, hst _ ox⟩)⟩
      | 3, ho, hp =>
        have e := Option.some.inj (ho : some _ = some o)
        subst e
        change ∀ j ∈ ([] : List Nat), _ at hp
        change Ob _ _ (([] : Env) ++ _) _ _ _
        exact .inl ⟨rfl, D1.op (R.move rfl rfl) ⟨rfl, og, fun _ _ h => h⟩⟩
      | 4, ho, hp =>
        have e := Option.some.inj (ho : some _ = some o)
        subst e
        change ∀ j ∈ ([3, 2] : List Nat), _ at hp
        have h14 : (u 2) = .agg ((Sha.digest b).map (Value.int .u8)).toArray := hp 2 (by simp)
        have h15 : (u 3) = (.slice a0 b.length cap0) := hp 3 (by simp)
        change Ob _ _ (([(15, u 3), (14, u 2)] : Env) ++ _) _ _ _
        simp only [h14, h15]
        exact .inl ⟨rfl, D1.call rfl rfl rfl rfl Try.call12 (lof_any _ b (sb.old (oR.trans og)) (by omega)) (by rintro _ H2 ⟨rfl, ox⟩; exact ⟨rfl, og.trans ox, hst _ ox⟩)⟩
      | 5, ho, hp =>
        have e := Option.some.inj (ho : some _ = some o)
        subst e
        change ∀ j ∈ ([2, 4] : List Nat), _ at hp
        have h14 : (u 2) = .agg ((Sha.digest b).map (Value.int .u8)).toArray := hp 2 (by simp)
        have h16 : (u 4) = .agg ((Sha.digest b).map (Value.int .u8)).toArray := hp 4 (by simp)
        change Ob _ _ (([(14, u 2), (16, u 4)] : Env) ++ _) _ _ _
        simp only [h14, h16]
        exact .inl ⟨rfl, D1.op ((R.eqlA rfl Try.underlying33 Try.underlying5 sz5 (by kernel_rfl) rfl rfl (Sha.digest_length _) (Sha.digest_length _)).val (congrArg Value.bool (decide_eq_true rfl))) ⟨rfl, og, fun _ _ h => h⟩⟩
      | 6, ho, hp =>
        have e := Option.some.inj (ho : some _ = some o)
        subst e
        change ∀ j ∈ ([5, 4] : List Nat), _ at hp
        have h16 : (u 4) = .agg ((Sha.digest b).map (Value.int .u8)).toArray := hp 4 (by simp)
        have h17 : (u 5) = .bool true := hp 5 (by simp)
        change Ob _ _ (([(17, u 5), (16, u 4)] : Env) ++ _) _ _ _
        simp only [h16, h17]
        exact .inl ⟨rfl, D1.op (R.move rfl rfl) ⟨rfl, og, fun _ _ h => h⟩⟩
      | 7, ho, hp =>
        have e := Option.some.inj (ho : some _ = some o)
        subst e
        change ∀ j ∈ ([6] : List Nat), _ at hp
        have h18 : (u 6) = .bool true := hp 6 (by simp)
        change Ob _ _ (([(18, u 6)] : Env) ++ _) _ _ _
        simp only [h18]
        exact .inl ⟨rfl, D1.op (R.loadAgg rfl Try.underlying33 rfl sz33 rfl (cells_of (og.blk bx)) (by simp [hx32])) ⟨rfl, og, fun _ _ h => h⟩⟩
      | 8, ho, hp =>
        have e := Option.some.inj (ho : some _ = some o)
        subst e
        change ∀ j ∈ ([6] : List Nat), _ at hp
        have h18 : (u 6) = .bool true := hp 6 (by simp)
        change Ob _ _ (([(18, u 6)] : Env) ++ _) _ _ _
        simp only [h18]
        exact .inl ⟨rfl, D1.op (R.loadAgg rfl Try.underlying33 rfl sz33 rfl (cells_of (og.blk by_)) (by simp [hy32])) ⟨rfl, og, fun _ _ h => h⟩⟩
      | 9, ho, hp =>
        have e := Option.some.inj (ho : some _ = some o)
        subst e
        change ∀ j ∈ ([7, 8, 6, 6] : List Nat), _ at hp
        have h18 : (u 6) = .bool true := hp 6 (by simp)
        have h19 : (u 7) = .agg ((xs).map (Value.int .u8)).toArray := hp 7 (by simp)
        have h20 : (u 8) = .agg ((ys).map (Value.int .u8)).toArray := hp 8 (by simp)
        change Ob _ _ (([(19, u 7), (20, u 8), (18, u 6), (18, u 6)] : Env) ++ _) _ _ _
        simp only [h18, h19, h20]
        exact .inl ⟨rfl, D1.call rfl rfl rfl rfl Try.call15 (Pair_any xs ys hx32 hy32 rx ry) (by rintro _ H2 ⟨rfl, ox⟩; exact ⟨rfl, og.trans ox, hst _ ox⟩)⟩
      | 10, ho, hp =>
        have e := Option.some.inj (ho : some _ = some o)
        subst e
        change ∀ j ∈ ([6] : List Nat), _ at hp
        have h18 : (u 6) = .bool true := hp 6 (by simp)
        change Ob _ _ (([(18, u 6)] : Env) ++ _) _ _ _
        simp only [h18]
        refine .inl ⟨rfl, D1.mem (M.lit rfl Try.underlying24 zs5 (by decide) rfl rfl rfl) ?_⟩
        rintro _ H2 ⟨rfl, nn⟩
        exact ⟨⟨_, og.1, rfl, nn.2.2⟩, og.trans nn.1, hst _ nn.1⟩
      | 11, ho, hp =>
        have e := Option.some.inj (ho : some _ = some o)
        subst e
        change ∀ j ∈ ([6] : List Nat), _ at hp
        have h18 : (u 6) = .bool true := hp 6 (by simp)
        change Ob _ _ (([(18, u 6)] : Env) ++ _) _ _ _
        simp only [h18]
        exact .inl ⟨rfl, D1.op (R.sliceArr rfl Try.underlying33 sz5 rfl) ⟨rfl, og, fun _ _ h => h⟩⟩
      | 12, ho, hp =>
        have e := Option.some.inj (ho : some _ = some o)
        subst e
        change ∀ j ∈ ([10, 11, 9, 6] : List Nat), _ at hp
        have h18 : (u 6) = .bool true := hp 6 (by simp)
        have h21 : (u 9) = .agg ((Sha.digest (([1] ++ xs) ++ ys)).map (Value.int .u8)).toArray := hp 9 (by simp)
        have h22 : ∃ g, Array.size H3 ≤ g ∧ (u 10) = .slice (some ⟨g, 0, none⟩) 1 1 ∧ Hc[g]? = some (.cells #[.int .u8 1] 5 (0, 0)) := hp 10 (by simp)
        have h23 : (u 11) = .slice (some ⟨Array.size H, 0, none⟩) 32 32 := hp 11 (by simp)
        change Ob _ _ (([(22, u 10), (23, u 11), (21, u 9), (18, u 6)] : Env) ++ _) _ _ _
        simp only [h18, h21, h23]
        obtain ⟨g, g1, g2, g3⟩ := h22
        rw [g2]
        have hfull : Full (Array.size H3) Hc (.slice (some ⟨g, 0, none⟩) 1 1) [1] := ⟨Sl.ofCells (l := [1]) g3 (by decide) (by decide), by decide, g, rfl, g1, blk_lt g3⟩
        refine .inl ⟨rfl, D1.mem (M.appendFullO rfl Try.underlying24 inf5 rfl rfl rfl hfull (arr_sl (og.blk bx) hx32 (by decide) rx) (by omega) og.1 (by simp [hx32]) (by simp [hx32, maxLen])) ?_⟩
        rintro v2 H2 ⟨k1, -, -, k2⟩
        exact ⟨k1, og.trans k2, hst _ k2⟩
      | 13, ho, hp =>
        have e := Option.some.inj (ho : some _ = some o)
        subst e
        change ∀ j ∈ ([6] : List Nat), _ at hp
        have h18 : (u 6) = .bool true := hp 6 (by simp)
        change Ob _ _ (([(18, u 6)] : Env) ++ _) _ _ _
        simp only [h18]
        exact .inl ⟨rfl, D1.op (R.sliceArr rfl Try.underlying33 sz5 rfl) ⟨rfl, og, fun _ _ h => h⟩⟩
      | 14, ho, hp =>
        have e := Option.some.inj (ho : some _ = some o)
        subst e
        change ∀ j ∈ ([12, 13, 12, 6] : List Nat), _ at hp
        have h18 : (u 6) = .bool true := hp 6 (by simp)
        have h24 : Own 1 (EInt .u8) 5 #[] (Array.size H3) Hc (u 12) ([1] ++ xs) := hp 12 (by simp)
        have h25 : (u 13) = .slice (some ⟨Array.size H1, 0, none⟩) 32 32 := hp 13 (by simp)
        change Ob _ _ (([(24, u 12), (25, u 13), (24, u 12), (18, u 6)] : Env) ++ _) _ _ _
        simp only [h18, h25]
        refine .inl ⟨rfl, D1.mem (M.appendQ (m := ys) rfl Try.underlying24 inf5 rfl rfl rfl h24 (by simp) (arr_sl (og.blk by_) hy32 (by decide) ry) og.1 (by simp [hx32, hy32]) (by simp [hx32, hy32, maxLen]) (by omega)) ?_⟩
        rintro v2 H2 ⟨k1, k2⟩
        rcases k2 with k2 | k2
        · exact ⟨k1, og.trans k2, hst _ k2⟩
        · refine ⟨k1, k2.oldFrom og, ?_⟩
          intro j z hz
          match j, hz with
          | 0, hz => exact hz
          | 1, hz => obtain ⟨g, g1, g2, g3⟩ := hz; exact ⟨g, g1, g2, k2.other g3 (.inl (by decide))⟩
          | 2, hz => exact hz
          | 3, hz => exact hz
          | 4, hz => exact hz
          | 5, hz => exact hz
          | 6, hz => exact hz
          | 7, hz => exact hz
          | 8, hz => exact hz
          | 9, hz => exact hz
          | 10, hz => obtain ⟨g, g1, g2, g3⟩ := hz; exact ⟨g, g1, g2, k2.other g3 (.inr (by simp [hx32, hy32]))⟩
          | 11, hz => exact hz
          | 12, hz => exact Own.inPlace hz k2 (Nat.le_refl _)
          | 13, hz => exact hz
          | 14, hz => exact Own.inPlaceEq hz k2 (by simp; omega) (by simp; omega) k1
          | 15, hz => exact hz
          | 16, hz => exact hz
          | 17, hz => exact hz
          | 18, hz => exact hz
          | j + 19, hz => exact hz
      | 15, ho, hp =>
        have e := Option.some.inj (ho : some _ = some o)
        subst e
        change ∀ j ∈ ([14, 14, 6] : List Nat), _ at hp
        have h18 : (u 6) = .bool true := hp 6 (by simp)
        have h26 : Own 1 (EInt .u8) 5 #[] (Array.size H3) Hc (u 14) (([1] ++ xs) ++ ys) := hp 14 (by simp)
        change Ob _ _ (([(26, u 14), (26, u 14), (18, u 6)] : Env) ++ _) _ _ _
        simp only [h18]
        exact .inl ⟨rfl, D1.call rfl rfl rfl rfl Try.call12 (lof_any _ _ (h26.sl (emptyOld _) (by omega)) (by simp [hx32, hy32])) (by rintro _ H2 ⟨rfl, ox⟩; exact ⟨rfl, og.trans ox, hst _ ox⟩)⟩
      | 16, ho, hp =>
        have e := Option.some.inj (ho : some _ = some o)
        subst e
        change ∀ j ∈ ([9, 15, 6] : List Nat), _ at hp
        have h18 : (u 6) = .bool true := hp 6 (by simp)
        have h21 : (u 9) = .agg ((Sha.digest (([1] ++ xs) ++ ys)).map (Value.int .u8)).toArray := hp 9 (by simp)
        have h27 : (u 15) = .agg ((Sha.digest (([1] ++ xs) ++ ys)).map (Value.int .u8)).toArray := hp 15 (by simp)
        change Ob _ _ (([(21, u 9), (27, u 15), (18, u 6)] : Env) ++ _) _ _ _
        simp only [h18, h21, h27]
        exact .inl ⟨rfl, D1.op ((R.eqlA rfl Try.underlying33 Try.underlying5 sz5 (by kernel_rfl) rfl rfl (Sha.digest_length _) (Sha.digest_length _)).val (congrArg Value.bool (decide_eq_true rfl))) ⟨rfl, og, fun _ _ h => h⟩⟩
      | 17, ho, hp =>
        have e := Option.some.inj (ho : some _ = some o)
        subst e
        change ∀ j ∈ ([6, 16] : List Nat), _ at hp
        have h18 : (u 6) = .bool true := hp 6 (by simp)
        have h28 : (u 16) = .bool true := hp 16 (by simp)
        change Ob _ _ (([(18, u 6), (28, u 16)] : Env) ++ _) _ _ _
        simp only [h18, h28]
        exact .inl ⟨rfl, D1.op (R.pick rfl rfl rfl) ⟨rfl, og, fun _ _ h => h⟩⟩
      | 18, ho, hp =>
        have e := Option.some.inj (ho : some _ = some o)
        subst e
        change ∀ j ∈ ([17, 15, 0, 1, 2, 3, 4, 5, 6, 7, 8, 9, 10, 11, 12, 13, 14, 15, 16, 17] : List Nat), _ at hp
        have h12 : (u 0) = (.slice a0 b.length cap0) := hp 0 (by simp)
        have h13 : ∃ g, Array.size H3 ≤ g ∧ (u 1) = .slice (some ⟨g, 0, none⟩) 1 1 ∧ Hc[g]? = some (.cells #[(.slice a0 b.length cap0)] 24 (0, 0)) := hp 1 (by simp)
        have h14 : (u 2) = .agg ((Sha.digest b).map (Value.int .u8)).toArray := hp 2 (by simp)
        have h15 : (u 3) = (.slice a0 b.length cap0) := hp 3 (by simp)
        have h16 : (u 4) = .agg ((Sha.digest b).map (Value.int .u8)).toArray := hp 4 (by simp)
        have h17 : (u 5) = .bool true := hp 5 (by simp)
        have h18 : (u 6) = .bool true := hp 6 (by simp)
        have h19 : (u 7) = .agg ((xs).map (Value.int .u8)).toArray := hp 7 (by simp)
        have h20 : (u 8) = .agg ((ys).map (Value.int .u8)).toArray := hp 8 (by simp)
        have h21 : (u 9) = .agg ((Sha.digest (([1] ++ xs) ++ ys)).map (Value.int .u8)).toArray := hp 9 (by simp)
        have h22 : ∃ g, Array.size H3 ≤ g ∧ (u 10) = .slice (some ⟨g, 0, none⟩) 1 1 ∧ Hc[g]? = some (.cells #[.int .u8 1] 5 (0, 0)) := hp 10 (by simp)
        have h23 : (u 11) = .slice (some ⟨Array.size H, 0, none⟩) 32 32 := hp 11 (by simp)
        have h24 : Own 1 (EInt .u8) 5 #[] (Array.size H3) Hc (u 12) ([1] ++ xs) := hp 12 (by simp)
        have h25 : (u 13) = .slice (some ⟨Array.size H1, 0, none⟩) 32 32 := hp 13 (by simp)
        have h26 : Own 1 (EInt .u8) 5 #[] (Array.size H3) Hc (u 14) (([1] ++ xs) ++ ys) := hp 14 (by simp)
        have h27 : (u 15) = .agg ((Sha.digest (([1] ++ xs) ++ ys)).map (Value.int .u8)).toArray := hp 15 (by simp)
        have h28 : (u 16) = .bool true := hp 16 (by simp)
        have h29 : (u 17) = .bool true := hp 17 (by simp)
        change Ob _ _ (([(29, u 17), (27, u 15), (12, u 0), (13, u 1), (14, u 2), (15, u 3), (16, u 4), (17, u 5), (18, u 6), (19, u 7), (20, u 8), (21, u 9), (22, u 10), (23, u 11), (24, u 12), (25, u 13), (26, u 14), (27, u 15), (28, u 16), (29, u 17)] : Env) ++ _) _ _ _
        simp only [h12, h14, h15, h16, h17, h18, h19, h20, h21, h23, h25, h27, h28, h29]
        exact .inl ⟨rfl, D1.op (R.assign rfl rfl) ⟨rfl, og, fun _ _ h => h⟩⟩
      | i + 19, ho, hp => exact absurd ho (by simp)
    · intro u H4 og4 hv
      have h12 : (u 0) = (.slice a0 b.length cap0) := hv 0 (by decide)
      have h13 : ∃ g, Array.size H3 ≤ g ∧ (u 1) = .slice (some ⟨g, 0, none⟩) 1 1 ∧ H4[g]? = some (.cells #[(.slice a0 b.length cap0)] 24 (0, 0)) := hv 1 (by decide)
      have h14 : (u 2) = .agg ((Sha.digest b).map (Value.int .u8)).toArray := hv 2 (by decide)
      have h15 : (u 3) = (.slice a0 b.length cap0) := hv 3 (by decide)
      have h16 : (u 4) = .agg ((Sha.digest b).map (Value.int .u8)).toArray := hv 4 (by decide)
      have h17 : (u 5) = .bool true := hv 5 (by decide)
      have h18 : (u 6) = .bool true := hv 6 (by decide)
      have h19 : (u 7) = .agg ((xs).map (Value.int .u8)).toArray := hv 7 (by decide)
      have h20 : (u 8) = .agg ((ys).map (Value.int .u8)).toArray := hv 8 (by decide)
      have h21 : (u 9) = .agg ((Sha.digest (([1] ++ xs) ++ ys)).map (Value.int .u8)).toArray := hv 9 (by decide)
      have h22 : ∃ g, Array.size H3 ≤ g ∧ (u 10) = .slice (some ⟨g, 0, none⟩) 1 1 ∧ H4[g]? = some (.cells #[.int .u8 1] 5 (0, 0)) := hv 10 (by decide)
      have h23 : (u 11) = .slice (some ⟨Array.size H, 0, none⟩) 32 32 := hv 11 (by decide)
      have h24 : Own 1 (EInt .u8) 5 #[] (Array.size H3) H4 (u 12) ([1] ++ xs) := hv 12 (by decide)
      have h25 : (u 13) = .slice (some ⟨Array.size H1, 0, none⟩) 32 32 := hv 13 (by decide)
      have h26 : Own 1 (EInt .u8) 5 #[] (Array.size H3) H4 (u 14) (([1] ++ xs) ++ ys) := hv 14 (by decide)
      have h27 : (u 15) = .agg ((Sha.digest (([1] ++ xs) ++ ys)).map (Value.int .u8)).toArray := hv 15 (by decide)
      have h28 : (u 16) = .bool true := hv 16 (by decide)
      have h29 : (u 17) = .bool true := hv 17 (by decide)
      have h6 : (u 18) = .bool true := hv 18 (by decide)
      change KQ _ _ _ _ (([(12, u 0), (13, u 1), (14, u 2), (15, u 3), (16, u 4), (17, u 5), (18, u 6), (19, u 7), (20, u 8), (21, u 9), (22, u 10), (23, u 11), (24, u 12), (25, u 13), (26, u 14), (27, u 15), (28, u 16), (29, u 17), (6, u 18)] : Env) ++ _) _
      have o0 := o0.trans og4
      have bx := (og4).blk bx
      have by_ := (og4).blk by_
      have z4 := og4.1
      simp only [h12, h14, h15, h16, h17, h18, h19, h20, h21, h23, h25, h27, h28, h29, h6]
      refine KQ.seq ?_
      refine KC.ret ?_
      refine KQ.ofRet ?_
      refine KQ.fin1 Try.results6 rfl ?_
      exact ⟨rfl, o0⟩

end Go.Proofs.Ytgpbdimccbimnaa
