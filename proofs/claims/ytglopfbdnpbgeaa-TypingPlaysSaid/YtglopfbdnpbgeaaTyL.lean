/- TypingFrames walked. No condition. -/
import Derived.Test.YtglopfbdnpbgeaaTyK
namespace Go.Proofs.Ytglopfbdnpbgeaa
open Go Go.RowKit
set_option linter.unusedVariables false
set_option linter.unusedSimpArgs false
set_option linter.unnecessarySimpa false
set_option maxRecDepth 100000 in
set_option maxHeartbeats 4000000 in
theorem TypingFrames_k {H : Heap} {v : Value} {l : List Int} {a : Int} (hs : Sl 1 (EInt .u8) H v l) (ha : InR .u8 a) : Ct Try.prog 5 [v, .int .u8 a] H (fun u H' => u = .bool true ∧ Old H H') := by
  refine Ct.mk Try.func5 rfl Try.ntmps5 rfl ?_
  intro W0 hW0
  have o0 : Old H H := Old.refl H
  have hll := hs.len
  refine KC.seq ?_
  refine KC.region ?_
  refine KL.op (R.assign rfl rfl) rfl rfl rfl ?_
  refine KL.nil ?_
  refine KQ.seq ?_
  refine KC.seq ?_
  refine KC.seq ?_
  refine KC.region ?_
  refine KL.call rfl rfl rfl rfl Try.call6 rfl rfl rfl (known_k) ?_
  rintro _ H1 ⟨rfl, ox⟩
  have zc_H1 := (ox).1
  have o0 := o0.trans ox
  refine KL.op (R.not rfl rfl) rfl rfl rfl ?_
  refine KL.nil ?_
  refine KQ.seq ?_
  refine KC.condF rfl ?_
  refine KC.skip ?_
  refine KQ.seq ?_
  refine KC.seq ?_
  refine KC.seq ?_
  refine KC.region ?_
  refine KL.op (R.move rfl rfl) rfl rfl rfl ?_
  refine KL.op (R.lenS rfl Try.underlying22 rfl hs) rfl rfl rfl ?_
  refine KL.op (R.gtr rfl rfl rfl) rfl rfl rfl ?_
  refine KL.nil ?_
  refine KQ.seq ?_
  refine KC.iteL rfl ?_ ?_
  · intro hc23
    try simp only [decide_eq_true_eq, decide_eq_false_iff_not, Bool.not_eq_true', Bool.not_eq_false', Bool.and_eq_true, Bool.or_eq_false_iff] at hc23
    refine KC.seq ?_
    refine KC.region ?_
    refine KL.op (R.assign rfl rfl) rfl rfl rfl ?_
    refine KL.nil ?_
    refine KQ.seq ?_
    refine KC.ret ?_
    refine KQ.retThen ?_
    refine KQ.ofRet ?_
    refine KQ.fin1 Try.results5 rfl ?_
    exact ⟨rfl, o0⟩
  · intro hc23
    try simp only [decide_eq_true_eq, decide_eq_false_iff_not, Bool.not_eq_true', Bool.not_eq_false', Bool.and_eq_true, Bool.or_eq_false_iff] at hc23
    have hl : l.length ≤ 100 := by omega
    refine KC.skip ?_
    refine KQ.seq ?_
    refine KC.seq ?_
    refine KC.region ?_
    refine KL.opM (M.lit rfl Try.underlying22 zs5 (by decide) rfl rfl rfl) rfl rfl rfl ?_
    rintro _ H2 ⟨rfl, n2⟩
    have z2 := n2.2.1
    have o0 := o0.trans n2.1
    have b2 := n2.2.2
    have h1 : Sl 1 (EInt .u8) H2 _ [126] := Sl.lits (l := [126]) n2 rfl (by simp) (by intro x hx; simp at hx; try subst hx; first | exact ha | exact hcr | decide)
    refine KL.call rfl rfl rfl rfl Try.call8 rfl rfl rfl (New_k h1 (by decide)) ?_
    rintro _ H3 ⟨g, vl, vf, rfl, ts0, ox⟩
    have ts : TS H.size (fun _ => False) H3 g vl vf (stF l a 0 0) := TS.base_le ts0 (by have := o0.1; omega)
    have zc_H3 := (ox).1
    have o0 := o0.trans ox
    have h1 := h1.old ox
    refine KL.op (R.assign rfl rfl) rfl rfl rfl ?_
    refine KL.nil ?_
    refine KQ.seq ?_
    refine KC.seq ?_
    refine KC.seq ?_
    refine KC.region ?_
    refine KL.op (R.move rfl rfl) rfl rfl rfl ?_
    refine KL.op (R.lenS rfl Try.underlying22 rfl hs) rfl rfl rfl ?_
    refine KL.op (R.move rfl rfl) rfl rfl rfl ?_
    refine KL.nil ?_
    refine KQ.seq ?_
    refine KC.block ?_
    refine KC.loopD (κ := Nat) [29, 30, 31, 7, 32, 33, 34, 35, 36, 37, 38, 39, 40, 41, 42, 44, 45, 43, 46, 47, 8, 9, 48, 49, 50, 51, 52, 53, 54, 4, 55, 28] (fun k => [(28, .int .i64 (k : Nat))]) (fun k Hl => k ≤ l.length ∧ Old H Hl ∧ ∃ vl vf m, TS H.size (fun _ => False) Hl g vl vf (stF l a k m)) (fun k => l.length - k) 0 ?_ ?_ ?_
    · exact (Sub.cons rfl (Ext.sub (Ext.refl _ _)))
    · exact ⟨Nat.zero_le _, o0, _, _, _, ts⟩
    · rintro k H4 ⟨hk, o0, vl, vf, m, ts⟩
      have zl_H4 := o0.1
      have zl := o0.1
      refine KC.seq ?_
      refine KC.region ?_
      refine KL.op (R.lss rfl rfl rfl) rfl rfl rfl ?_
      refine KL.nil ?_
      refine KQ.seq ?_
      refine KC.seq ?_
      refine KC.iteL rfl ?_ ?_
      · intro hc29
        try simp only [decide_eq_true_eq, decide_eq_false_iff_not, Bool.not_eq_true', Bool.not_eq_false', Bool.and_eq_true, Bool.or_eq_false_iff] at hc29
        obtain ⟨hcx, hcr⟩ := hs.int k (by omega)
        have hal := stF_all l a k m
        refine KC.skip ?_
        refine KQ.seq ?_
        refine KC.seq ?_
        refine KC.block ?_
        refine KC.seq ?_
        refine KC.region ?_
        refine KL.op (R.index1 (j := k) rfl Try.underlying22 sz5 rfl rfl hs rfl (by omega)) rfl rfl rfl ?_
        refine KL.op (R.load rfl Try.underlying5 rfl rfl (o0.cell hcx)) rfl rfl rfl ?_
        refine KL.op (R.assign rfl rfl) rfl rfl rfl ?_
        refine KL.nil ?_
        refine KQ.seq ?_
        refine KC.seq ?_
        refine KC.region ?_
        refine KL.op (R.move rfl rfl) rfl rfl rfl ?_
        refine KL.op (R.move rfl rfl) rfl rfl rfl ?_
        refine KL.opM (M.lit rfl Try.underlying22 zs5 (by decide) rfl rfl rfl) rfl rfl rfl ?_
        rintro _ H5 ⟨rfl, n5⟩
        have z5 := n5.2.1
        have o0 := o0.trans n5.1
        have ts := ts.old n5.1
        have b5 := n5.2.2
        have h1 : Sl 1 (EInt .u8) H5 _ [a] := Sl.lits (l := [a]) n5 rfl (by simp) (by intro x hx; simp at hx; try subst hx; first | exact ha | exact hcr | decide)
        refine KL.call rfl rfl rfl rfl Try.call10 rfl rfl rfl (Push_k ts h1 (by rw [hal]; simp only [List.length_singleton]; omega)) ?_
        rintro uu H6 ⟨vl, ts1, st⟩
        have hob := st.oldB (B0 := H.size) (by have := o0.1; omega) (fun b hb => (ts.low b hb).1)
        obtain ⟨m1, e1⟩ := f_push l a k m
        rw [e1] at ts1
        have ts : TS H.size (fun _ => False) H6 g _ _ (⟨full l a (k + 1), [], m1⟩) := ts1
        have z_hob := hob.1
        have o0 := o0.then hob (by omega)
        refine KL.nil ?_
        refine KQ.seq ?_
        refine KC.seq ?_
        refine KC.region ?_
        refine KL.op (R.move rfl rfl) rfl rfl rfl ?_
        refine KL.op (R.move rfl rfl) rfl rfl rfl ?_
        refine KL.opM (M.lit rfl Try.underlying22 zs5 (by decide) rfl rfl rfl) rfl rfl rfl ?_
        rintro _ H7 ⟨rfl, n7⟩
        have z7 := n7.2.1
        have o0 := o0.trans n7.1
        have ts := ts.old n7.1
        have b7 := n7.2.2
        have h1 : Sl 1 (EInt .u8) H7 _ [l.getD k default] := Sl.lits (l := [l.getD k default]) n7 rfl (by simp) (by intro x hx; simp at hx; try subst hx; first | exact ha | exact hcr | decide)
        refine KL.op (R.move rfl rfl) rfl rfl rfl ?_
        refine KL.op (R.move rfl rfl) rfl rfl rfl ?_
        refine KL.opM (M.lit rfl Try.underlying22 zs5 (by decide) rfl rfl rfl) rfl rfl rfl ?_
        rintro _ H8 ⟨rfl, n8⟩
        have z8 := n8.2.1
        have o0 := o0.trans n8.1
        have ts := ts.old n8.1
        have h1 := h1.old n8.1
        have b8 := n8.2.2
        have h2 : Sl 1 (EInt .u8) H8 _ [l.getD k default, l.getD k default] := Sl.lits (l := [l.getD k default, l.getD k default]) n8 rfl (by simp) (by intro x hx; simp at hx; try subst hx; first | exact ha | exact hcr | decide)
        refine KL.call rfl rfl rfl rfl Try.call16 rfl rfl rfl (Open_k ts h1 h2 (by simp) (by simp) (by rw [full_len]; omega)) ?_
        rintro uu H9 ⟨vf, ts1, st⟩
        have hob := st.oldB (B0 := H.size) (by have := o0.1; omega) (fun b hb => (ts.low b hb).1)
        rw [f_open] at ts1
        have ts : TS H.size (fun _ => False) H9 g _ _ (stF l a (k + 1) m1) := ts1
        have z_hob := hob.1
        have o0 := o0.then hob (by omega)
        refine KL.nil ?_
        refine KQ.seq ?_
        refine KC.seq ?_
        refine KC.region ?_
        refine KL.op (R.move rfl rfl) rfl rfl rfl ?_
        refine KL.call rfl rfl rfl rfl Try.call12 rfl rfl rfl (Pop_k ts) ?_
        rintro uu H10 ⟨vl, hu, ts1, st⟩
        have hob := st.oldB (B0 := H.size) (by have := o0.1; omega) (fun b hb => (ts.low b hb).1)
        rw [f_pop] at hu ts1
        have hu : uu = .tuple #[.int .u8 0, .bool false] := hu
        subst hu
        have ts : TS H.size (fun _ => False) H10 g _ _ (stF l a (k + 1) m1) := ts1
        have z_hob := hob.1
        have o0 := o0.then hob (by omega)
        refine KL.op (R.move rfl rfl) rfl rfl rfl ?_
        refine KL.op (R.extract rfl rfl rfl) rfl rfl rfl ?_
        refine KL.op (R.extract rfl rfl rfl) rfl rfl rfl ?_
        refine KL.op (R.assign rfl rfl) rfl rfl rfl ?_
        refine KL.op (R.assign rfl rfl) rfl rfl rfl ?_
        refine KL.nil ?_
        refine KQ.seq ?_
        refine KC.seq ?_
        refine KC.region ?_
        refine KL.op (R.move rfl rfl) rfl rfl rfl ?_
        refine KL.op (R.move rfl rfl) rfl rfl rfl ?_
        refine KL.op (R.move rfl rfl) rfl rfl rfl ?_
        refine KL.op (R.move rfl rfl) rfl rfl rfl ?_
        refine KL.opM (M.lit rfl Try.underlying22 zs5 (by decide) rfl rfl rfl) rfl rfl rfl ?_
        rintro _ H11 ⟨rfl, n11⟩
        have z11 := n11.2.1
        have o0 := o0.trans n11.1
        have ts := ts.old n11.1
        have b11 := n11.2.2
        have h1 : Sl 1 (EInt .u8) H11 _ [a] := Sl.lits (l := [a]) n11 rfl (by simp) (by intro x hx; simp at hx; try subst hx; first | exact ha | exact hcr | decide)
        refine KL.call rfl rfl rfl rfl Try.call14 rfl rfl rfl (Want_k ts h1) ?_
        rintro uu H12 ⟨vl, hu, ts1, st⟩
        have hob := st.oldB (B0 := H.size) (by have := o0.1; omega) (fun b hb => (ts.low b hb).1)
        rw [f_want] at hu ts1
        have hu : uu = .bool false := hu
        subst hu
        have ts : TS H.size (fun _ => False) H12 g _ _ (stF l a (k + 1) m1) := ts1
        have z_hob := hob.1
        have o0 := o0.then hob (by omega)
        refine KL.op (R.pick rfl rfl rfl) rfl rfl rfl ?_
        refine KL.nil ?_
        refine KQ.seq ?_
        refine KC.condF rfl ?_
        refine KC.skip ?_
        refine KQ.normBlock ?_
        refine KQ.seq ?_
        refine KC.region ?_
        refine KL.op ((R.add rfl rfl rfl (by dsimp only [InR]; omega)).val (congrArg (Value.int .i64) (show (k : Int) + 1 = ((k + 1 : Nat) : Int) by omega))) rfl rfl rfl ?_
        refine KL.op (R.move rfl rfl) rfl rfl rfl ?_
        refine KL.nil ?_
        refine KQ.again (k + 1) ?_ ?_ ?_
        · exact (Sub.cons rfl (Ext.sub (by repeat (first | exact Ext.refl _ _ | refine Ext.put rfl ?_ | refine Ext.drop rfl ?_))))
        · omega
        · exact ⟨by omega, o0, _, _, _, ts⟩
      · intro hc29
        try simp only [decide_eq_true_eq, decide_eq_false_iff_not, Bool.not_eq_true', Bool.not_eq_false', Bool.and_eq_true, Bool.or_eq_false_iff] at hc29
        have hkl : k = l.length := by omega
        subst hkl
        have hal := stF_all l a l.length m
        have hfl := stF_len l a l.length m
        refine KC.exit ?_
        refine KQ.exitThen ?_
        refine KQ.exitThen ?_
        refine KQ.hit ?_
        refine KQ.seq ?_
        refine KC.seq ?_
        refine KC.seq ?_
        refine KC.region ?_
        refine KL.op (R.move rfl rfl) rfl rfl rfl ?_
        refine KL.call rfl rfl rfl rfl Try.call24 rfl rfl rfl (Frames_k ts) ?_
        rintro _ _ ⟨rfl, rfl⟩
        refine KL.op (R.move rfl rfl) rfl rfl rfl ?_
        refine KL.op (R.lenS rfl Try.underlying22 rfl hs) rfl rfl rfl ?_
        refine KL.op (R.add rfl rfl rfl (by dsimp only [InR]; omega)) rfl rfl rfl ?_
        refine KL.op ((R.neq rfl rfl rfl).val ((congrArg (fun b => Value.bool (!b)) (decide_eq_true (by rw [hfl]; omega))))) rfl rfl rfl ?_
        refine KL.op (R.move rfl rfl) rfl rfl rfl ?_
        refine KL.op (R.move rfl rfl) rfl rfl rfl ?_
        refine KL.call rfl rfl rfl rfl Try.call25 rfl rfl rfl (Height_k ts) ?_
        rintro _ _ ⟨rfl, rfl⟩
        refine KL.op (R.move rfl rfl) rfl rfl rfl ?_
        refine KL.op (R.lenS rfl Try.underlying22 rfl hs) rfl rfl rfl ?_
        refine KL.op ((R.neq rfl rfl rfl).val ((congrArg (fun b => Value.bool (!b)) (decide_eq_true (by rw [hal]))))) rfl rfl rfl ?_
        refine KL.op (R.pick rfl rfl rfl) rfl rfl rfl ?_
        refine KL.nil ?_
        refine KQ.seq ?_
        refine KC.condF rfl ?_
        refine KC.skip ?_
        refine KQ.seq ?_
        refine KC.seq ?_
        refine KC.seq ?_
        refine KC.region ?_
        refine KL.op (R.move rfl rfl) rfl rfl rfl ?_
        refine KL.op (R.lenS rfl Try.underlying22 rfl hs) rfl rfl rfl ?_
        refine KL.op (R.sub rfl rfl rfl (by dsimp only [InR]; omega)) rfl rfl rfl ?_
        refine KL.op (R.assign rfl rfl) rfl rfl rfl ?_
        refine KL.nil ?_
        refine KQ.seq ?_
        refine KC.block ?_
        refine KC.loopD (κ := Nat) [72, 73, 77, 78, 76, 79, 80, 11, 12, 81, 82, 83, 84, 85, 86, 87, 88, 89, 90, 91, 92, 93, 94, 95, 96, 97, 4, 99, 100, 98, 101, 102, 13, 14, 103, 104, 105, 106, 107, 108, 109, 110, 111, 112, 113, 114, 116, 117, 115, 118, 119, 15, 16, 120, 121, 122, 123, 124, 125, 126, 127, 128, 129, 130, 131, 132, 133, 134, 135, 136, 137, 138, 139, 140, 141, 142, 143, 74, 75, 10] (fun k => [(10, .int .i64 ((k : Nat) - 1 : Int))]) (fun k Hl => k ≤ l.length ∧ Old H Hl ∧ ∃ vl vf m, TS H.size (fun _ => False) Hl g vl vf (stF l a k m)) (fun k => k) l.length ?_ ?_ ?_
        · exact (Sub.cons rfl (Ext.sub (Ext.refl _ _)))
        · exact ⟨Nat.le_refl _, o0, _, _, _, ts⟩
        · rintro k H13 ⟨hk, o0, vl, vf, m, ts⟩
          have zl_H13 := o0.1
          have zl := o0.1
          refine KC.seq ?_
          refine KC.seq ?_
          refine KC.region ?_
          refine KL.op (R.move rfl rfl) rfl rfl rfl ?_
          refine KL.op (R.geq rfl rfl rfl) rfl rfl rfl ?_
          refine KL.nil ?_
          refine KQ.seq ?_
          refine KC.iteL rfl ?_ ?_
          · intro hc73
            try simp only [decide_eq_true_eq, decide_eq_false_iff_not, Bool.not_eq_true', Bool.not_eq_false', Bool.and_eq_true, Bool.or_eq_false_iff] at hc73
            obtain ⟨k, rfl⟩ : ∃ k2, k = k2 + 1 := ⟨k - 1, by omega⟩
            obtain ⟨hcx, hcr⟩ := hs.int k (by omega)
            have hal := stF_all l a (k + 1) m
            refine KC.skip ?_
            refine KQ.seq ?_
            refine KC.seq ?_
            refine KC.block ?_
            refine KC.seq ?_
            refine KC.seq ?_
            refine KC.region ?_
            refine KL.op (R.move rfl rfl) rfl rfl rfl ?_
            refine KL.call rfl rfl rfl rfl Try.call22 rfl rfl rfl (Label_k ts 0 (by omega)) ?_
            rintro uu H14 ⟨vx, hu, wx, ox⟩
            rw [f_lab] at hu wx
            have hu : uu = .tuple #[vx, .bool true] := hu
            subst hu
            have wx : Own 1 (EInt .u8) 5 #[] _ H14 vx [l.getD k default] := wx
            have zc_H14 := (ox).1
            have o0 := o0.trans ox
            have ts := ts.old ox
            refine KL.op (R.move rfl rfl) rfl rfl rfl ?_
            refine KL.op (R.extract rfl rfl rfl) rfl rfl rfl ?_
            refine KL.op (R.extract rfl rfl rfl) rfl rfl rfl ?_
            refine KL.op (R.assign rfl rfl) rfl rfl rfl ?_
            refine KL.op (R.assign rfl rfl) rfl rfl rfl ?_
            refine KL.nil ?_
            refine KQ.seq ?_
            refine KC.seq ?_
            refine KC.quiet (by kernel_rfl) (by kernel_rfl) ?_
            refine KD.op (R.move rfl rfl) rfl rfl rfl ?_
            refine KD.op (R.not rfl rfl) rfl rfl rfl ?_
            refine KD.op (R.move rfl rfl) rfl rfl rfl ?_
            refine KD.op (R.move rfl rfl) rfl rfl rfl ?_
            refine KD.op (R.lenO rfl Try.underlying22 rfl wx) rfl rfl rfl ?_
            refine KD.op ((R.neq rfl rfl rfl).val ((congrArg (fun b => Value.bool (!b)) (decide_eq_true (by rfl))))) rfl rfl rfl ?_
            refine KD.op (R.pick rfl rfl rfl) rfl rfl rfl ?_
            refine KD.op (R.move rfl rfl) rfl rfl rfl ?_
            refine KD.op (R.move rfl rfl) rfl rfl rfl ?_
            refine KD.op (R.indexO1 (j := 0) rfl Try.underlying22 sz5 rfl rfl wx rfl (by simp)) rfl rfl rfl ?_
            refine KD.op (R.load rfl Try.underlying5 rfl rfl (wx.int (0) (by simp)).1) rfl rfl rfl ?_
            refine KD.op (R.move rfl rfl) rfl rfl rfl ?_
            refine KD.op ((R.move rfl rfl).val (congrArg (Value.int .i64) (show ((k + 1 : Nat) : Int) - 1 = (k : Nat) by omega))) rfl rfl rfl ?_
            refine KD.op (R.index1 (j := k) rfl Try.underlying22 sz5 rfl rfl hs rfl (by omega)) rfl rfl rfl ?_
            refine KD.op (R.load rfl Try.underlying5 rfl rfl (o0.cell hcx)) rfl rfl rfl ?_
            refine KD.op ((R.neq rfl rfl rfl).val ((congrArg (fun b => Value.bool (!b)) (decide_eq_true (by rfl))))) rfl rfl rfl ?_
            refine KD.op (R.pick rfl rfl rfl) rfl rfl rfl ?_
            refine KD.nil ?_
            refine KQ.seq ?_
            refine KC.condF rfl ?_
            refine KC.skip ?_
            refine KQ.seq ?_
            refine KC.seq ?_
            refine KC.seq ?_
            refine KC.region ?_
            refine KL.op (R.move rfl rfl) rfl rfl rfl ?_
            refine KL.call rfl rfl rfl rfl Try.call18 rfl rfl rfl (Close_k ts) ?_
            rintro uu H15 ⟨ev, vl, vf, hu, hx, ts1, st⟩
            have hob := st.oldB (B0 := H.size) (by have := o0.1; omega) (fun b hb => (ts.low b hb).1)
            rw [f_close] at hu ts1
            have hu : uu = .tuple #[ev, .bool false] := hu
            subst hu
            have ts : TS H.size (fun _ => False) H15 g _ _ (stF l a (k + 1) m) := ts1
            have z_hob := hob.1
            have o0 := o0.then hob (by omega)
            refine KL.op (R.move rfl rfl) rfl rfl rfl ?_
            refine KL.op (R.extract rfl rfl rfl) rfl rfl rfl ?_
            refine KL.op (R.extract rfl rfl rfl) rfl rfl rfl ?_
            refine KL.op (R.assign rfl rfl) rfl rfl rfl ?_
            refine KL.op (R.assign rfl rfl) rfl rfl rfl ?_
            refine KL.nil ?_
            refine KQ.seq ?_
            refine KC.seq ?_
            refine KC.region ?_
            refine KL.op (R.move rfl rfl) rfl rfl rfl ?_
            refine KL.nil ?_
            refine KQ.seq ?_
            refine KC.condF rfl ?_
            refine KC.skip ?_
            refine KQ.seq ?_
            refine KC.seq ?_
            refine KC.text (clOf [(4, 1), (8, 1), (9, 2), (10, 2)]) (fun _ _ => True) (by kernel_rfl) (by kernel_rfl) (fun _ => trivial) ?_
            refine KP.op rfl (fun Hg hg => R.move rfl rfl) rfl rfl rfl ?_
            refine KP.op rfl (fun Hg hg => R.move rfl rfl) rfl rfl rfl ?_
            refine KP.op rfl (fun Hg hg => (R.move rfl rfl).val (congrArg (Value.int .i64) (show ((k + 1 : Nat) : Int) - 1 = (k : Nat) by omega))) rfl rfl rfl ?_
            refine KP.op rfl (fun Hg hg => R.index1 (j := k) rfl Try.underlying22 sz5 rfl rfl hs rfl (by omega)) rfl rfl rfl ?_
            refine KP.now rfl (R.load rfl Try.underlying5 rfl rfl (o0.cell hcx)) rfl rfl rfl ?_
            refine KP.op rfl (fun Hg hg => R.move rfl rfl) rfl rfl rfl ?_
            refine KP.op rfl (fun Hg hg => (R.move rfl rfl).val (congrArg (Value.int .i64) (show ((k + 1 : Nat) : Int) - 1 = (k : Nat) by omega))) rfl rfl rfl ?_
            refine KP.op rfl (fun Hg hg => R.index1 (j := k) rfl Try.underlying22 sz5 rfl rfl hs rfl (by omega)) rfl rfl rfl ?_
            refine KP.now rfl (R.load rfl Try.underlying5 rfl rfl (o0.cell hcx)) rfl rfl rfl ?_
            refine KP.opM rfl (M.lit rfl Try.underlying22 zs5 (by decide) rfl rfl rfl) rfl rfl rfl (fun _ _ _ _ _ _ => trivial) ?_
            rintro _ H16 ⟨rfl, n16⟩
            have z16 := n16.2.1
            have o0 := o0.trans n16.1
            have ts := ts.old n16.1
            have b16 := n16.2.2
            have h1 : Sl 1 (EInt .u8) H16 _ [l.getD k default, l.getD k default] := Sl.lits (l := [l.getD k default, l.getD k default]) n16 rfl (by simp) (by intro x hx; simp at hx; try subst hx; first | exact ha | exact hcr | decide)
            refine KP.call rfl rfl rfl rfl rfl Try.call10 rfl rfl rfl (Push_k ts h1 (by rw [hal]; simp only [List.length_cons, List.length_nil]; omega)) (fun _ _ _ _ _ _ => trivial) ?_
            rintro uu H17 ⟨vl, ts1, st⟩
            have hob := st.oldB (B0 := H.size) (by have := o0.1; omega) (fun b hb => (ts.low b hb).1)
            obtain ⟨m1, e1⟩ := f_push2 l a k m (l.getD k default) rfl
            rw [e1] at ts1
            have ts : TS H.size (fun _ => False) H17 g _ _ (⟨full l a (k + 1) ++ [⟨[l.getD k default], [l.getD k default, l.getD k default], [l.getD k default, l.getD k default], false⟩], [], m1⟩) := ts1
            have z_hob := hob.1
            have o0 := o0.then hob (by omega)
            refine KP.nil ?_
            refine KQ.seq ?_
            refine KC.seq ?_
            refine KC.region ?_
            refine KL.op (R.move rfl rfl) rfl rfl rfl ?_
            refine KL.call rfl rfl rfl rfl Try.call18 rfl rfl rfl (Close_k ts) ?_
            rintro uu H18 ⟨ev, vl, vf, hu, hx, ts1, st⟩
            have hob := st.oldB (B0 := H.size) (by have := o0.1; omega) (fun b hb => (ts.low b hb).1)
            rw [f_close2] at hu hx ts1
            have hx : Sl 1 (EInt .u8) H18 ev [l.getD k default, l.getD k default] := hx
            have hu : uu = .tuple #[ev, .bool true] := hu
            subst hu
            have ts : TS H.size (fun _ => False) H18 g _ _ (⟨full l a (k + 1), [], m1⟩) := ts1
            have z_hob := hob.1
            have o0 := o0.then hob (by omega)
            refine KL.op (R.move rfl rfl) rfl rfl rfl ?_
            refine KL.op (R.extract rfl rfl rfl) rfl rfl rfl ?_
            refine KL.op (R.extract rfl rfl rfl) rfl rfl rfl ?_
            refine KL.op (R.assign rfl rfl) rfl rfl rfl ?_
            refine KL.op (R.assign rfl rfl) rfl rfl rfl ?_
            refine KL.nil ?_
            refine KQ.seq ?_
            refine KC.seq ?_
            refine KC.text (clOf [(10, 1), (14, 1), (20, 2), (21, 2)]) (fun _ _ => True) (by kernel_rfl) (by kernel_rfl) (fun _ => trivial) ?_
            refine KP.op rfl (fun Hg hg => R.move rfl rfl) rfl rfl rfl ?_
            refine KP.op rfl (fun Hg hg => R.not rfl rfl) rfl rfl rfl ?_
            refine KP.op rfl (fun Hg hg => R.move rfl rfl) rfl rfl rfl ?_
            refine KP.op rfl (fun Hg hg => R.move rfl rfl) rfl rfl rfl ?_
            refine KP.op rfl (fun Hg hg => R.lenS rfl Try.underlying22 rfl hx) rfl rfl rfl ?_
            refine KP.op rfl (fun Hg hg => (R.neq rfl rfl rfl).val ((congrArg (fun b => Value.bool (!b)) (decide_eq_true (by rfl))))) rfl rfl rfl ?_
            refine KP.op rfl (fun Hg hg => R.pick rfl rfl rfl) rfl rfl rfl ?_
            refine KP.op rfl (fun Hg hg => R.move rfl rfl) rfl rfl rfl ?_
            refine KP.op rfl (fun Hg hg => R.move rfl rfl) rfl rfl rfl ?_
            refine KP.op rfl (fun Hg hg => R.index1 (j := 0) rfl Try.underlying22 sz5 rfl rfl hx rfl (by simp)) rfl rfl rfl ?_
            refine KP.now rfl (R.load rfl Try.underlying5 rfl rfl ((hx.int 0 (by simp)).1)) rfl rfl rfl ?_
            refine KP.op rfl (fun Hg hg => R.move rfl rfl) rfl rfl rfl ?_
            refine KP.op rfl (fun Hg hg => (R.move rfl rfl).val (congrArg (Value.int .i64) (show ((k + 1 : Nat) : Int) - 1 = (k : Nat) by omega))) rfl rfl rfl ?_
            refine KP.op rfl (fun Hg hg => R.index1 (j := k) rfl Try.underlying22 sz5 rfl rfl hs rfl (by omega)) rfl rfl rfl ?_
            refine KP.now rfl (R.load rfl Try.underlying5 rfl rfl (o0.cell hcx)) rfl rfl rfl ?_
            refine KP.op rfl (fun Hg hg => (R.neq rfl rfl rfl).val ((congrArg (fun b => Value.bool (!b)) (decide_eq_true (by rfl))))) rfl rfl rfl ?_
            refine KP.op rfl (fun Hg hg => R.pick rfl rfl rfl) rfl rfl rfl ?_
            refine KP.op rfl (fun Hg hg => R.move rfl rfl) rfl rfl rfl ?_
            refine KP.op rfl (fun Hg hg => R.move rfl rfl) rfl rfl rfl ?_
            refine KP.op rfl (fun Hg hg => R.move rfl rfl) rfl rfl rfl ?_
            refine KP.opM rfl (M.lit rfl Try.underlying22 zs5 (by decide) rfl rfl rfl) rfl rfl rfl (fun _ _ _ _ _ _ => trivial) ?_
            rintro _ H19 ⟨rfl, n19⟩
            have z19 := n19.2.1
            have o0 := o0.trans n19.1
            have ts := ts.old n19.1
            have hx := hx.old n19.1
            have b19 := n19.2.2
            have h1 : Sl 1 (EInt .u8) H19 _ [a] := Sl.lits (l := [a]) n19 rfl (by simp) (by intro x hx; simp at hx; try subst hx; first | exact ha | exact hcr | decide)
            refine KP.call rfl rfl rfl rfl rfl Try.call14 rfl rfl rfl (Want_k ts h1) (fun _ _ _ _ _ _ => trivial) ?_
            rintro uu H20 ⟨vl, hu, ts1, st⟩
            have hob := st.oldB (B0 := H.size) (by have := o0.1; omega) (fun b hb => (ts.low b hb).1)
            rw [f_want2] at hu ts1
            have hu : uu = .bool true := hu
            subst hu
            have ts : TS H.size (fun _ => False) H20 g _ _ (stF l a k m1) := ts1
            have z_hob := hob.1
            have o0 := o0.then hob (by omega)
            refine KP.op rfl (fun Hg hg => R.not rfl rfl) rfl rfl rfl ?_
            refine KP.op rfl (fun Hg hg => R.pick rfl rfl rfl) rfl rfl rfl ?_
            refine KP.nil ?_
            refine KQ.seq ?_
            refine KC.condF rfl ?_
            refine KC.skip ?_
            refine KQ.normBlock ?_
            refine KQ.seq ?_
            refine KC.region ?_
            refine KL.op (R.move rfl rfl) rfl rfl rfl ?_
            refine KL.op ((R.sub rfl rfl rfl (by dsimp only [InR]; omega)).val (congrArg (Value.int .i64) (show ((k + 1 : Nat) : Int) - 1 - 1 = (k : Nat) - 1 by omega))) rfl rfl rfl ?_
            refine KL.op (R.assign rfl rfl) rfl rfl rfl ?_
            refine KL.nil ?_
            refine KQ.again (k) ?_ ?_ ?_
            · exact (Sub.cons rfl (Ext.sub (by repeat (first | exact Ext.refl _ _ | refine Ext.put rfl ?_ | refine Ext.drop rfl ?_))))
            · omega
            · exact ⟨by omega, o0, _, _, _, ts⟩
          · intro hc73
            try simp only [decide_eq_true_eq, decide_eq_false_iff_not, Bool.not_eq_true', Bool.not_eq_false', Bool.and_eq_true, Bool.or_eq_false_iff] at hc73
            have hk0 : k = 0 := by omega
            subst hk0
            have hal := stF_all l a 0 m
            have hfl := stF_len l a 0 m
            refine KC.exit ?_
            refine KQ.exitThen ?_
            refine KQ.exitThen ?_
            refine KQ.hit ?_
            refine KQ.seq ?_
            refine KC.seq ?_
            refine KC.region ?_
            refine KL.op (R.move rfl rfl) rfl rfl rfl ?_
            refine KL.call rfl rfl rfl rfl Try.call22 rfl rfl rfl (Label_k ts 0 (by omega)) ?_
            rintro uu H21 ⟨vx, hu, wx, ox⟩
            rw [f_lab] at hu wx
            have hu : uu = .tuple #[vx, .bool true] := hu
            subst hu
            have wx : Own 1 (EInt .u8) 5 #[] _ H21 vx [126] := wx
            have zc_H21 := (ox).1
            have o0 := o0.trans ox
            have ts := ts.old ox
            refine KL.op (R.move rfl rfl) rfl rfl rfl ?_
            refine KL.op (R.extract rfl rfl rfl) rfl rfl rfl ?_
            refine KL.op (R.extract rfl rfl rfl) rfl rfl rfl ?_
            refine KL.op (R.assign rfl rfl) rfl rfl rfl ?_
            refine KL.op (R.assign rfl rfl) rfl rfl rfl ?_
            refine KL.nil ?_
            refine KQ.seq ?_
            refine KC.seq ?_
            refine KC.region ?_
            refine KL.op (R.move rfl rfl) rfl rfl rfl ?_
            refine KL.op (R.move rfl rfl) rfl rfl rfl ?_
            refine KL.op (R.move rfl rfl) rfl rfl rfl ?_
            refine KL.op (R.lenO rfl Try.underlying22 rfl wx) rfl rfl rfl ?_
            refine KL.op ((R.eql rfl rfl rfl).val (congrArg Value.bool (decide_eq_true (by rfl)))) rfl rfl rfl ?_
            refine KL.op (R.pick rfl rfl rfl) rfl rfl rfl ?_
            refine KL.op (R.move rfl rfl) rfl rfl rfl ?_
            refine KL.op (R.move rfl rfl) rfl rfl rfl ?_
            refine KL.op (R.indexO1 (j := 0) rfl Try.underlying22 sz5 rfl rfl wx rfl (by simp)) rfl rfl rfl ?_
            refine KL.op (R.load rfl Try.underlying5 rfl rfl (wx.int (0) (by simp)).1) rfl rfl rfl ?_
            refine KL.op ((R.eql rfl rfl rfl).val (congrArg Value.bool (decide_eq_true (by rfl)))) rfl rfl rfl ?_
            refine KL.op (R.pick rfl rfl rfl) rfl rfl rfl ?_
            refine KL.op (R.move rfl rfl) rfl rfl rfl ?_
            refine KL.op (R.move rfl rfl) rfl rfl rfl ?_
            refine KL.call rfl rfl rfl rfl Try.call24 rfl rfl rfl (Frames_k ts) ?_
            rintro _ _ ⟨rfl, rfl⟩
            refine KL.op ((R.eql rfl rfl rfl).val (congrArg Value.bool (decide_eq_true (by rw [hfl]; rfl)))) rfl rfl rfl ?_
            refine KL.op (R.pick rfl rfl rfl) rfl rfl rfl ?_
            refine KL.op (R.move rfl rfl) rfl rfl rfl ?_
            refine KL.op (R.move rfl rfl) rfl rfl rfl ?_
            refine KL.call rfl rfl rfl rfl Try.call25 rfl rfl rfl (Height_k ts) ?_
            rintro _ _ ⟨rfl, rfl⟩
            refine KL.op ((R.eql rfl rfl rfl).val (congrArg Value.bool (decide_eq_true (by rw [hal]; rfl)))) rfl rfl rfl ?_
            refine KL.op (R.pick rfl rfl rfl) rfl rfl rfl ?_
            refine KL.op (R.assign rfl rfl) rfl rfl rfl ?_
            refine KL.nil ?_
            refine KQ.seq ?_
            refine KC.ret ?_
            refine KQ.ofRet ?_
            refine KQ.fin1 Try.results5 rfl ?_
            exact ⟨rfl, o0⟩

end Go.Proofs.Ytglopfbdnpbgeaa
