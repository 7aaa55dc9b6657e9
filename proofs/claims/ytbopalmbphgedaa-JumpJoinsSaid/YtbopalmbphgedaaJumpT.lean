/- gabellelaw19.JumpJoins, walked. No condition. -/
import Derived.Test.YtbopalmbphgedaaJumpS
namespace Go.Proofs.Ytbopalmbphgedaa
open Go Go.RowKit
set_option linter.unusedVariables false
set_option linter.unusedSimpArgs false
set_option linter.unnecessarySimpa false

/-- elements that read so in one heap -/
def EFix {α : Type} (E : El α) (H0 : Heap) : El α := fun _ cs y => E H0 cs y
instance keepsFix {α : Type} (E : El α) (H0 : Heap) : Keeps (EFix E H0) := ⟨fun _ h => h⟩
instance oneFix {α : Type} (E : El α) (H0 : Heap) [k : One E] : One (EFix E H0) := ⟨fun h => k.one (H := H0) h⟩
theorem Sl.unfix {α : Type} {n : Nat} {E : El α} [k : Keeps E] {H0 H : Heap} {v : Value} {l : List α} (h : Sl n (EFix E H0) H v l) (ho : Old H0 H) : Sl n E H v l := by
  obtain ⟨a, cap, h1, h2, h3, h4, h5, h6⟩ := h
  refine ⟨a, cap, h1, h2, h3, h4, h5, fun j x hj => ?_⟩
  obtain ⟨cs, e1, e2, e3⟩ := h6 j x hj
  exact ⟨cs, e1, e2, k.keep ho e3⟩


theorem dp_range {l : List Ins} {s : JS} (h : JS.of l = some s) : 0 ≤ s.dp ∧ s.dp ≤ l.length := by
  refine ⟨(inv_of h).1.dp, ?_⟩
  unfold JS.of at h
  cases hr : JS.run l l.length with
  | none => rw [hr] at h; cases h
  | some s0 =>
    rw [hr] at h
    simp only [Option.bind_some] at h
    split at h
    · cases h; have := JS.dp_run (Nat.le_refl _) hr; omega
    · cases h

set_option maxRecDepth 100000 in
set_option maxHeartbeats 4000000 in
theorem on_any {H : Heap} (g : Nat) (v : Value) (l : List Ins) (n : Int) (bp : H[g]? = some (.cells [v].toArray 27 (0, 0))) (hs : Sl 5 EIns H v l) (hl : l.length < 1000000) (hn : -1 ≤ n ∧ n < 1000000) : Ct Try.prog 20 [.int .i64 n, .pointer (some ⟨g, 0, none⟩)] H (fun u H' => u = .int .i64 (onA (l.length + 1) n) ∧ H = H') := by
  refine Ct.mk Try.func20 rfl Try.ntmps20 rfl ?_
  intro W0 hW0
  have o0 : Old H H := Old.refl H
  refine KC.seq ?_
  refine KC.region ?_
  refine KL.op (R.assign rfl rfl) rfl rfl rfl ?_
  refine KL.nil ?_
  refine KQ.seq ?_
  refine KC.seq ?_
  refine KC.seq ?_
  refine KC.region ?_
  refine KL.op (R.move rfl rfl) rfl rfl rfl ?_
  refine KL.op (R.lss rfl rfl rfl) rfl rfl rfl ?_
  refine KL.nil ?_
  refine KQ.seq ?_
  refine KC.iteL rfl ?_ ?_
  · intro hc5
    try simp only [decide_eq_true_eq, decide_eq_false_iff_not, Bool.not_eq_true', Bool.not_eq_false', Bool.and_eq_true, Bool.or_eq_false_iff] at hc5
    refine KC.seq ?_
    refine KC.region ?_
    refine KL.op (R.move rfl rfl) rfl rfl rfl ?_
    refine KL.op (R.assign rfl rfl) rfl rfl rfl ?_
    refine KL.nil ?_
    refine KQ.seq ?_
    refine KC.ret ?_
    refine KQ.retThen ?_
    refine KQ.ofRet ?_
    refine KQ.fin1 Try.results20 rfl ?_
    exact ⟨congrArg (Value.int .i64) (by unfold onA; first | rw [if_pos hc5] | (rw [if_neg hc5]; omega)), rfl⟩
  · intro hc5
    try simp only [decide_eq_true_eq, decide_eq_false_iff_not, Bool.not_eq_true', Bool.not_eq_false', Bool.and_eq_true, Bool.or_eq_false_iff] at hc5
    refine KC.skip ?_
    refine KQ.seq ?_
    refine KC.seq ?_
    refine KC.region ?_
    refine KL.op (R.move rfl rfl) rfl rfl rfl ?_
    refine KL.op (R.load rfl Try.underlying27 rfl rfl (by first | exact cell_of bp rfl | assumption)) rfl rfl rfl ?_
    refine KL.op ((by first | exact R.lenS rfl Try.underlying27 rfl (by first | exact hs | assumption) | exact R.len (ty := 0) rfl Try.underlying27 rfl)) rfl rfl rfl ?_
    refine KL.op (R.add rfl rfl rfl (by dsimp only [InR]; omega)) rfl rfl rfl ?_
    refine KL.op (R.add rfl rfl rfl (by dsimp only [InR]; omega)) rfl rfl rfl ?_
    refine KL.op (R.assign rfl rfl) rfl rfl rfl ?_
    refine KL.nil ?_
    refine KQ.seq ?_
    refine KC.ret ?_
    refine KQ.ofRet ?_
    refine KQ.fin1 Try.results20 rfl ?_
    exact ⟨congrArg (Value.int .i64) (by unfold onA; first | rw [if_pos hc5] | (rw [if_neg hc5]; omega)), rfl⟩

set_option maxRecDepth 100000 in
set_option maxHeartbeats 4000000 in
theorem JumpJoins_any {H : Heap} (v1 v2 : Value) (l1 l2 : List Ins) (b : Bool) (hs : Sl 5 EIns H v1 l1) (ht : Sl 5 EIns H v2 l2) : Ct Try.prog 6 [v1, v2, .bool b] H (fun u H' => u = .bool true ∧ Old H H') := by
  refine Ct.mk Try.func6 rfl Try.ntmps6 rfl ?_
  intro W0 hW0
  have o0 : Old H H := Old.refl H
  have hll := hs.len
  have hlt2 := ht.len
  refine KC.seq ?_
  refine KC.region ?_
  refine KL.opM (M.box rfl rfl hs.cells1) rfl rfl rfl ?_
  rintro _ H1 ⟨rfl, n1⟩
  have z1 := n1.2.1
  have o0 := o0.trans n1.1
  have b1 := n1.2.2
  have bp := b1
  refine KL.op (R.assign rfl rfl) rfl rfl rfl ?_
  refine KL.nil ?_
  refine KQ.seq ?_
  refine KC.seq ?_
  refine KC.seq ?_
  refine KC.region ?_
  refine KL.op (R.load rfl Try.underlying27 rfl rfl (by first | exact cell_of bp rfl | assumption)) rfl rfl rfl ?_
  refine KL.op ((by first | exact R.lenS rfl Try.underlying27 rfl (by first | exact hs.old o0 | exact ht.old o0 | assumption) | exact R.len (ty := 0) rfl Try.underlying27 rfl)) rfl rfl rfl ?_
  refine KL.op (R.gtr rfl rfl rfl) rfl rfl rfl ?_
  refine KL.op (R.move rfl rfl) rfl rfl rfl ?_
  refine KL.case (d := 21) rfl ?_ ?_
  · intro hg21
    try simp only [decide_eq_true_eq, decide_eq_false_iff_not, Bool.not_eq_true', Bool.not_eq_false', Bool.and_eq_true, Bool.or_eq_false_iff] at hg21
    refine KL.skip rfl rfl rfl ?_
    refine KL.skip rfl rfl rfl ?_
    refine KL.skip rfl rfl rfl ?_
    refine KL.op (R.pick rfl rfl rfl) rfl rfl rfl ?_
    refine KL.nil ?_
    refine KQ.seq ?_
    refine KC.condT rfl ?_
    refine KC.seq ?_
    refine KC.region ?_
    refine KL.call rfl rfl rfl rfl Try.call9 rfl rfl rfl (works_any) ?_
    rintro _ H2 ⟨rfl, ox⟩
    have o0 := o0.trans ox
    have bp := (ox).blk bp
    refine KL.op (R.assign rfl rfl) rfl rfl rfl ?_
    refine KL.nil ?_
    refine KQ.seq ?_
    refine KC.ret ?_
    refine KQ.retThen ?_
    refine KQ.ofRet ?_
    refine KQ.fin1 Try.results6 rfl ?_
    exact ⟨rfl, o0⟩
  · intro hg21
    try simp only [decide_eq_true_eq, decide_eq_false_iff_not, Bool.not_eq_true', Bool.not_eq_false', Bool.and_eq_true, Bool.or_eq_false_iff] at hg21
    refine KL.op (R.move rfl rfl) rfl rfl rfl ?_
    refine KL.op ((by first | exact R.lenS rfl Try.underlying27 rfl (by first | exact hs.old o0 | exact ht.old o0 | assumption) | exact R.len (ty := 0) rfl Try.underlying27 rfl)) rfl rfl rfl ?_
    refine KL.op (R.gtr rfl rfl rfl) rfl rfl rfl ?_
    refine KL.op (R.pick rfl rfl rfl) rfl rfl rfl ?_
    refine KL.nil ?_
    refine KQ.seq ?_
    refine KC.iteL rfl ?_ ?_
    · intro hc25
      try simp only [decide_eq_true_eq, decide_eq_false_iff_not, Bool.not_eq_true', Bool.not_eq_false', Bool.and_eq_true, Bool.or_eq_false_iff] at hc25
      refine KC.seq ?_
      refine KC.region ?_
      refine KL.call rfl rfl rfl rfl Try.call9 rfl rfl rfl (works_any) ?_
      rintro _ H3 ⟨rfl, ox⟩
      have o0 := o0.trans ox
      have bp := (ox).blk bp
      refine KL.op (R.assign rfl rfl) rfl rfl rfl ?_
      refine KL.nil ?_
      refine KQ.seq ?_
      refine KC.ret ?_
      refine KQ.retThen ?_
      refine KQ.ofRet ?_
      refine KQ.fin1 Try.results6 rfl ?_
      exact ⟨rfl, o0⟩
    · intro hc25
      try simp only [decide_eq_true_eq, decide_eq_false_iff_not, Bool.not_eq_true', Bool.not_eq_false', Bool.and_eq_true, Bool.or_eq_false_iff] at hc25
      refine KC.skip ?_
      refine KQ.seq ?_
      refine KC.seq ?_
      refine KC.region ?_
      refine KL.op (R.load rfl Try.underlying27 rfl rfl (by first | exact cell_of bp rfl | assumption)) rfl rfl rfl ?_
      refine KL.call rfl rfl rfl rfl Try.call7 rfl rfl rfl (Of_any _ _ (hs.old o0) (by omega)) ?_
      rintro _ H4 ⟨ox, hR⟩
      have o0 := o0.trans ox
      have bp := (ox).blk bp
      rcases hR with ⟨sA, gA, hofA, rfl, hjA⟩ | ⟨hofA, rfl⟩
      · skip
        refine KL.op (R.move rfl rfl) rfl rfl rfl ?_
        refine KL.op (R.extract rfl rfl rfl) rfl rfl rfl ?_
        refine KL.op (R.extract rfl rfl rfl) rfl rfl rfl ?_
        refine KL.op (R.assign rfl rfl) rfl rfl rfl ?_
        refine KL.op (R.assign rfl rfl) rfl rfl rfl ?_
        refine KL.nil ?_
        refine KQ.seq ?_
        refine KC.seq ?_
        refine KC.region ?_
        refine KL.op (R.move rfl rfl) rfl rfl rfl ?_
        refine KL.call rfl rfl rfl rfl Try.call7 rfl rfl rfl (Of_any _ _ (ht.old o0) (by omega)) ?_
        rintro _ H5 ⟨ox, hR⟩
        have o0 := o0.trans ox
        have bp := (ox).blk bp
        have hjA := hjA.old ox
        rcases hR with ⟨sB, gB, hofB, rfl, hjB⟩ | ⟨hofB, rfl⟩
        · skip
          refine KL.op (R.move rfl rfl) rfl rfl rfl ?_
          refine KL.op (R.extract rfl rfl rfl) rfl rfl rfl ?_
          refine KL.op (R.extract rfl rfl rfl) rfl rfl rfl ?_
          refine KL.op (R.assign rfl rfl) rfl rfl rfl ?_
          refine KL.op (R.assign rfl rfl) rfl rfl rfl ?_
          refine KL.nil ?_
          refine KQ.seq ?_
          refine KC.seq ?_
          refine KC.seq ?_
          refine KC.region ?_
          refine KL.op (R.move rfl rfl) rfl rfl rfl ?_
          refine KL.op (R.not rfl rfl) rfl rfl rfl ?_
          refine KL.op (R.move rfl rfl) rfl rfl rfl ?_
          refine KL.op (R.move rfl rfl) rfl rfl rfl ?_
          refine KL.op (R.not rfl rfl) rfl rfl rfl ?_
          refine KL.op (R.pick rfl rfl rfl) rfl rfl rfl ?_
          refine KL.nil ?_
          refine KQ.seq ?_
          refine KC.condF rfl ?_
          refine KC.skip ?_
          refine KQ.seq ?_
          refine KC.seq ?_
          refine KC.region ?_
          refine KL.op (R.assign rfl rfl) rfl rfl rfl ?_
          refine KL.nil ?_
          refine KQ.seq ?_
          refine KC.seq ?_
          refine KC.seq ?_
          refine KC.region ?_
          refine KL.op (R.move rfl rfl) rfl rfl rfl ?_
          refine KL.nil ?_
          refine KQ.seq ?_
          refine KC.iteL rfl ?_ ?_
          · intro hc44
            try simp only [decide_eq_true_eq, decide_eq_false_iff_not, Bool.not_eq_true', Bool.not_eq_false', Bool.and_eq_true, Bool.or_eq_false_iff] at hc44
            have hbT := hc44
            refine KC.region ?_
            refine KL.op (R.assign rfl rfl) rfl rfl rfl ?_
            refine KL.nil ?_
            refine KQ.seq ?_
            refine KC.seq ?_
            refine KC.region ?_
            have oF : Old H5 H5 := Old.refl _
            have hsF : Sl 5 (EFix EIns H5) H5 v1 l1 := hs.old o0
            have htF : Sl 5 (EFix EIns H5) H5 v2 l2 := ht.old o0
            have hj1F := hjA
            have hj2F := hjB
            have zF := o0.1
            have zbp := blk_lt bp
            refine KL.opM (M.lit rfl Try.underlying27 zs37 (by decide) rfl rfl rfl) rfl rfl rfl ?_
            rintro _ H6 ⟨rfl, n6⟩
            have z6 := n6.2.1
            have o0 := o0.trans n6.1
            have bp := (n6.1).blk bp
            have hjA := hjA.old n6.1
            have hjB := hjB.old n6.1
            have b6 := n6.2.2
            have oF := oF.trans n6.1
            have ra : Own 5 (EFix EIns H5) 37 #[] H5.size H6 _ ([] : List Ins) := Own.litN (n := 5) (m := 0) (l := []) n6 (by omega) rfl (by unfold maxLen; omega) rfl (by simp [nth])
            refine KL.op (R.load rfl Try.underlying27 rfl rfl (by first | exact cell_of bp rfl | assumption)) rfl rfl rfl ?_
            have lt7 := ra.lt
            refine KL.opM (M.append rfl Try.underlying27 inf37 rfl (by decide) rfl rfl ra (by exact (hsF.old oF)) (fun _ _ h _ => h) (by omega) (by simp; omega) (by unfold maxLen; simp; omega)) rfl rfl rfl ?_
            rintro va1 H7 ⟨w7, g7⟩
            have ob7 := g7.oldB ra (by omega)
            have o0 := o0.then ob7 (by omega)
            have z7 := ob7.1
            have bp := (g7.2 _ (blk_lt bp) (by first | exact .inr (by omega) | exact .inl rfl | exact lt7.imp id (fun h => by omega))).trans bp
            have oF := oF.then ob7 (by omega)
            have ra := w7
            refine KL.op (R.move rfl rfl) rfl rfl rfl ?_
            refine KL.op (R.buildL rfl Try.underlying37 zr37 [(0, 1), (1, 1), (2, 1), (3, 1), (4, 1)] (fun w => by kernel_rfl) rfl ⟨⟨_, rfl, rfl⟩, trivial⟩ rfl rfl ⟨⟨_, rfl, by first | rfl | exact ra.cells1⟩, trivial⟩ rfl) rfl rfl rfl ?_
            refine KL.opM (M.lit rfl Try.underlying27 zs37 (by decide) rfl rfl rfl) rfl rfl rfl ?_
            rintro _ H8 ⟨rfl, n8⟩
            have z8 := n8.2.1
            have o0 := o0.trans n8.1
            have bp := (n8.1).blk bp
            have ra := ra.old n8.1
            have oF := oF.trans n8.1
            have b8 := n8.2.2
            have sl1 : Sl 5 (EFix EIns H5) H8 _ [mkIns 3] := Sl.lit1N n8 rfl (by omega) ⟨_, rfl, Sl.nil _ _ _, by dsimp only [mkIns, InR]; omega, by dsimp only [mkIns, InR]; omega, by dsimp only [mkIns, InR]; omega, by dsimp only [mkIns, InR]; omega⟩
            have lt9 := ra.lt
            refine KL.opM (M.append rfl Try.underlying27 inf37 rfl (by decide) rfl rfl ra (by exact sl1) (fun _ _ h _ => h) (by omega) (by simp; omega) (by unfold maxLen; simp; omega)) rfl rfl rfl ?_
            rintro va2 H9 ⟨w9, g9⟩
            have ob9 := g9.oldB ra (by omega)
            have o0 := o0.then ob9 (by omega)
            have z9 := ob9.1
            have bp := (g9.2 _ (blk_lt bp) (by first | exact .inr (by omega) | exact .inl rfl | exact lt9.imp id (fun h => by omega))).trans bp
            have oF := oF.then ob9 (by omega)
            have ra := w9
            have hva : vblock va2 < Array.size H9 := by
              rcases ra.lt with h | h
              · rw [h]; show 0 < _; omega
              · exact h.2
            refine KL.opM (M.lit rfl Try.underlying27 zs37 (by decide) rfl rfl rfl) rfl rfl rfl ?_
            rintro _ H10 ⟨rfl, n10⟩
            have z10 := n10.2.1
            have o0 := o0.trans n10.1
            have bp := (n10.1).blk bp
            have ra := ra.old n10.1
            have oF := oF.trans n10.1
            have b10 := n10.2.2
            have rb : Own 5 (EFix EIns H5) 37 #[] (Array.size H9) H10 _ ([] : List Ins) := Own.litN (n := 5) (m := 0) (l := []) n10 (by omega) rfl (by unfold maxLen; omega) rfl (by simp [nth])
            refine KL.op (R.move rfl rfl) rfl rfl rfl ?_
            have lt11 := rb.lt
            refine KL.opM (M.append rfl Try.underlying27 inf37 rfl (by decide) rfl rfl rb (by exact (htF.old oF)) (fun _ _ h _ => h) (by omega) (by simp; omega) (by unfold maxLen; simp; omega)) rfl rfl rfl ?_
            rintro vb1 H11 ⟨w11, g11⟩
            have ob11 := g11.oldB rb (by omega)
            have o0 := o0.then ob11 (by omega)
            have z11 := ob11.1
            have bp := (g11.2 _ (blk_lt bp) (by first | exact .inr (by omega) | exact .inl rfl | exact lt11.imp id (fun h => by omega))).trans bp
            have ra := ra.keep (g11.2 _ (by omega) (by first | exact .inr (by omega) | exact .inl rfl | exact lt11.imp id (fun h => by omega)))
            have oF := oF.then ob11 (by omega)
            have rb := w11
            refine KL.op (R.buildL rfl Try.underlying37 zr37 [(0, 1), (1, 1), (2, 1), (3, 1), (4, 1)] (fun w => by kernel_rfl) rfl ⟨⟨_, rfl, rfl⟩, trivial⟩ rfl rfl ⟨⟨_, rfl, by first | rfl | exact ra.cells1 | exact rb.cells1⟩, trivial⟩ rfl) rfl rfl rfl ?_
            refine KL.opM (M.lit rfl Try.underlying27 zs37 (by decide) rfl rfl rfl) rfl rfl rfl ?_
            rintro _ H12 ⟨rfl, n12⟩
            have z12 := n12.2.1
            have o0 := o0.trans n12.1
            have bp := (n12.1).blk bp
            have ra := ra.old n12.1
            have oF := oF.trans n12.1
            have rb := rb.old n12.1
            have b12 := n12.2.2
            have sl2 : Sl 5 (EFix EIns H5) H12 _ [mkIns 11] := Sl.lit1N n12 rfl (by omega) ⟨_, rfl, Sl.nil _ _ _, by dsimp only [mkIns, InR]; omega, by dsimp only [mkIns, InR]; omega, by dsimp only [mkIns, InR]; omega, by dsimp only [mkIns, InR]; omega⟩
            have lt13 := rb.lt
            refine KL.opM (M.append rfl Try.underlying27 inf37 rfl (by decide) rfl rfl rb (by exact sl2) (fun _ _ h _ => h) (by omega) (by simp; omega) (by unfold maxLen; simp; omega)) rfl rfl rfl ?_
            rintro vb2 H13 ⟨w13, g13⟩
            have ob13 := g13.oldB rb (by omega)
            have o0 := o0.then ob13 (by omega)
            have z13 := ob13.1
            have bp := (g13.2 _ (blk_lt bp) (by first | exact .inr (by omega) | exact .inl rfl | exact lt13.imp id (fun h => by omega))).trans bp
            have ra := ra.keep (g13.2 _ (by omega) (by first | exact .inr (by omega) | exact .inl rfl | exact lt13.imp id (fun h => by omega)))
            have oF := oF.then ob13 (by omega)
            have rb := w13
            have hbs := rb.sl (emptyOld _) (by omega)
            have lt14 := ra.lt
            refine KL.opM (M.append rfl Try.underlying27 inf37 rfl (by decide) rfl rfl ra (by exact hbs) (fun _ _ h _ => h) (by omega) (by simp; omega) (by unfold maxLen; simp; omega)) rfl rfl rfl ?_
            rintro vl H14 ⟨w14, g14⟩
            have ob14 := g14.oldB ra (by omega)
            have o0 := o0.then ob14 (by omega)
            have z14 := ob14.1
            have bp := (g14.2 _ (blk_lt bp) (by first | exact .inr (by omega) | exact .inl rfl | exact lt14.imp id (fun h => by omega))).trans bp
            have oF := oF.then ob14 (by omega)
            have ra := w14
            have hjA := hj1F.old oF
            have hjB := hj2F.old oF
            have hlS : Sl 5 EIns H14 vl (joined l1 l2 3) := (by simpa [joined] using ra.sl (emptyOld _) (by omega) : Sl 5 (EFix EIns H5) H14 vl (joined l1 l2 3)).unfix oF
            have hln : (joined l1 l2 3).length = l1.length + 1 + l2.length + 1 := by simp [joined]; omega
            obtain ⟨dB1, dB2⟩ := dp_range hofB
            obtain ⟨sL, hofL, jd, jen, jfa, jfb⟩ := joins hofA hofB (o := 3) (by omega)
            refine KL.op (R.assign rfl rfl) rfl rfl rfl ?_
            refine KL.nil ?_
            refine KQ.seq ?_
            refine KC.seq ?_
            refine KC.region ?_
            refine KL.op (R.move rfl rfl) rfl rfl rfl ?_
            refine KL.call rfl rfl rfl rfl Try.call7 rfl rfl rfl (Of_any _ _ hlS (by omega)) ?_
            rintro _ H15 ⟨ox, hR⟩
            obtain ⟨gL, rfl, hjL⟩ : ∃ g, _ = Value.tuple #[.pointer (some ⟨g, 0, none⟩), .bool true] ∧ JM H15 g sL.en sL.el sL.op sL.dp := by
              rcases hR with ⟨s, g, h, h2, h3⟩ | h
              · rw [hofL] at h; cases h; exact ⟨g, h2, h3⟩
              · rw [hofL] at h; cases h.1
            have o0 := o0.trans ox
            have bp := (ox).blk bp
            have ra := ra.old ox
            have oF := oF.trans ox
            have hjA := hjA.old ox
            have hjB := hjB.old ox
            have hlS := hlS.old ox
            refine KL.op (R.move rfl rfl) rfl rfl rfl ?_
            refine KL.op (R.extract rfl rfl rfl) rfl rfl rfl ?_
            refine KL.op (R.extract rfl rfl rfl) rfl rfl rfl ?_
            refine KL.op (R.assign rfl rfl) rfl rfl rfl ?_
            refine KL.op (R.assign rfl rfl) rfl rfl rfl ?_
            refine KL.nil ?_
            refine KQ.seq ?_
            refine KC.seq ?_
            refine KC.seq ?_
            refine KC.region ?_
            refine KL.op (R.move rfl rfl) rfl rfl rfl ?_
            refine KL.op (R.not rfl rfl) rfl rfl rfl ?_
            refine KL.op (R.move rfl rfl) rfl rfl rfl ?_
            refine KL.op (R.move rfl rfl) rfl rfl rfl ?_
            refine KL.call rfl rfl rfl rfl Try.call11 rfl rfl rfl (Depth_any _ _ _ _ _ hjL) ?_
            rintro _ _ ⟨rfl, rfl⟩
            refine KL.op (R.move rfl rfl) rfl rfl rfl ?_
            refine KL.call rfl rfl rfl rfl Try.call11 rfl rfl rfl (Depth_any _ _ _ _ _ hjA) ?_
            rintro _ _ ⟨rfl, rfl⟩
            refine KL.op (R.move rfl rfl) rfl rfl rfl ?_
            refine KL.call rfl rfl rfl rfl Try.call11 rfl rfl rfl (Depth_any _ _ _ _ _ hjB) ?_
            rintro _ _ ⟨rfl, rfl⟩
            refine KL.op (R.add rfl rfl rfl (by dsimp only [InR]; omega)) rfl rfl rfl ?_
            refine KL.op (R.max rfl rfl rfl) rfl rfl rfl ?_
            refine KL.op ((R.neq rfl rfl rfl).val ((congrArg (fun b => Value.bool (!b)) (decide_eq_true (by exact jd))))) rfl rfl rfl ?_
            refine KL.op (R.pick rfl rfl rfl) rfl rfl rfl ?_
            refine KL.op (R.move rfl rfl) rfl rfl rfl ?_
            refine KL.op (R.move rfl rfl) rfl rfl rfl ?_
            refine KL.op (R.load rfl Try.underlying27 rfl rfl (by first | exact cell_of bp rfl | assumption)) rfl rfl rfl ?_
            refine KL.op ((by first | exact R.lenS rfl Try.underlying27 rfl (by first | exact hs.old o0 | exact ht.old o0 | exact hjA | exact hjB | exact hlS | exact hjL | assumption) | exact R.len (ty := 0) rfl Try.underlying27 rfl)) rfl rfl rfl ?_
            refine KL.call rfl rfl rfl rfl Try.call12 rfl rfl rfl (End_any _ _ _ _ _ _ hjL) ?_
            rintro _ _ ⟨rfl, rfl⟩
            refine KL.op (R.move rfl rfl) rfl rfl rfl ?_
            refine KL.op (R.lenS rfl Try.underlying27 rfl hlS) rfl rfl rfl ?_
            refine KL.op (R.sub rfl rfl rfl (by dsimp only [InR]; omega)) rfl rfl rfl ?_
            refine KL.op ((R.neq rfl rfl rfl).val ((congrArg (fun b => Value.bool (!b)) (decide_eq_true (by exact jen))))) rfl rfl rfl ?_
            refine KL.op (R.pick rfl rfl rfl) rfl rfl rfl ?_
            refine KL.nil ?_
            refine KQ.seq ?_
            refine KC.condF rfl ?_
            refine KC.skip ?_
            refine KQ.seq ?_
            refine KC.seq ?_
            refine KC.region ?_
            refine KL.op (R.makeFunc rfl rfl rfl) rfl rfl rfl ?_
            refine KL.op (R.assign rfl rfl) rfl rfl rfl ?_
            refine KL.nil ?_
            refine KQ.seq ?_
            refine KC.seq ?_
            refine KC.seq ?_
            refine KC.region ?_
            refine KL.op (R.load rfl Try.underlying27 rfl rfl (by first | exact cell_of bp rfl | assumption)) rfl rfl rfl ?_
            refine KL.op ((by first | exact R.lenS rfl Try.underlying27 rfl (by first | exact hs.old o0 | exact ht.old o0 | exact hjA | exact hjB | exact hlS | exact hjL | assumption) | exact R.len (ty := 0) rfl Try.underlying27 rfl)) rfl rfl rfl ?_
            refine KL.op (R.move rfl rfl) rfl rfl rfl ?_
            refine KL.nil ?_
            refine KQ.seq ?_
            refine KC.block ?_
            refine KC.loopD (κ := Nat) [91, 92, 16, 93, 94, 95, 96, 97, 98, 99, 100, 101, 102, 103, 104, 105, 106, 107, 108, 109, 110, 111, 112, 113, 114, 115, 116, 117, 6, 118, 90] (fun k => [(90, .int .i64 (k : Nat))]) (fun k Hl => k ≤ l1.length ∧ H15 = Hl) (fun k => l1.length - k) 0 ?_ ?_ ?_
            · exact (Sub.cons rfl (Ext.sub (Ext.refl _ _)))
            · exact ⟨Nat.zero_le _, rfl⟩
            · rintro k H16 ⟨hk, rfl⟩
              refine KC.seq ?_
              refine KC.region ?_
              refine KL.op (R.lss rfl rfl rfl) rfl rfl rfl ?_
              refine KL.nil ?_
              refine KQ.seq ?_
              refine KC.seq ?_
              refine KC.iteL rfl ?_ ?_
              · intro hc91
                try simp only [decide_eq_true_eq, decide_eq_false_iff_not, Bool.not_eq_true', Bool.not_eq_false', Bool.and_eq_true, Bool.or_eq_false_iff] at hc91
                obtain ⟨ka, kb, kc⟩ := jfa k (by omega)
                refine KC.skip ?_
                refine KQ.seq ?_
                refine KC.seq ?_
                refine KC.block ?_
                refine KC.seq ?_
                refine KC.region ?_
                refine KL.op (R.move rfl rfl) rfl rfl rfl ?_
                refine KL.op (R.assign rfl rfl) rfl rfl rfl ?_
                refine KL.nil ?_
                refine KQ.seq ?_
                refine KC.seq ?_
                refine KC.region ?_
                refine KL.op (R.move rfl rfl) rfl rfl rfl ?_
                refine KL.op (R.move rfl rfl) rfl rfl rfl ?_
                refine KL.call rfl rfl rfl rfl Try.call12 rfl rfl rfl (End_any _ _ _ _ _ _ hjL) ?_
                rintro _ _ ⟨rfl, rfl⟩
                rw [ka]
                refine KL.op (R.move rfl rfl) rfl rfl rfl ?_
                refine KL.op (R.move rfl rfl) rfl rfl rfl ?_
                refine KL.call rfl rfl rfl rfl Try.call12 rfl rfl rfl (End_any _ _ _ _ _ _ hjA) ?_
                rintro _ _ ⟨rfl, rfl⟩
                refine KL.op ((R.neq rfl rfl rfl).val ((congrArg (fun b => Value.bool (!b)) (decide_eq_true (by rfl))))) rfl rfl rfl ?_
                refine KL.op (R.move rfl rfl) rfl rfl rfl ?_
                refine KL.op (R.move rfl rfl) rfl rfl rfl ?_
                refine KL.op (R.move rfl rfl) rfl rfl rfl ?_
                refine KL.call rfl rfl rfl rfl Try.call13 rfl rfl rfl (Else_any _ _ _ _ _ _ hjL) ?_
                rintro _ _ ⟨rfl, rfl⟩
                rw [kb]
                refine KL.op (R.move rfl rfl) rfl rfl rfl ?_
                refine KL.op (R.move rfl rfl) rfl rfl rfl ?_
                refine KL.call rfl rfl rfl rfl Try.call13 rfl rfl rfl (Else_any _ _ _ _ _ _ hjA) ?_
                rintro _ _ ⟨rfl, rfl⟩
                refine KL.op ((R.neq rfl rfl rfl).val ((congrArg (fun b => Value.bool (!b)) (decide_eq_true (by rfl))))) rfl rfl rfl ?_
                refine KL.op (R.pick rfl rfl rfl) rfl rfl rfl ?_
                refine KL.op (R.move rfl rfl) rfl rfl rfl ?_
                refine KL.op (R.move rfl rfl) rfl rfl rfl ?_
                refine KL.op (R.move rfl rfl) rfl rfl rfl ?_
                refine KL.call rfl rfl rfl rfl Try.call14 rfl rfl rfl (Open_any _ _ _ _ _ _ hjL) ?_
                rintro _ _ ⟨rfl, rfl⟩
                rw [kc]
                refine KL.op (R.move rfl rfl) rfl rfl rfl ?_
                refine KL.op (R.move rfl rfl) rfl rfl rfl ?_
                refine KL.call rfl rfl rfl rfl Try.call14 rfl rfl rfl (Open_any _ _ _ _ _ _ hjA) ?_
                rintro _ _ ⟨rfl, rfl⟩
                refine KL.op ((R.neq rfl rfl rfl).val ((congrArg (fun b => Value.bool (!b)) (decide_eq_true (by rfl))))) rfl rfl rfl ?_
                refine KL.op (R.pick rfl rfl rfl) rfl rfl rfl ?_
                refine KL.nil ?_
                refine KQ.seq ?_
                refine KC.condF rfl ?_
                refine KC.skip ?_
                refine KQ.normBlock ?_
                refine KQ.seq ?_
                refine KC.region ?_
                refine KL.op (R.add rfl rfl rfl (by dsimp only [InR]; omega)) rfl rfl rfl ?_
                refine KL.op (R.move rfl rfl) rfl rfl rfl ?_
                refine KL.nil ?_
                refine KQ.again (k + 1) ?_ ?_ ?_
                · exact (Sub.cons rfl (Ext.sub (by repeat (first | exact Ext.refl _ _ | refine Ext.put rfl ?_ | refine Ext.drop rfl ?_))))
                · omega
                · exact ⟨by omega, rfl⟩
              · intro hc91
                try simp only [decide_eq_true_eq, decide_eq_false_iff_not, Bool.not_eq_true', Bool.not_eq_false', Bool.and_eq_true, Bool.or_eq_false_iff] at hc91
                refine KC.exit ?_
                refine KQ.exitThen ?_
                refine KQ.exitThen ?_
                refine KQ.hit ?_
                refine KQ.seq ?_
                refine KC.seq ?_
                refine KC.seq ?_
                refine KC.region ?_
                refine KL.op (R.move rfl rfl) rfl rfl rfl ?_
                refine KL.op ((by first | exact R.lenS rfl Try.underlying27 rfl (by first | exact hs.old o0 | exact ht.old o0 | exact hjA | exact hjB | exact hlS | exact hjL | assumption) | exact R.len (ty := 0) rfl Try.underlying27 rfl)) rfl rfl rfl ?_
                refine KL.op (R.move rfl rfl) rfl rfl rfl ?_
                refine KL.nil ?_
                refine KQ.seq ?_
                refine KC.block ?_
                refine KC.loopD (κ := Nat) [122, 123, 17, 124, 125, 126, 127, 128, 129, 130, 131, 132, 133, 134, 135, 136, 137, 138, 139, 140, 141, 142, 143, 144, 145, 146, 147, 148, 149, 150, 151, 152, 153, 154, 155, 156, 157, 158, 159, 160, 6, 161, 121] (fun k => [(121, .int .i64 (k : Nat))]) (fun k Hl => k ≤ l2.length ∧ H15 = Hl) (fun k => l2.length - k) 0 ?_ ?_ ?_
                · exact (Sub.cons rfl (Ext.sub (Ext.refl _ _)))
                · exact ⟨Nat.zero_le _, rfl⟩
                · rintro k H17 ⟨hk, rfl⟩
                  refine KC.seq ?_
                  refine KC.region ?_
                  refine KL.op (R.lss rfl rfl rfl) rfl rfl rfl ?_
                  refine KL.nil ?_
                  refine KQ.seq ?_
                  refine KC.seq ?_
                  refine KC.iteL rfl ?_ ?_
                  · intro hc122
                    try simp only [decide_eq_true_eq, decide_eq_false_iff_not, Bool.not_eq_true', Bool.not_eq_false', Bool.and_eq_true, Bool.or_eq_false_iff] at hc122
                    obtain ⟨⟨ka, kb, kc⟩, ra1, rb1, rc1⟩ := jfb k (by omega)
                    refine KC.skip ?_
                    refine KQ.seq ?_
                    refine KC.seq ?_
                    refine KC.block ?_
                    refine KC.seq ?_
                    refine KC.region ?_
                    refine KL.op (R.move rfl rfl) rfl rfl rfl ?_
                    refine KL.op (R.assign rfl rfl) rfl rfl rfl ?_
                    refine KL.nil ?_
                    refine KQ.seq ?_
                    refine KC.seq ?_
                    refine KC.region ?_
                    refine KL.op (R.move rfl rfl) rfl rfl rfl ?_
                    refine KL.op (R.move rfl rfl) rfl rfl rfl ?_
                    refine KL.op (R.move rfl rfl) rfl rfl rfl ?_
                    refine KL.call rfl rfl rfl rfl Try.call20 rfl rfl rfl (on_any _ _ _ _ bp (hs.old o0) (by omega) (by omega)) ?_
                    rintro _ _ ⟨rfl, rfl⟩
                    refine KL.call rfl rfl rfl rfl Try.call12 rfl rfl rfl (End_any _ _ _ _ _ _ hjL) ?_
                    rintro _ _ ⟨rfl, rfl⟩
                    rw [ka]
                    refine KL.op (R.move rfl rfl) rfl rfl rfl ?_
                    refine KL.op (R.move rfl rfl) rfl rfl rfl ?_
                    refine KL.op (R.move rfl rfl) rfl rfl rfl ?_
                    refine KL.call rfl rfl rfl rfl Try.call12 rfl rfl rfl (End_any _ _ _ _ _ _ hjB) ?_
                    rintro _ _ ⟨rfl, rfl⟩
                    refine KL.call rfl rfl rfl rfl Try.call20 rfl rfl rfl (on_any _ _ _ _ bp (hs.old o0) (by omega) (by omega)) ?_
                    rintro _ _ ⟨rfl, rfl⟩
                    refine KL.op ((R.neq rfl rfl rfl).val ((congrArg (fun b => Value.bool (!b)) (decide_eq_true (by rfl))))) rfl rfl rfl ?_
                    refine KL.op (R.move rfl rfl) rfl rfl rfl ?_
                    refine KL.op (R.move rfl rfl) rfl rfl rfl ?_
                    refine KL.op (R.move rfl rfl) rfl rfl rfl ?_
                    refine KL.op (R.move rfl rfl) rfl rfl rfl ?_
                    refine KL.call rfl rfl rfl rfl Try.call20 rfl rfl rfl (on_any _ _ _ _ bp (hs.old o0) (by omega) (by omega)) ?_
                    rintro _ _ ⟨rfl, rfl⟩
                    refine KL.call rfl rfl rfl rfl Try.call13 rfl rfl rfl (Else_any _ _ _ _ _ _ hjL) ?_
                    rintro _ _ ⟨rfl, rfl⟩
                    rw [kb]
                    refine KL.op (R.move rfl rfl) rfl rfl rfl ?_
                    refine KL.op (R.move rfl rfl) rfl rfl rfl ?_
                    refine KL.op (R.move rfl rfl) rfl rfl rfl ?_
                    refine KL.call rfl rfl rfl rfl Try.call13 rfl rfl rfl (Else_any _ _ _ _ _ _ hjB) ?_
                    rintro _ _ ⟨rfl, rfl⟩
                    refine KL.call rfl rfl rfl rfl Try.call20 rfl rfl rfl (on_any _ _ _ _ bp (hs.old o0) (by omega) (by omega)) ?_
                    rintro _ _ ⟨rfl, rfl⟩
                    refine KL.op ((R.neq rfl rfl rfl).val ((congrArg (fun b => Value.bool (!b)) (decide_eq_true (by rfl))))) rfl rfl rfl ?_
                    refine KL.op (R.pick rfl rfl rfl) rfl rfl rfl ?_
                    refine KL.op (R.move rfl rfl) rfl rfl rfl ?_
                    refine KL.op (R.move rfl rfl) rfl rfl rfl ?_
                    refine KL.op (R.move rfl rfl) rfl rfl rfl ?_
                    refine KL.op (R.move rfl rfl) rfl rfl rfl ?_
                    refine KL.call rfl rfl rfl rfl Try.call20 rfl rfl rfl (on_any _ _ _ _ bp (hs.old o0) (by omega) (by omega)) ?_
                    rintro _ _ ⟨rfl, rfl⟩
                    refine KL.call rfl rfl rfl rfl Try.call14 rfl rfl rfl (Open_any _ _ _ _ _ _ hjL) ?_
                    rintro _ _ ⟨rfl, rfl⟩
                    rw [kc]
                    refine KL.op (R.move rfl rfl) rfl rfl rfl ?_
                    refine KL.op (R.move rfl rfl) rfl rfl rfl ?_
                    refine KL.op (R.move rfl rfl) rfl rfl rfl ?_
                    refine KL.call rfl rfl rfl rfl Try.call14 rfl rfl rfl (Open_any _ _ _ _ _ _ hjB) ?_
                    rintro _ _ ⟨rfl, rfl⟩
                    refine KL.call rfl rfl rfl rfl Try.call20 rfl rfl rfl (on_any _ _ _ _ bp (hs.old o0) (by omega) (by omega)) ?_
                    rintro _ _ ⟨rfl, rfl⟩
                    refine KL.op ((R.neq rfl rfl rfl).val ((congrArg (fun b => Value.bool (!b)) (decide_eq_true (by rfl))))) rfl rfl rfl ?_
                    refine KL.op (R.pick rfl rfl rfl) rfl rfl rfl ?_
                    refine KL.nil ?_
                    refine KQ.seq ?_
                    refine KC.condF rfl ?_
                    refine KC.skip ?_
                    refine KQ.normBlock ?_
                    refine KQ.seq ?_
                    refine KC.region ?_
                    refine KL.op (R.add rfl rfl rfl (by dsimp only [InR]; omega)) rfl rfl rfl ?_
                    refine KL.op (R.move rfl rfl) rfl rfl rfl ?_
                    refine KL.nil ?_
                    refine KQ.again (k + 1) ?_ ?_ ?_
                    · exact (Sub.cons rfl (Ext.sub (by repeat (first | exact Ext.refl _ _ | refine Ext.put rfl ?_ | refine Ext.drop rfl ?_))))
                    · omega
                    · exact ⟨by omega, rfl⟩
                  · intro hc122
                    try simp only [decide_eq_true_eq, decide_eq_false_iff_not, Bool.not_eq_true', Bool.not_eq_false', Bool.and_eq_true, Bool.or_eq_false_iff] at hc122
                    refine KC.exit ?_
                    refine KQ.exitThen ?_
                    refine KQ.exitThen ?_
                    refine KQ.hit ?_
                    refine KQ.seq ?_
                    refine KC.seq ?_
                    refine KC.region ?_
                    refine KL.call rfl rfl rfl rfl Try.call9 rfl rfl rfl (works_any) ?_
                    rintro _ H18 ⟨rfl, ox⟩
                    have o0 := o0.trans ox
                    have bp := (ox).blk bp
                    have ra := ra.old ox
                    have oF := oF.trans ox
                    have hjA := hjA.old ox
                    have hjB := hjB.old ox
                    have hlS := hlS.old ox
                    have hjL := hjL.old ox
                    refine KL.op (R.assign rfl rfl) rfl rfl rfl ?_
                    refine KL.nil ?_
                    refine KQ.seq ?_
                    refine KC.ret ?_
                    refine KQ.ofRet ?_
                    refine KQ.fin1 Try.results6 rfl ?_
                    exact ⟨rfl, o0⟩
          · intro hc44
            try simp only [decide_eq_true_eq, decide_eq_false_iff_not, Bool.not_eq_true', Bool.not_eq_false', Bool.and_eq_true, Bool.or_eq_false_iff] at hc44
            refine KC.skip ?_
            refine KQ.seq ?_
            refine KC.seq ?_
            refine KC.region ?_
            have oF : Old H5 H5 := Old.refl _
            have hsF : Sl 5 (EFix EIns H5) H5 v1 l1 := hs.old o0
            have htF : Sl 5 (EFix EIns H5) H5 v2 l2 := ht.old o0
            have hj1F := hjA
            have hj2F := hjB
            have zF := o0.1
            have zbp := blk_lt bp
            refine KL.opM (M.lit rfl Try.underlying27 zs37 (by decide) rfl rfl rfl) rfl rfl rfl ?_
            rintro _ H19 ⟨rfl, n19⟩
            have z19 := n19.2.1
            have o0 := o0.trans n19.1
            have bp := (n19.1).blk bp
            have hjA := hjA.old n19.1
            have hjB := hjB.old n19.1
            have b19 := n19.2.2
            have oF := oF.trans n19.1
            have ra : Own 5 (EFix EIns H5) 37 #[] H5.size H19 _ ([] : List Ins) := Own.litN (n := 5) (m := 0) (l := []) n19 (by omega) rfl (by unfold maxLen; omega) rfl (by simp [nth])
            refine KL.op (R.load rfl Try.underlying27 rfl rfl (by first | exact cell_of bp rfl | assumption)) rfl rfl rfl ?_
            have lt20 := ra.lt
            refine KL.opM (M.append rfl Try.underlying27 inf37 rfl (by decide) rfl rfl ra (by exact (hsF.old oF)) (fun _ _ h _ => h) (by omega) (by simp; omega) (by unfold maxLen; simp; omega)) rfl rfl rfl ?_
            rintro va1 H20 ⟨w20, g20⟩
            have ob20 := g20.oldB ra (by omega)
            have o0 := o0.then ob20 (by omega)
            have z20 := ob20.1
            have bp := (g20.2 _ (blk_lt bp) (by first | exact .inr (by omega) | exact .inl rfl | exact lt20.imp id (fun h => by omega))).trans bp
            have oF := oF.then ob20 (by omega)
            have ra := w20
            refine KL.op (R.move rfl rfl) rfl rfl rfl ?_
            refine KL.op (R.buildL rfl Try.underlying37 zr37 [(0, 1), (1, 1), (2, 1), (3, 1), (4, 1)] (fun w => by kernel_rfl) rfl ⟨⟨_, rfl, rfl⟩, trivial⟩ rfl rfl ⟨⟨_, rfl, by first | rfl | exact ra.cells1⟩, trivial⟩ rfl) rfl rfl rfl ?_
            refine KL.opM (M.lit rfl Try.underlying27 zs37 (by decide) rfl rfl rfl) rfl rfl rfl ?_
            rintro _ H21 ⟨rfl, n21⟩
            have z21 := n21.2.1
            have o0 := o0.trans n21.1
            have bp := (n21.1).blk bp
            have ra := ra.old n21.1
            have oF := oF.trans n21.1
            have b21 := n21.2.2
            have sl1 : Sl 5 (EFix EIns H5) H21 _ [mkIns 2] := Sl.lit1N n21 rfl (by omega) ⟨_, rfl, Sl.nil _ _ _, by dsimp only [mkIns, InR]; omega, by dsimp only [mkIns, InR]; omega, by dsimp only [mkIns, InR]; omega, by dsimp only [mkIns, InR]; omega⟩
            have lt22 := ra.lt
            refine KL.opM (M.append rfl Try.underlying27 inf37 rfl (by decide) rfl rfl ra (by exact sl1) (fun _ _ h _ => h) (by omega) (by simp; omega) (by unfold maxLen; simp; omega)) rfl rfl rfl ?_
            rintro va2 H22 ⟨w22, g22⟩
            have ob22 := g22.oldB ra (by omega)
            have o0 := o0.then ob22 (by omega)
            have z22 := ob22.1
            have bp := (g22.2 _ (blk_lt bp) (by first | exact .inr (by omega) | exact .inl rfl | exact lt22.imp id (fun h => by omega))).trans bp
            have oF := oF.then ob22 (by omega)
            have ra := w22
            have hva : vblock va2 < Array.size H22 := by
              rcases ra.lt with h | h
              · rw [h]; show 0 < _; omega
              · exact h.2
            refine KL.opM (M.lit rfl Try.underlying27 zs37 (by decide) rfl rfl rfl) rfl rfl rfl ?_
            rintro _ H23 ⟨rfl, n23⟩
            have z23 := n23.2.1
            have o0 := o0.trans n23.1
            have bp := (n23.1).blk bp
            have ra := ra.old n23.1
            have oF := oF.trans n23.1
            have b23 := n23.2.2
            have rb : Own 5 (EFix EIns H5) 37 #[] (Array.size H22) H23 _ ([] : List Ins) := Own.litN (n := 5) (m := 0) (l := []) n23 (by omega) rfl (by unfold maxLen; omega) rfl (by simp [nth])
            refine KL.op (R.move rfl rfl) rfl rfl rfl ?_
            have lt24 := rb.lt
            refine KL.opM (M.append rfl Try.underlying27 inf37 rfl (by decide) rfl rfl rb (by exact (htF.old oF)) (fun _ _ h _ => h) (by omega) (by simp; omega) (by unfold maxLen; simp; omega)) rfl rfl rfl ?_
            rintro vb1 H24 ⟨w24, g24⟩
            have ob24 := g24.oldB rb (by omega)
            have o0 := o0.then ob24 (by omega)
            have z24 := ob24.1
            have bp := (g24.2 _ (blk_lt bp) (by first | exact .inr (by omega) | exact .inl rfl | exact lt24.imp id (fun h => by omega))).trans bp
            have ra := ra.keep (g24.2 _ (by omega) (by first | exact .inr (by omega) | exact .inl rfl | exact lt24.imp id (fun h => by omega)))
            have oF := oF.then ob24 (by omega)
            have rb := w24
            refine KL.op (R.buildL rfl Try.underlying37 zr37 [(0, 1), (1, 1), (2, 1), (3, 1), (4, 1)] (fun w => by kernel_rfl) rfl ⟨⟨_, rfl, rfl⟩, trivial⟩ rfl rfl ⟨⟨_, rfl, by first | rfl | exact ra.cells1 | exact rb.cells1⟩, trivial⟩ rfl) rfl rfl rfl ?_
            refine KL.opM (M.lit rfl Try.underlying27 zs37 (by decide) rfl rfl rfl) rfl rfl rfl ?_
            rintro _ H25 ⟨rfl, n25⟩
            have z25 := n25.2.1
            have o0 := o0.trans n25.1
            have bp := (n25.1).blk bp
            have ra := ra.old n25.1
            have oF := oF.trans n25.1
            have rb := rb.old n25.1
            have b25 := n25.2.2
            have sl2 : Sl 5 (EFix EIns H5) H25 _ [mkIns 11] := Sl.lit1N n25 rfl (by omega) ⟨_, rfl, Sl.nil _ _ _, by dsimp only [mkIns, InR]; omega, by dsimp only [mkIns, InR]; omega, by dsimp only [mkIns, InR]; omega, by dsimp only [mkIns, InR]; omega⟩
            have lt26 := rb.lt
            refine KL.opM (M.append rfl Try.underlying27 inf37 rfl (by decide) rfl rfl rb (by exact sl2) (fun _ _ h _ => h) (by omega) (by simp; omega) (by unfold maxLen; simp; omega)) rfl rfl rfl ?_
            rintro vb2 H26 ⟨w26, g26⟩
            have ob26 := g26.oldB rb (by omega)
            have o0 := o0.then ob26 (by omega)
            have z26 := ob26.1
            have bp := (g26.2 _ (blk_lt bp) (by first | exact .inr (by omega) | exact .inl rfl | exact lt26.imp id (fun h => by omega))).trans bp
            have ra := ra.keep (g26.2 _ (by omega) (by first | exact .inr (by omega) | exact .inl rfl | exact lt26.imp id (fun h => by omega)))
            have oF := oF.then ob26 (by omega)
            have rb := w26
            have hbs := rb.sl (emptyOld _) (by omega)
            have lt27 := ra.lt
            refine KL.opM (M.append rfl Try.underlying27 inf37 rfl (by decide) rfl rfl ra (by exact hbs) (fun _ _ h _ => h) (by omega) (by simp; omega) (by unfold maxLen; simp; omega)) rfl rfl rfl ?_
            rintro vl H27 ⟨w27, g27⟩
            have ob27 := g27.oldB ra (by omega)
            have o0 := o0.then ob27 (by omega)
            have z27 := ob27.1
            have bp := (g27.2 _ (blk_lt bp) (by first | exact .inr (by omega) | exact .inl rfl | exact lt27.imp id (fun h => by omega))).trans bp
            have oF := oF.then ob27 (by omega)
            have ra := w27
            have hjA := hj1F.old oF
            have hjB := hj2F.old oF
            have hlS : Sl 5 EIns H27 vl (joined l1 l2 2) := (by simpa [joined] using ra.sl (emptyOld _) (by omega) : Sl 5 (EFix EIns H5) H27 vl (joined l1 l2 2)).unfix oF
            have hln : (joined l1 l2 2).length = l1.length + 1 + l2.length + 1 := by simp [joined]; omega
            obtain ⟨dB1, dB2⟩ := dp_range hofB
            obtain ⟨sL, hofL, jd, jen, jfa, jfb⟩ := joins hofA hofB (o := 2) (by omega)
            refine KL.op (R.assign rfl rfl) rfl rfl rfl ?_
            refine KL.nil ?_
            refine KQ.seq ?_
            refine KC.seq ?_
            refine KC.region ?_
            refine KL.op (R.move rfl rfl) rfl rfl rfl ?_
            refine KL.call rfl rfl rfl rfl Try.call7 rfl rfl rfl (Of_any _ _ hlS (by omega)) ?_
            rintro _ H28 ⟨ox, hR⟩
            obtain ⟨gL, rfl, hjL⟩ : ∃ g, _ = Value.tuple #[.pointer (some ⟨g, 0, none⟩), .bool true] ∧ JM H28 g sL.en sL.el sL.op sL.dp := by
              rcases hR with ⟨s, g, h, h2, h3⟩ | h
              · rw [hofL] at h; cases h; exact ⟨g, h2, h3⟩
              · rw [hofL] at h; cases h.1
            have o0 := o0.trans ox
            have bp := (ox).blk bp
            have ra := ra.old ox
            have oF := oF.trans ox
            have hjA := hjA.old ox
            have hjB := hjB.old ox
            have hlS := hlS.old ox
            refine KL.op (R.move rfl rfl) rfl rfl rfl ?_
            refine KL.op (R.extract rfl rfl rfl) rfl rfl rfl ?_
            refine KL.op (R.extract rfl rfl rfl) rfl rfl rfl ?_
            refine KL.op (R.assign rfl rfl) rfl rfl rfl ?_
            refine KL.op (R.assign rfl rfl) rfl rfl rfl ?_
            refine KL.nil ?_
            refine KQ.seq ?_
            refine KC.seq ?_
            refine KC.seq ?_
            refine KC.region ?_
            refine KL.op (R.move rfl rfl) rfl rfl rfl ?_
            refine KL.op (R.not rfl rfl) rfl rfl rfl ?_
            refine KL.op (R.move rfl rfl) rfl rfl rfl ?_
            refine KL.op (R.move rfl rfl) rfl rfl rfl ?_
            refine KL.call rfl rfl rfl rfl Try.call11 rfl rfl rfl (Depth_any _ _ _ _ _ hjL) ?_
            rintro _ _ ⟨rfl, rfl⟩
            refine KL.op (R.move rfl rfl) rfl rfl rfl ?_
            refine KL.call rfl rfl rfl rfl Try.call11 rfl rfl rfl (Depth_any _ _ _ _ _ hjA) ?_
            rintro _ _ ⟨rfl, rfl⟩
            refine KL.op (R.move rfl rfl) rfl rfl rfl ?_
            refine KL.call rfl rfl rfl rfl Try.call11 rfl rfl rfl (Depth_any _ _ _ _ _ hjB) ?_
            rintro _ _ ⟨rfl, rfl⟩
            refine KL.op (R.add rfl rfl rfl (by dsimp only [InR]; omega)) rfl rfl rfl ?_
            refine KL.op (R.max rfl rfl rfl) rfl rfl rfl ?_
            refine KL.op ((R.neq rfl rfl rfl).val ((congrArg (fun b => Value.bool (!b)) (decide_eq_true (by exact jd))))) rfl rfl rfl ?_
            refine KL.op (R.pick rfl rfl rfl) rfl rfl rfl ?_
            refine KL.op (R.move rfl rfl) rfl rfl rfl ?_
            refine KL.op (R.move rfl rfl) rfl rfl rfl ?_
            refine KL.op (R.load rfl Try.underlying27 rfl rfl (by first | exact cell_of bp rfl | assumption)) rfl rfl rfl ?_
            refine KL.op ((by first | exact R.lenS rfl Try.underlying27 rfl (by first | exact hs.old o0 | exact ht.old o0 | exact hjA | exact hjB | exact hlS | exact hjL | assumption) | exact R.len (ty := 0) rfl Try.underlying27 rfl)) rfl rfl rfl ?_
            refine KL.call rfl rfl rfl rfl Try.call12 rfl rfl rfl (End_any _ _ _ _ _ _ hjL) ?_
            rintro _ _ ⟨rfl, rfl⟩
            refine KL.op (R.move rfl rfl) rfl rfl rfl ?_
            refine KL.op (R.lenS rfl Try.underlying27 rfl hlS) rfl rfl rfl ?_
            refine KL.op (R.sub rfl rfl rfl (by dsimp only [InR]; omega)) rfl rfl rfl ?_
            refine KL.op ((R.neq rfl rfl rfl).val ((congrArg (fun b => Value.bool (!b)) (decide_eq_true (by exact jen))))) rfl rfl rfl ?_
            refine KL.op (R.pick rfl rfl rfl) rfl rfl rfl ?_
            refine KL.nil ?_
            refine KQ.seq ?_
            refine KC.condF rfl ?_
            refine KC.skip ?_
            refine KQ.seq ?_
            refine KC.seq ?_
            refine KC.region ?_
            refine KL.op (R.makeFunc rfl rfl rfl) rfl rfl rfl ?_
            refine KL.op (R.assign rfl rfl) rfl rfl rfl ?_
            refine KL.nil ?_
            refine KQ.seq ?_
            refine KC.seq ?_
            refine KC.seq ?_
            refine KC.region ?_
            refine KL.op (R.load rfl Try.underlying27 rfl rfl (by first | exact cell_of bp rfl | assumption)) rfl rfl rfl ?_
            refine KL.op ((by first | exact R.lenS rfl Try.underlying27 rfl (by first | exact hs.old o0 | exact ht.old o0 | exact hjA | exact hjB | exact hlS | exact hjL | assumption) | exact R.len (ty := 0) rfl Try.underlying27 rfl)) rfl rfl rfl ?_
            refine KL.op (R.move rfl rfl) rfl rfl rfl ?_
            refine KL.nil ?_
            refine KQ.seq ?_
            refine KC.block ?_
            refine KC.loopD (κ := Nat) [91, 92, 16, 93, 94, 95, 96, 97, 98, 99, 100, 101, 102, 103, 104, 105, 106, 107, 108, 109, 110, 111, 112, 113, 114, 115, 116, 117, 6, 118, 90] (fun k => [(90, .int .i64 (k : Nat))]) (fun k Hl => k ≤ l1.length ∧ H28 = Hl) (fun k => l1.length - k) 0 ?_ ?_ ?_
            · exact (Sub.cons rfl (Ext.sub (Ext.refl _ _)))
            · exact ⟨Nat.zero_le _, rfl⟩
            · rintro k H29 ⟨hk, rfl⟩
              refine KC.seq ?_
              refine KC.region ?_
              refine KL.op (R.lss rfl rfl rfl) rfl rfl rfl ?_
              refine KL.nil ?_
              refine KQ.seq ?_
              refine KC.seq ?_
              refine KC.iteL rfl ?_ ?_
              · intro hc91
                try simp only [decide_eq_true_eq, decide_eq_false_iff_not, Bool.not_eq_true', Bool.not_eq_false', Bool.and_eq_true, Bool.or_eq_false_iff] at hc91
                obtain ⟨ka, kb, kc⟩ := jfa k (by omega)
                refine KC.skip ?_
                refine KQ.seq ?_
                refine KC.seq ?_
                refine KC.block ?_
                refine KC.seq ?_
                refine KC.region ?_
                refine KL.op (R.move rfl rfl) rfl rfl rfl ?_
                refine KL.op (R.assign rfl rfl) rfl rfl rfl ?_
                refine KL.nil ?_
                refine KQ.seq ?_
                refine KC.seq ?_
                refine KC.region ?_
                refine KL.op (R.move rfl rfl) rfl rfl rfl ?_
                refine KL.op (R.move rfl rfl) rfl rfl rfl ?_
                refine KL.call rfl rfl rfl rfl Try.call12 rfl rfl rfl (End_any _ _ _ _ _ _ hjL) ?_
                rintro _ _ ⟨rfl, rfl⟩
                rw [ka]
                refine KL.op (R.move rfl rfl) rfl rfl rfl ?_
                refine KL.op (R.move rfl rfl) rfl rfl rfl ?_
                refine KL.call rfl rfl rfl rfl Try.call12 rfl rfl rfl (End_any _ _ _ _ _ _ hjA) ?_
                rintro _ _ ⟨rfl, rfl⟩
                refine KL.op ((R.neq rfl rfl rfl).val ((congrArg (fun b => Value.bool (!b)) (decide_eq_true (by rfl))))) rfl rfl rfl ?_
                refine KL.op (R.move rfl rfl) rfl rfl rfl ?_
                refine KL.op (R.move rfl rfl) rfl rfl rfl ?_
                refine KL.op (R.move rfl rfl) rfl rfl rfl ?_
                refine KL.call rfl rfl rfl rfl Try.call13 rfl rfl rfl (Else_any _ _ _ _ _ _ hjL) ?_
                rintro _ _ ⟨rfl, rfl⟩
                rw [kb]
                refine KL.op (R.move rfl rfl) rfl rfl rfl ?_
                refine KL.op (R.move rfl rfl) rfl rfl rfl ?_
                refine KL.call rfl rfl rfl rfl Try.call13 rfl rfl rfl (Else_any _ _ _ _ _ _ hjA) ?_
                rintro _ _ ⟨rfl, rfl⟩
                refine KL.op ((R.neq rfl rfl rfl).val ((congrArg (fun b => Value.bool (!b)) (decide_eq_true (by rfl))))) rfl rfl rfl ?_
                refine KL.op (R.pick rfl rfl rfl) rfl rfl rfl ?_
                refine KL.op (R.move rfl rfl) rfl rfl rfl ?_
                refine KL.op (R.move rfl rfl) rfl rfl rfl ?_
                refine KL.op (R.move rfl rfl) rfl rfl rfl ?_
                refine KL.call rfl rfl rfl rfl Try.call14 rfl rfl rfl (Open_any _ _ _ _ _ _ hjL) ?_
                rintro _ _ ⟨rfl, rfl⟩
                rw [kc]
                refine KL.op (R.move rfl rfl) rfl rfl rfl ?_
                refine KL.op (R.move rfl rfl) rfl rfl rfl ?_
                refine KL.call rfl rfl rfl rfl Try.call14 rfl rfl rfl (Open_any _ _ _ _ _ _ hjA) ?_
                rintro _ _ ⟨rfl, rfl⟩
                refine KL.op ((R.neq rfl rfl rfl).val ((congrArg (fun b => Value.bool (!b)) (decide_eq_true (by rfl))))) rfl rfl rfl ?_
                refine KL.op (R.pick rfl rfl rfl) rfl rfl rfl ?_
                refine KL.nil ?_
                refine KQ.seq ?_
                refine KC.condF rfl ?_
                refine KC.skip ?_
                refine KQ.normBlock ?_
                refine KQ.seq ?_
                refine KC.region ?_
                refine KL.op (R.add rfl rfl rfl (by dsimp only [InR]; omega)) rfl rfl rfl ?_
                refine KL.op (R.move rfl rfl) rfl rfl rfl ?_
                refine KL.nil ?_
                refine KQ.again (k + 1) ?_ ?_ ?_
                · exact (Sub.cons rfl (Ext.sub (by repeat (first | exact Ext.refl _ _ | refine Ext.put rfl ?_ | refine Ext.drop rfl ?_))))
                · omega
                · exact ⟨by omega, rfl⟩
              · intro hc91
                try simp only [decide_eq_true_eq, decide_eq_false_iff_not, Bool.not_eq_true', Bool.not_eq_false', Bool.and_eq_true, Bool.or_eq_false_iff] at hc91
                refine KC.exit ?_
                refine KQ.exitThen ?_
                refine KQ.exitThen ?_
                refine KQ.hit ?_
                refine KQ.seq ?_
                refine KC.seq ?_
                refine KC.seq ?_
                refine KC.region ?_
                refine KL.op (R.move rfl rfl) rfl rfl rfl ?_
                refine KL.op ((by first | exact R.lenS rfl Try.underlying27 rfl (by first | exact hs.old o0 | exact ht.old o0 | exact hjA | exact hjB | exact hlS | exact hjL | assumption) | exact R.len (ty := 0) rfl Try.underlying27 rfl)) rfl rfl rfl ?_
                refine KL.op (R.move rfl rfl) rfl rfl rfl ?_
                refine KL.nil ?_
                refine KQ.seq ?_
                refine KC.block ?_
                refine KC.loopD (κ := Nat) [122, 123, 17, 124, 125, 126, 127, 128, 129, 130, 131, 132, 133, 134, 135, 136, 137, 138, 139, 140, 141, 142, 143, 144, 145, 146, 147, 148, 149, 150, 151, 152, 153, 154, 155, 156, 157, 158, 159, 160, 6, 161, 121] (fun k => [(121, .int .i64 (k : Nat))]) (fun k Hl => k ≤ l2.length ∧ H28 = Hl) (fun k => l2.length - k) 0 ?_ ?_ ?_
                · exact (Sub.cons rfl (Ext.sub (Ext.refl _ _)))
                · exact ⟨Nat.zero_le _, rfl⟩
                · rintro k H30 ⟨hk, rfl⟩
                  refine KC.seq ?_
                  refine KC.region ?_
                  refine KL.op (R.lss rfl rfl rfl) rfl rfl rfl ?_
                  refine KL.nil ?_
                  refine KQ.seq ?_
                  refine KC.seq ?_
                  refine KC.iteL rfl ?_ ?_
                  · intro hc122
                    try simp only [decide_eq_true_eq, decide_eq_false_iff_not, Bool.not_eq_true', Bool.not_eq_false', Bool.and_eq_true, Bool.or_eq_false_iff] at hc122
                    obtain ⟨⟨ka, kb, kc⟩, ra1, rb1, rc1⟩ := jfb k (by omega)
                    refine KC.skip ?_
                    refine KQ.seq ?_
                    refine KC.seq ?_
                    refine KC.block ?_
                    refine KC.seq ?_
                    refine KC.region ?_
                    refine KL.op (R.move rfl rfl) rfl rfl rfl ?_
                    refine KL.op (R.assign rfl rfl) rfl rfl rfl ?_
                    refine KL.nil ?_
                    refine KQ.seq ?_
                    refine KC.seq ?_
                    refine KC.region ?_
                    refine KL.op (R.move rfl rfl) rfl rfl rfl ?_
                    refine KL.op (R.move rfl rfl) rfl rfl rfl ?_
                    refine KL.op (R.move rfl rfl) rfl rfl rfl ?_
                    refine KL.call rfl rfl rfl rfl Try.call20 rfl rfl rfl (on_any _ _ _ _ bp (hs.old o0) (by omega) (by omega)) ?_
                    rintro _ _ ⟨rfl, rfl⟩
                    refine KL.call rfl rfl rfl rfl Try.call12 rfl rfl rfl (End_any _ _ _ _ _ _ hjL) ?_
                    rintro _ _ ⟨rfl, rfl⟩
                    rw [ka]
                    refine KL.op (R.move rfl rfl) rfl rfl rfl ?_
                    refine KL.op (R.move rfl rfl) rfl rfl rfl ?_
                    refine KL.op (R.move rfl rfl) rfl rfl rfl ?_
                    refine KL.call rfl rfl rfl rfl Try.call12 rfl rfl rfl (End_any _ _ _ _ _ _ hjB) ?_
                    rintro _ _ ⟨rfl, rfl⟩
                    refine KL.call rfl rfl rfl rfl Try.call20 rfl rfl rfl (on_any _ _ _ _ bp (hs.old o0) (by omega) (by omega)) ?_
                    rintro _ _ ⟨rfl, rfl⟩
                    refine KL.op ((R.neq rfl rfl rfl).val ((congrArg (fun b => Value.bool (!b)) (decide_eq_true (by rfl))))) rfl rfl rfl ?_
                    refine KL.op (R.move rfl rfl) rfl rfl rfl ?_
                    refine KL.op (R.move rfl rfl) rfl rfl rfl ?_
                    refine KL.op (R.move rfl rfl) rfl rfl rfl ?_
                    refine KL.op (R.move rfl rfl) rfl rfl rfl ?_
                    refine KL.call rfl rfl rfl rfl Try.call20 rfl rfl rfl (on_any _ _ _ _ bp (hs.old o0) (by omega) (by omega)) ?_
                    rintro _ _ ⟨rfl, rfl⟩
                    refine KL.call rfl rfl rfl rfl Try.call13 rfl rfl rfl (Else_any _ _ _ _ _ _ hjL) ?_
                    rintro _ _ ⟨rfl, rfl⟩
                    rw [kb]
                    refine KL.op (R.move rfl rfl) rfl rfl rfl ?_
                    refine KL.op (R.move rfl rfl) rfl rfl rfl ?_
                    refine KL.op (R.move rfl rfl) rfl rfl rfl ?_
                    refine KL.call rfl rfl rfl rfl Try.call13 rfl rfl rfl (Else_any _ _ _ _ _ _ hjB) ?_
                    rintro _ _ ⟨rfl, rfl⟩
                    refine KL.call rfl rfl rfl rfl Try.call20 rfl rfl rfl (on_any _ _ _ _ bp (hs.old o0) (by omega) (by omega)) ?_
                    rintro _ _ ⟨rfl, rfl⟩
                    refine KL.op ((R.neq rfl rfl rfl).val ((congrArg (fun b => Value.bool (!b)) (decide_eq_true (by rfl))))) rfl rfl rfl ?_
                    refine KL.op (R.pick rfl rfl rfl) rfl rfl rfl ?_
                    refine KL.op (R.move rfl rfl) rfl rfl rfl ?_
                    refine KL.op (R.move rfl rfl) rfl rfl rfl ?_
                    refine KL.op (R.move rfl rfl) rfl rfl rfl ?_
                    refine KL.op (R.move rfl rfl) rfl rfl rfl ?_
                    refine KL.call rfl rfl rfl rfl Try.call20 rfl rfl rfl (on_any _ _ _ _ bp (hs.old o0) (by omega) (by omega)) ?_
                    rintro _ _ ⟨rfl, rfl⟩
                    refine KL.call rfl rfl rfl rfl Try.call14 rfl rfl rfl (Open_any _ _ _ _ _ _ hjL) ?_
                    rintro _ _ ⟨rfl, rfl⟩
                    rw [kc]
                    refine KL.op (R.move rfl rfl) rfl rfl rfl ?_
                    refine KL.op (R.move rfl rfl) rfl rfl rfl ?_
                    refine KL.op (R.move rfl rfl) rfl rfl rfl ?_
                    refine KL.call rfl rfl rfl rfl Try.call14 rfl rfl rfl (Open_any _ _ _ _ _ _ hjB) ?_
                    rintro _ _ ⟨rfl, rfl⟩
                    refine KL.call rfl rfl rfl rfl Try.call20 rfl rfl rfl (on_any _ _ _ _ bp (hs.old o0) (by omega) (by omega)) ?_
                    rintro _ _ ⟨rfl, rfl⟩
                    refine KL.op ((R.neq rfl rfl rfl).val ((congrArg (fun b => Value.bool (!b)) (decide_eq_true (by rfl))))) rfl rfl rfl ?_
                    refine KL.op (R.pick rfl rfl rfl) rfl rfl rfl ?_
                    refine KL.nil ?_
                    refine KQ.seq ?_
                    refine KC.condF rfl ?_
                    refine KC.skip ?_
                    refine KQ.normBlock ?_
                    refine KQ.seq ?_
                    refine KC.region ?_
                    refine KL.op (R.add rfl rfl rfl (by dsimp only [InR]; omega)) rfl rfl rfl ?_
                    refine KL.op (R.move rfl rfl) rfl rfl rfl ?_
                    refine KL.nil ?_
                    refine KQ.again (k + 1) ?_ ?_ ?_
                    · exact (Sub.cons rfl (Ext.sub (by repeat (first | exact Ext.refl _ _ | refine Ext.put rfl ?_ | refine Ext.drop rfl ?_))))
                    · omega
                    · exact ⟨by omega, rfl⟩
                  · intro hc122
                    try simp only [decide_eq_true_eq, decide_eq_false_iff_not, Bool.not_eq_true', Bool.not_eq_false', Bool.and_eq_true, Bool.or_eq_false_iff] at hc122
                    refine KC.exit ?_
                    refine KQ.exitThen ?_
                    refine KQ.exitThen ?_
                    refine KQ.hit ?_
                    refine KQ.seq ?_
                    refine KC.seq ?_
                    refine KC.region ?_
                    refine KL.call rfl rfl rfl rfl Try.call9 rfl rfl rfl (works_any) ?_
                    rintro _ H31 ⟨rfl, ox⟩
                    have o0 := o0.trans ox
                    have bp := (ox).blk bp
                    have ra := ra.old ox
                    have oF := oF.trans ox
                    have hjA := hjA.old ox
                    have hjB := hjB.old ox
                    have hlS := hlS.old ox
                    have hjL := hjL.old ox
                    refine KL.op (R.assign rfl rfl) rfl rfl rfl ?_
                    refine KL.nil ?_
                    refine KQ.seq ?_
                    refine KC.ret ?_
                    refine KQ.ofRet ?_
                    refine KQ.fin1 Try.results6 rfl ?_
                    exact ⟨rfl, o0⟩
        · skip
          refine KL.op (R.move rfl rfl) rfl rfl rfl ?_
          refine KL.op (R.extract rfl rfl rfl) rfl rfl rfl ?_
          refine KL.op (R.extract rfl rfl rfl) rfl rfl rfl ?_
          refine KL.op (R.assign rfl rfl) rfl rfl rfl ?_
          refine KL.op (R.assign rfl rfl) rfl rfl rfl ?_
          refine KL.nil ?_
          refine KQ.seq ?_
          refine KC.seq ?_
          refine KC.seq ?_
          refine KC.region ?_
          refine KL.op (R.move rfl rfl) rfl rfl rfl ?_
          refine KL.op (R.not rfl rfl) rfl rfl rfl ?_
          refine KL.op (R.move rfl rfl) rfl rfl rfl ?_
          refine KL.op (R.move rfl rfl) rfl rfl rfl ?_
          refine KL.op (R.not rfl rfl) rfl rfl rfl ?_
          refine KL.op (R.pick rfl rfl rfl) rfl rfl rfl ?_
          refine KL.nil ?_
          refine KQ.seq ?_
          refine KC.condT rfl ?_
          refine KC.seq ?_
          refine KC.region ?_
          refine KL.call rfl rfl rfl rfl Try.call9 rfl rfl rfl (works_any) ?_
          rintro _ H32 ⟨rfl, ox⟩
          have o0 := o0.trans ox
          have bp := (ox).blk bp
          have hjA := hjA.old ox
          refine KL.op (R.assign rfl rfl) rfl rfl rfl ?_
          refine KL.nil ?_
          refine KQ.seq ?_
          refine KC.ret ?_
          refine KQ.retThen ?_
          refine KQ.ofRet ?_
          refine KQ.fin1 Try.results6 rfl ?_
          exact ⟨rfl, o0⟩
      · skip
        refine KL.op (R.move rfl rfl) rfl rfl rfl ?_
        refine KL.op (R.extract rfl rfl rfl) rfl rfl rfl ?_
        refine KL.op (R.extract rfl rfl rfl) rfl rfl rfl ?_
        refine KL.op (R.assign rfl rfl) rfl rfl rfl ?_
        refine KL.op (R.assign rfl rfl) rfl rfl rfl ?_
        refine KL.nil ?_
        refine KQ.seq ?_
        refine KC.seq ?_
        refine KC.region ?_
        refine KL.op (R.move rfl rfl) rfl rfl rfl ?_
        refine KL.call rfl rfl rfl rfl Try.call7 rfl rfl rfl (Of_any _ _ (ht.old o0) (by omega)) ?_
        rintro _ H33 ⟨ox, hR⟩
        have o0 := o0.trans ox
        have bp := (ox).blk bp
        rcases hR with ⟨sB, gB, hofB, rfl, hjB⟩ | ⟨hofB, rfl⟩
        · skip
          refine KL.op (R.move rfl rfl) rfl rfl rfl ?_
          refine KL.op (R.extract rfl rfl rfl) rfl rfl rfl ?_
          refine KL.op (R.extract rfl rfl rfl) rfl rfl rfl ?_
          refine KL.op (R.assign rfl rfl) rfl rfl rfl ?_
          refine KL.op (R.assign rfl rfl) rfl rfl rfl ?_
          refine KL.nil ?_
          refine KQ.seq ?_
          refine KC.seq ?_
          refine KC.seq ?_
          refine KC.region ?_
          refine KL.op (R.move rfl rfl) rfl rfl rfl ?_
          refine KL.op (R.not rfl rfl) rfl rfl rfl ?_
          refine KL.op (R.move rfl rfl) rfl rfl rfl ?_
          refine KL.skip rfl rfl rfl ?_
          refine KL.skip rfl rfl rfl ?_
          refine KL.op (R.pick rfl rfl rfl) rfl rfl rfl ?_
          refine KL.nil ?_
          refine KQ.seq ?_
          refine KC.condT rfl ?_
          refine KC.seq ?_
          refine KC.region ?_
          refine KL.call rfl rfl rfl rfl Try.call9 rfl rfl rfl (works_any) ?_
          rintro _ H34 ⟨rfl, ox⟩
          have o0 := o0.trans ox
          have bp := (ox).blk bp
          have hjB := hjB.old ox
          refine KL.op (R.assign rfl rfl) rfl rfl rfl ?_
          refine KL.nil ?_
          refine KQ.seq ?_
          refine KC.ret ?_
          refine KQ.retThen ?_
          refine KQ.ofRet ?_
          refine KQ.fin1 Try.results6 rfl ?_
          exact ⟨rfl, o0⟩
        · skip
          refine KL.op (R.move rfl rfl) rfl rfl rfl ?_
          refine KL.op (R.extract rfl rfl rfl) rfl rfl rfl ?_
          refine KL.op (R.extract rfl rfl rfl) rfl rfl rfl ?_
          refine KL.op (R.assign rfl rfl) rfl rfl rfl ?_
          refine KL.op (R.assign rfl rfl) rfl rfl rfl ?_
          refine KL.nil ?_
          refine KQ.seq ?_
          refine KC.seq ?_
          refine KC.seq ?_
          refine KC.region ?_
          refine KL.op (R.move rfl rfl) rfl rfl rfl ?_
          refine KL.op (R.not rfl rfl) rfl rfl rfl ?_
          refine KL.op (R.move rfl rfl) rfl rfl rfl ?_
          refine KL.skip rfl rfl rfl ?_
          refine KL.skip rfl rfl rfl ?_
          refine KL.op (R.pick rfl rfl rfl) rfl rfl rfl ?_
          refine KL.nil ?_
          refine KQ.seq ?_
          refine KC.condT rfl ?_
          refine KC.seq ?_
          refine KC.region ?_
          refine KL.call rfl rfl rfl rfl Try.call9 rfl rfl rfl (works_any) ?_
          rintro _ H35 ⟨rfl, ox⟩
          have o0 := o0.trans ox
          have bp := (ox).blk bp
          refine KL.op (R.assign rfl rfl) rfl rfl rfl ?_
          refine KL.nil ?_
          refine KQ.seq ?_
          refine KC.ret ?_
          refine KQ.retThen ?_
          refine KQ.ofRet ?_
          refine KQ.fin1 Try.results6 rfl ?_
          exact ⟨rfl, o0⟩

end Go.Proofs.Ytbopalmbphgedaa
