/- The document's parts; a small example. No condition but sizes. -/
import Derived.Test.YtokidabnjodglaaPaD
import Derived.Test.YtokidabnjodglaaKEq
namespace Go.Proofs.Ytokidabnjodglaa
open Go Go.RowKit
set_option linter.unusedVariables false
set_option linter.unusedSimpArgs false
set_option linter.unnecessarySimpa false

theorem csum_step {l : List Ins} {k a : Nat} (hk : k < l.length) (ha : a ≤ k) : csum ((l.take (k + 1)).drop a) = csum ((l.take k).drop a) + Cost.of (l.getD k default).op := by
  rw [take_succ' hk, List.drop_append_of_le_length (by rw [List.length_take]; omega), csum_app]; simp [csum]
def pos (l : List Pt) : List Pt := l.filter fun p => decide (0 < p.c)
theorem pos_app (l m : List Pt) : pos (l ++ m) = pos l ++ pos m := by unfold pos; rw [List.filter_append]
theorem pos_one {p : Pt} (h : 0 < p.c) : pos [p] = [p] := by unfold pos; rw [List.filter_cons, if_pos (decide_eq_true h)]; rfl
theorem pos_none {p : Pt} (h : ¬ 0 < p.c) : pos [p] = [] := by unfold pos; rw [List.filter_cons, if_neg (by simpa using h)]; rfl
theorem drop_all (l : List Ins) (k : Nat) : csum ((l.take k).drop k) = 0 := by rw [List.drop_of_length_le (by rw [List.length_take]; omega)]; rfl
theorem cut_len (l : List Ins) (k : Nat) : (cut l k).2.length ≤ k := by
  induction k with
  | zero => exact Nat.le_refl _
  | succ k ih =>
    cases h : cutHere l k with
    | true => rw [cut_yes h]; simp; omega
    | false => rw [cut_no h]; omega
theorem pos_len (l : List Pt) : (pos l).length ≤ l.length := List.length_filter_le _ _

set_option maxRecDepth 100000 in
set_option maxHeartbeats 4000000 in
theorem RParts_k {H : Heap} {v : Value} {l : List Ins} (hs : Sl 5 EIns H v l) (hl : l.length ≤ 1000000) : Ct Try.prog 8 [v] H (fun u H' => Own 3 EPt 32 #[] H.size H' u (parts l) ∧ Old H H') := by
  refine Ct.mk Try.func8 rfl Try.ntmps8 rfl ?_
  intro W0 hW0
  have o0 : Old H H := Old.refl H
  refine KC.seq ?_
  refine KC.region ?_
  refine KL.op (R.assign rfl rfl) rfl rfl rfl ?_
  refine KL.nil ?_
  refine KQ.seq ?_
  refine KC.seq ?_
  refine KC.region ?_
  refine KL.op (R.assign rfl rfl) rfl rfl rfl ?_
  refine KL.nil ?_
  refine KQ.seq ?_
  refine KC.seq ?_
  refine KC.region ?_
  refine KL.op (R.buildL rfl Try.underlying32 zr32 [(0, 1), (1, 1), (2, 1)] (fun w => by kernel_rfl) rfl trivial rfl rfl trivial rfl) rfl rfl rfl ?_
  refine KL.opM (M.alloc rfl zr32 rfl) rfl rfl rfl ?_
  rintro _ H1 ⟨rfl, n1⟩
  have z1 := n1.2.1
  have o0 := o0.trans n1.1
  have b1 := n1.2.2
  have bp := b1
  refine KL.opS (S.storeAgg rfl sz32 rfl rfl (rfl) (by intro u hu; simp only [List.mem_cons, List.not_mem_nil, or_false] at hu; rcases hu with rfl | rfl | rfl <;> rfl) bp (by simp)) rfl rfl ?_
  rintro H2 ⟨u2, b2⟩
  have o0 := o0.upd u2 (by omega)
  have zu2 := u2.1
  have bp := b2
  rw [over_all (by rfl)] at bp
  refine KL.nil ?_
  refine KQ.seq ?_
  refine KC.seq ?_
  refine KC.seq ?_
  refine KC.region ?_
  refine KL.op (R.assign rfl rfl) rfl rfl rfl ?_
  refine KL.nil ?_
  refine KQ.seq ?_
  refine KC.block ?_
  refine KC.loopD (κ := Nat × Value) [7, 8, 9, 10, 13, 14, 15, 16, 17, 18, 19, 20, 21, 22, 23, 24, 25, 26, 27, 28, 29, 30, 31, 32, 33, 34, 35, 36, 37, 38, 39, 40, 41, 42, 43, 44, 3, 45, 46, 47, 11, 12, 5] (fun k => [(5, .int .i64 (k.1 : Nat)), (3, k.2)]) (fun k Hl => k.1 ≤ l.length ∧ Old H Hl ∧ (∃ to : Int, Hl[(Array.size H)]? = some (.cells [.int .i64 ((cut l k.1).1 : Nat), .int .i64 to, .int .u64 (csum ((l.take k.1).drop (cut l k.1).1))].toArray 32 (0, 0))) ∧ Own 3 EPt 32 #[] ((Array.size H) + 1) Hl k.2 (pos (cut l k.1).2)) (fun k => l.length - k.1) (0, .slice none 0 0) ?_ ?_ ?_
  · exact (Sub.cons rfl (Sub.cons rfl (Ext.sub (Ext.refl _ _))))
  · exact ⟨Nat.zero_le _, o0, ⟨0, bp⟩, Own.nil _ _ _ _ _ _⟩
  · rintro ⟨k, vo⟩ H3 ⟨hk, o0, ⟨to, bp⟩, wo⟩
    have zl_H3 := o0.1
    dsimp only at hk bp wo
    have zb := blk_lt bp
    have hcl := cut_le l k
    have hcs := csum_sub l (cut l k).1 k
    have hcs1 := csum_sub l (cut l k).1 (k + 1)
    have hcn := cut_len l k
    have hpn := pos_len (cut l k).2
    have hlo := wo.lt
    refine KC.seq ?_
    refine KC.seq ?_
    refine KC.region ?_
    refine KL.op (R.move rfl rfl) rfl rfl rfl ?_
    refine KL.op (R.move rfl rfl) rfl rfl rfl ?_
    refine KL.op (R.lenS rfl Try.underlying22 rfl hs) rfl rfl rfl ?_
    refine KL.op (R.lss rfl rfl rfl) rfl rfl rfl ?_
    refine KL.nil ?_
    refine KQ.seq ?_
    refine KC.iteL rfl ?_ ?_
    · intro hc10
      try simp only [decide_eq_true_eq, decide_eq_false_iff_not, Bool.not_eq_true', Bool.not_eq_false', Bool.and_eq_true, Bool.or_eq_false_iff] at hc10
      obtain ⟨u, hcx, hu, hx1, hx2, hx3, hx4⟩ := hs.insAt k (by omega)
      have hof := of_le (l.getD k default).op
      have hst := csum_step (l := l) (k := k) (a := (cut l k).1) (by omega) hcl
      refine KC.skip ?_
      refine KQ.seq ?_
      refine KC.seq ?_
      refine KC.block ?_
      refine KC.seq ?_
      refine KC.text (clOf [(6, 2), (9, 2)]) (fun j Hc => (j = 1 → Hc[(Array.size H)]? = some (.cells [.int .i64 ((cut l k).1 : Nat), .int .i64 to, .int .u64 (csum ((l.take k).drop (cut l k).1))].toArray 32 (0, 0))) ∧ (j = 5 → Old H Hc)) (by kernel_rfl) (by kernel_rfl) (fun _ => ⟨fun _ => bp, fun _ => o0⟩) ?_
      refine KP.op rfl (fun Hg hg => (by first | exact R.fieldAddr rfl Try.underlying32 rfl rfl sz29 rfl | exact R.fieldAddrP rfl Try.underlying32 rfl rfl sz29 rfl)) rfl rfl rfl ?_
      refine KP.op rfl (fun Hg hg => R.load rfl Try.underlying29 rfl rfl (cell_of (hg.1 rfl) rfl)) rfl rfl rfl ?_
      refine KP.op rfl (fun Hg hg => R.move rfl rfl) rfl rfl rfl ?_
      refine KP.op rfl (fun Hg hg => R.move rfl rfl) rfl rfl rfl ?_
      refine KP.op rfl (fun Hg hg => R.index (j := k) rfl Try.underlying22 sz41 rfl rfl hs rfl (by omega)) rfl rfl rfl ?_
      refine KP.op rfl (fun Hg hg => R.loadAgg rfl Try.underlying41 rfl sz41 rfl ((hg.2 rfl).cells hcx) rfl) rfl rfl rfl ?_
      refine KP.call rfl rfl rfl rfl rfl Try.call15 rfl rfl rfl (refOf_k _ _ _ _ _ hx1) (fun _ _ hR j _ hj2 => ⟨fun _ => hR.2.blk bp, fun hj => by subst hj; exact absurd (by decide +kernel) hj2⟩) ?_
      rintro _ H4 ⟨rfl, ox⟩
      have zc_H4 := (ox).1
      have o0 := o0.trans ox
      have bp := (ox).blk bp
      have wo := wo.old ox
      refine KP.op rfl (fun Hg hg => (R.add rfl rfl rfl (by dsimp only [InR]; omega)).val (congrArg (Value.int .u64) hst.symm)) rfl rfl rfl ?_
      refine KP.op rfl (fun Hg hg => (by first | exact R.fieldAddr rfl Try.underlying32 rfl rfl sz29 rfl | exact R.fieldAddrP rfl Try.underlying32 rfl rfl sz29 rfl)) rfl rfl rfl ?_
      refine KP.opS rfl (S.store rfl sz29 rfl rfl rfl rfl bp (by simp)) rfl rfl (fun _ h j hj1 hj2 => ⟨fun hj => by subst hj; exact absurd (by decide +kernel) hj2, fun hj => by subst hj; exact absurd (by decide +kernel) hj2⟩) ?_
      rintro H5 ⟨u5, b5⟩
      have o0 := o0.upd u5 (by omega)
      have zu5 := u5.1
      have wo := wo.upd u5 (by first | exact .inl rfl | exact .inr (by omega) | exact wo.lt.imp id (fun h => by omega))
      have bp := b5
      have bp : H5[(Array.size H)]? = some (.cells [.int .i64 ((cut l k).1 : Nat), .int .i64 to, .int .u64 (csum ((l.take (k + 1)).drop (cut l k).1))].toArray 32 (0, 0)) := bp
      refine KP.nil ?_
      refine KQ.seq ?_
      refine KC.seq ?_
      refine KC.region ?_
      refine KL.op (R.move rfl rfl) rfl rfl rfl ?_
      refine KL.op ((R.add rfl rfl rfl (by dsimp only [InR]; omega)).val (congrArg (Value.int .i64) (show (k : Int) + 1 = ((k + 1 : Nat) : Int) by omega))) rfl rfl rfl ?_
      refine KL.op ((by first | exact R.fieldAddr rfl Try.underlying32 rfl rfl sz3 rfl | exact R.fieldAddrP rfl Try.underlying32 rfl rfl sz3 rfl)) rfl rfl rfl ?_
      refine KL.opS (S.store rfl sz3 rfl rfl rfl rfl bp (by simp)) rfl rfl ?_
      rintro H6 ⟨u6, b6⟩
      have o0 := o0.upd u6 (by omega)
      have zu6 := u6.1
      have wo := wo.upd u6 (by first | exact .inl rfl | exact .inr (by omega) | exact wo.lt.imp id (fun h => by omega))
      have bp := b6
      have bp : H6[(Array.size H)]? = some (.cells [.int .i64 ((cut l k).1 : Nat), .int .i64 ((k + 1 : Nat) : Int), .int .u64 (csum ((l.take (k + 1)).drop (cut l k).1))].toArray 32 (0, 0)) := bp
      refine KL.nil ?_
      refine KQ.seq ?_
      refine KC.seq ?_
      refine KC.region ?_
      refine KL.op (R.move rfl rfl) rfl rfl rfl ?_
      refine KL.op (R.move rfl rfl) rfl rfl rfl ?_
      refine KL.op (R.index (j := k) rfl Try.underlying22 sz41 rfl rfl hs rfl (by omega)) rfl rfl rfl ?_
      refine KL.op ((by first | exact R.fieldAddr rfl Try.underlying41 rfl rfl sz5 rfl | exact R.fieldAddrP rfl Try.underlying41 rfl rfl sz5 rfl)) rfl rfl rfl ?_
      refine KL.op (R.load rfl Try.underlying5 rfl rfl (o0.cell (hcx 0 _ rfl))) rfl rfl rfl ?_
      refine KL.call rfl rfl rfl rfl Try.call10 rfl rfl rfl (REnds_k _) ?_
      rintro _ H7 ⟨rfl, ox⟩
      have zc_H7 := (ox).1
      have o0 := o0.trans ox
      have bp := (ox).blk bp
      have wo := wo.old ox
      refine KL.op (R.move rfl rfl) rfl rfl rfl ?_
      refine KL.case (d := 31) rfl ?_ ?_
      · intro hg31
        try simp only [decide_eq_true_eq, decide_eq_false_iff_not, Bool.not_eq_true', Bool.not_eq_false', Bool.and_eq_true, Bool.or_eq_false_iff] at hg31
        have hcut : cutHere l k = true := by unfold cutHere; rw [Bool.or_eq_true]; exact .inl (by simpa using hg31)
        refine KL.skip rfl rfl rfl ?_
        refine KL.skip rfl rfl rfl ?_
        refine KL.skip rfl rfl rfl ?_
        refine KL.skip rfl rfl rfl ?_
        refine KL.skip rfl rfl rfl ?_
        refine KL.op (R.pick rfl rfl rfl) rfl rfl rfl ?_
        refine KL.nil ?_
        refine KQ.seq ?_
        refine KC.condT rfl ?_
        refine KC.seq ?_
        refine KC.seq ?_
        refine KC.region ?_
        refine KL.op ((by first | exact R.fieldAddr rfl Try.underlying32 rfl rfl sz29 rfl | exact R.fieldAddrP rfl Try.underlying32 rfl rfl sz29 rfl)) rfl rfl rfl ?_
        refine KL.op (R.load rfl Try.underlying29 rfl rfl (by first | exact cell_of bp rfl | assumption)) rfl rfl rfl ?_
        refine KL.op (R.gtr rfl rfl rfl) rfl rfl rfl ?_
        refine KL.nil ?_
        refine KQ.seq ?_
        refine KC.iteL rfl ?_ ?_
        · intro hc40
          try simp only [decide_eq_true_eq, decide_eq_false_iff_not, Bool.not_eq_true', Bool.not_eq_false', Bool.and_eq_true, Bool.or_eq_false_iff] at hc40
          refine KC.region ?_
          refine KL.op (R.move rfl rfl) rfl rfl rfl ?_
          refine KL.op (R.loadAgg (cs := Pt.cells ⟨(cut l k).1, k + 1, csum ((l.take (k + 1)).drop (cut l k).1)⟩) rfl Try.underlying32 rfl sz32 rfl (cells_of bp) rfl) rfl rfl rfl ?_
          refine KL.opM (M.lit rfl Try.underlying26 zs32 (by decide) rfl rfl rfl) rfl rfl rfl ?_
          rintro _ H8 ⟨rfl, n8⟩
          have z8 := n8.2.1
          have o0 := o0.trans n8.1
          have bp := (n8.1).blk bp
          have wo := wo.old n8.1
          have b8 := n8.2.2
          have se : Sl 3 EPt H8 _ [(⟨(cut l k).1, k + 1, csum ((l.take (k + 1)).drop (cut l k).1)⟩ : Pt)] := Sl.lit1N n8 rfl (by decide) ⟨rfl, by show InR .u64 _; dsimp only [InR]; omega⟩
          have lt9 := wo.lt
          refine KL.opM (M.append rfl Try.underlying26 inf32 rfl (by decide) rfl rfl wo (by exact se) (fun _ _ h _ => h) (by omega) (by simp only [List.length_singleton]; omega) (by unfold maxLen; simp only [List.length_singleton]; omega)) rfl rfl rfl ?_
          rintro vn H9 ⟨w9, g9⟩
          try dsimp only at g9
          have ob9 := g9.oldB wo (by omega)
          have o0 := o0.then ob9 (by omega)
          have z9 := ob9.1
          have bp := (g9.2 _ (blk_lt bp) (by first | exact .inr (by omega) | exact .inl rfl | exact lt9.imp id (fun h => by omega))).trans bp
          have wo := w9
          refine KL.op (R.assign rfl rfl) rfl rfl rfl ?_
          refine KL.nil ?_
          refine KQ.seq ?_
          refine KC.region ?_
          refine KL.op (R.move rfl rfl) rfl rfl rfl ?_
          refine KL.op ((R.add rfl rfl rfl (by dsimp only [InR]; omega)).val (congrArg (Value.int .i64) (show (k : Int) + 1 = ((k + 1 : Nat) : Int) by omega))) rfl rfl rfl ?_
          refine KL.op (R.buildL rfl Try.underlying32 zr32 [(0, 1), (1, 1), (2, 1)] (fun w => by kernel_rfl) rfl ⟨⟨_, rfl, rfl⟩, trivial⟩ rfl rfl ⟨⟨_, rfl, by first | rfl | exact wo.cells1⟩, trivial⟩ rfl) rfl rfl rfl ?_
          refine KL.opS (S.storeAgg rfl sz32 rfl rfl (rfl) (by intro u hu; simp only [List.mem_cons, List.not_mem_nil, or_false] at hu; rcases hu with rfl | rfl | rfl <;> rfl) bp (by simp)) rfl rfl ?_
          rintro H10 ⟨u10, b10⟩
          have o0 := o0.upd u10 (by omega)
          have zu10 := u10.1
          have wo := wo.upd u10 (by first | exact .inl rfl | exact .inr (by omega) | exact wo.lt.imp id (fun h => by omega))
          have bp := b10
          rw [over_all (by rfl)] at bp
          refine KL.nil ?_
          refine KQ.normBlock ?_
          refine KQ.seq ?_
          refine KC.region ?_
          refine KL.op (R.move rfl rfl) rfl rfl rfl ?_
          refine KL.op ((R.add rfl rfl rfl (by dsimp only [InR]; omega)).val (congrArg (Value.int .i64) (show (k : Int) + 1 = ((k + 1 : Nat) : Int) by omega))) rfl rfl rfl ?_
          refine KL.op (R.assign rfl rfl) rfl rfl rfl ?_
          refine KL.nil ?_
          refine KQ.again ((k + 1, vn)) ?_ ?_ ?_
          · exact (Sub.cons rfl (Sub.cons rfl (Ext.sub (by repeat (first | exact Ext.refl _ _ | refine Ext.put rfl ?_ | refine Ext.drop rfl ?_)))))
          · show l.length - (k + 1) < l.length - k; omega
          · first
              | exact ⟨by show k + 1 ≤ _; omega, o0, ⟨_, by rw [cut_no hcut]; exact bp⟩, by dsimp only; rw [cut_no hcut]; exact wo⟩
              | exact ⟨by show k + 1 ≤ _; omega, o0, ⟨_, by rw [cut_yes hcut]; dsimp only; rw [drop_all]; exact bp⟩, by dsimp only; rw [cut_yes hcut]; dsimp only; rw [pos_app, pos_one (by dsimp only; omega)]; exact wo⟩
              | exact ⟨by show k + 1 ≤ _; omega, o0, ⟨_, by rw [cut_yes hcut]; dsimp only; rw [drop_all]; exact bp⟩, by dsimp only; rw [cut_yes hcut]; dsimp only; rw [pos_app, pos_none (by dsimp only; omega), List.append_nil]; exact wo⟩
        · intro hc40
          try simp only [decide_eq_true_eq, decide_eq_false_iff_not, Bool.not_eq_true', Bool.not_eq_false', Bool.and_eq_true, Bool.or_eq_false_iff] at hc40
          refine KC.skip ?_
          refine KQ.seq ?_
          refine KC.region ?_
          refine KL.op (R.move rfl rfl) rfl rfl rfl ?_
          refine KL.op ((R.add rfl rfl rfl (by dsimp only [InR]; omega)).val (congrArg (Value.int .i64) (show (k : Int) + 1 = ((k + 1 : Nat) : Int) by omega))) rfl rfl rfl ?_
          refine KL.op (R.buildL rfl Try.underlying32 zr32 [(0, 1), (1, 1), (2, 1)] (fun w => by kernel_rfl) rfl ⟨⟨_, rfl, rfl⟩, trivial⟩ rfl rfl ⟨⟨_, rfl, by first | rfl | exact wo.cells1⟩, trivial⟩ rfl) rfl rfl rfl ?_
          refine KL.opS (S.storeAgg rfl sz32 rfl rfl (rfl) (by intro u hu; simp only [List.mem_cons, List.not_mem_nil, or_false] at hu; rcases hu with rfl | rfl | rfl <;> rfl) bp (by simp)) rfl rfl ?_
          rintro H11 ⟨u11, b11⟩
          have o0 := o0.upd u11 (by omega)
          have zu11 := u11.1
          have wo := wo.upd u11 (by first | exact .inl rfl | exact .inr (by omega) | exact wo.lt.imp id (fun h => by omega))
          have bp := b11
          rw [over_all (by rfl)] at bp
          refine KL.nil ?_
          refine KQ.normBlock ?_
          refine KQ.seq ?_
          refine KC.region ?_
          refine KL.op (R.move rfl rfl) rfl rfl rfl ?_
          refine KL.op ((R.add rfl rfl rfl (by dsimp only [InR]; omega)).val (congrArg (Value.int .i64) (show (k : Int) + 1 = ((k + 1 : Nat) : Int) by omega))) rfl rfl rfl ?_
          refine KL.op (R.assign rfl rfl) rfl rfl rfl ?_
          refine KL.nil ?_
          refine KQ.again ((k + 1, vo)) ?_ ?_ ?_
          · exact (Sub.cons rfl (Sub.cons rfl (Ext.sub (by repeat (first | exact Ext.refl _ _ | refine Ext.put rfl ?_ | refine Ext.drop rfl ?_)))))
          · show l.length - (k + 1) < l.length - k; omega
          · first
              | exact ⟨by show k + 1 ≤ _; omega, o0, ⟨_, by rw [cut_no hcut]; exact bp⟩, by dsimp only; rw [cut_no hcut]; exact wo⟩
              | exact ⟨by show k + 1 ≤ _; omega, o0, ⟨_, by rw [cut_yes hcut]; dsimp only; rw [drop_all]; exact bp⟩, by dsimp only; rw [cut_yes hcut]; dsimp only; rw [pos_app, pos_one (by dsimp only; omega)]; exact wo⟩
              | exact ⟨by show k + 1 ≤ _; omega, o0, ⟨_, by rw [cut_yes hcut]; dsimp only; rw [drop_all]; exact bp⟩, by dsimp only; rw [cut_yes hcut]; dsimp only; rw [pos_app, pos_none (by dsimp only; omega), List.append_nil]; exact wo⟩
      · intro hg31
        try simp only [decide_eq_true_eq, decide_eq_false_iff_not, Bool.not_eq_true', Bool.not_eq_false', Bool.and_eq_true, Bool.or_eq_false_iff] at hg31
        refine KL.op (R.move rfl rfl) rfl rfl rfl ?_
        refine KL.op (R.move rfl rfl) rfl rfl rfl ?_
        refine KL.op (R.lenS rfl Try.underlying22 rfl hs) rfl rfl rfl ?_
        refine KL.op (R.sub rfl rfl rfl (by dsimp only [InR]; omega)) rfl rfl rfl ?_
        refine KL.op (R.eql rfl rfl rfl) rfl rfl rfl ?_
        refine KL.op (R.pick rfl rfl rfl) rfl rfl rfl ?_
        refine KL.nil ?_
        refine KQ.seq ?_
        refine KC.iteL rfl ?_ ?_
        · intro hc37
          try simp only [decide_eq_true_eq, decide_eq_false_iff_not, Bool.not_eq_true', Bool.not_eq_false', Bool.and_eq_true, Bool.or_eq_false_iff] at hc37
          have hcut : cutHere l k = true := by
            unfold cutHere
            rw [Bool.or_eq_true]
            first
              | exact .inr (decide_eq_true (by omega))
              | exact .inl (by simpa using hg31)
          refine KC.seq ?_
          refine KC.seq ?_
          refine KC.region ?_
          refine KL.op ((by first | exact R.fieldAddr rfl Try.underlying32 rfl rfl sz29 rfl | exact R.fieldAddrP rfl Try.underlying32 rfl rfl sz29 rfl)) rfl rfl rfl ?_
          refine KL.op (R.load rfl Try.underlying29 rfl rfl (by first | exact cell_of bp rfl | assumption)) rfl rfl rfl ?_
          refine KL.op (R.gtr rfl rfl rfl) rfl rfl rfl ?_
          refine KL.nil ?_
          refine KQ.seq ?_
          refine KC.iteL rfl ?_ ?_
          · intro hc40
            try simp only [decide_eq_true_eq, decide_eq_false_iff_not, Bool.not_eq_true', Bool.not_eq_false', Bool.and_eq_true, Bool.or_eq_false_iff] at hc40
            refine KC.region ?_
            refine KL.op (R.move rfl rfl) rfl rfl rfl ?_
            refine KL.op (R.loadAgg (cs := Pt.cells ⟨(cut l k).1, k + 1, csum ((l.take (k + 1)).drop (cut l k).1)⟩) rfl Try.underlying32 rfl sz32 rfl (cells_of bp) rfl) rfl rfl rfl ?_
            refine KL.opM (M.lit rfl Try.underlying26 zs32 (by decide) rfl rfl rfl) rfl rfl rfl ?_
            rintro _ H12 ⟨rfl, n12⟩
            have z12 := n12.2.1
            have o0 := o0.trans n12.1
            have bp := (n12.1).blk bp
            have wo := wo.old n12.1
            have b12 := n12.2.2
            have se : Sl 3 EPt H12 _ [(⟨(cut l k).1, k + 1, csum ((l.take (k + 1)).drop (cut l k).1)⟩ : Pt)] := Sl.lit1N n12 rfl (by decide) ⟨rfl, by show InR .u64 _; dsimp only [InR]; omega⟩
            have lt13 := wo.lt
            refine KL.opM (M.append rfl Try.underlying26 inf32 rfl (by decide) rfl rfl wo (by exact se) (fun _ _ h _ => h) (by omega) (by simp only [List.length_singleton]; omega) (by unfold maxLen; simp only [List.length_singleton]; omega)) rfl rfl rfl ?_
            rintro vn H13 ⟨w13, g13⟩
            try dsimp only at g13
            have ob13 := g13.oldB wo (by omega)
            have o0 := o0.then ob13 (by omega)
            have z13 := ob13.1
            have bp := (g13.2 _ (blk_lt bp) (by first | exact .inr (by omega) | exact .inl rfl | exact lt13.imp id (fun h => by omega))).trans bp
            have wo := w13
            refine KL.op (R.assign rfl rfl) rfl rfl rfl ?_
            refine KL.nil ?_
            refine KQ.seq ?_
            refine KC.region ?_
            refine KL.op (R.move rfl rfl) rfl rfl rfl ?_
            refine KL.op ((R.add rfl rfl rfl (by dsimp only [InR]; omega)).val (congrArg (Value.int .i64) (show (k : Int) + 1 = ((k + 1 : Nat) : Int) by omega))) rfl rfl rfl ?_
            refine KL.op (R.buildL rfl Try.underlying32 zr32 [(0, 1), (1, 1), (2, 1)] (fun w => by kernel_rfl) rfl ⟨⟨_, rfl, rfl⟩, trivial⟩ rfl rfl ⟨⟨_, rfl, by first | rfl | exact wo.cells1⟩, trivial⟩ rfl) rfl rfl rfl ?_
            refine KL.opS (S.storeAgg rfl sz32 rfl rfl (rfl) (by intro u hu; simp only [List.mem_cons, List.not_mem_nil, or_false] at hu; rcases hu with rfl | rfl | rfl <;> rfl) bp (by simp)) rfl rfl ?_
            rintro H14 ⟨u14, b14⟩
            have o0 := o0.upd u14 (by omega)
            have zu14 := u14.1
            have wo := wo.upd u14 (by first | exact .inl rfl | exact .inr (by omega) | exact wo.lt.imp id (fun h => by omega))
            have bp := b14
            rw [over_all (by rfl)] at bp
            refine KL.nil ?_
            refine KQ.normBlock ?_
            refine KQ.seq ?_
            refine KC.region ?_
            refine KL.op (R.move rfl rfl) rfl rfl rfl ?_
            refine KL.op ((R.add rfl rfl rfl (by dsimp only [InR]; omega)).val (congrArg (Value.int .i64) (show (k : Int) + 1 = ((k + 1 : Nat) : Int) by omega))) rfl rfl rfl ?_
            refine KL.op (R.assign rfl rfl) rfl rfl rfl ?_
            refine KL.nil ?_
            refine KQ.again ((k + 1, vn)) ?_ ?_ ?_
            · exact (Sub.cons rfl (Sub.cons rfl (Ext.sub (by repeat (first | exact Ext.refl _ _ | refine Ext.put rfl ?_ | refine Ext.drop rfl ?_)))))
            · show l.length - (k + 1) < l.length - k; omega
            · first
                | exact ⟨by show k + 1 ≤ _; omega, o0, ⟨_, by rw [cut_no hcut]; exact bp⟩, by dsimp only; rw [cut_no hcut]; exact wo⟩
                | exact ⟨by show k + 1 ≤ _; omega, o0, ⟨_, by rw [cut_yes hcut]; dsimp only; rw [drop_all]; exact bp⟩, by dsimp only; rw [cut_yes hcut]; dsimp only; rw [pos_app, pos_one (by dsimp only; omega)]; exact wo⟩
                | exact ⟨by show k + 1 ≤ _; omega, o0, ⟨_, by rw [cut_yes hcut]; dsimp only; rw [drop_all]; exact bp⟩, by dsimp only; rw [cut_yes hcut]; dsimp only; rw [pos_app, pos_none (by dsimp only; omega), List.append_nil]; exact wo⟩
          · intro hc40
            try simp only [decide_eq_true_eq, decide_eq_false_iff_not, Bool.not_eq_true', Bool.not_eq_false', Bool.and_eq_true, Bool.or_eq_false_iff] at hc40
            refine KC.skip ?_
            refine KQ.seq ?_
            refine KC.region ?_
            refine KL.op (R.move rfl rfl) rfl rfl rfl ?_
            refine KL.op ((R.add rfl rfl rfl (by dsimp only [InR]; omega)).val (congrArg (Value.int .i64) (show (k : Int) + 1 = ((k + 1 : Nat) : Int) by omega))) rfl rfl rfl ?_
            refine KL.op (R.buildL rfl Try.underlying32 zr32 [(0, 1), (1, 1), (2, 1)] (fun w => by kernel_rfl) rfl ⟨⟨_, rfl, rfl⟩, trivial⟩ rfl rfl ⟨⟨_, rfl, by first | rfl | exact wo.cells1⟩, trivial⟩ rfl) rfl rfl rfl ?_
            refine KL.opS (S.storeAgg rfl sz32 rfl rfl (rfl) (by intro u hu; simp only [List.mem_cons, List.not_mem_nil, or_false] at hu; rcases hu with rfl | rfl | rfl <;> rfl) bp (by simp)) rfl rfl ?_
            rintro H15 ⟨u15, b15⟩
            have o0 := o0.upd u15 (by omega)
            have zu15 := u15.1
            have wo := wo.upd u15 (by first | exact .inl rfl | exact .inr (by omega) | exact wo.lt.imp id (fun h => by omega))
            have bp := b15
            rw [over_all (by rfl)] at bp
            refine KL.nil ?_
            refine KQ.normBlock ?_
            refine KQ.seq ?_
            refine KC.region ?_
            refine KL.op (R.move rfl rfl) rfl rfl rfl ?_
            refine KL.op ((R.add rfl rfl rfl (by dsimp only [InR]; omega)).val (congrArg (Value.int .i64) (show (k : Int) + 1 = ((k + 1 : Nat) : Int) by omega))) rfl rfl rfl ?_
            refine KL.op (R.assign rfl rfl) rfl rfl rfl ?_
            refine KL.nil ?_
            refine KQ.again ((k + 1, vo)) ?_ ?_ ?_
            · exact (Sub.cons rfl (Sub.cons rfl (Ext.sub (by repeat (first | exact Ext.refl _ _ | refine Ext.put rfl ?_ | refine Ext.drop rfl ?_)))))
            · show l.length - (k + 1) < l.length - k; omega
            · first
                | exact ⟨by show k + 1 ≤ _; omega, o0, ⟨_, by rw [cut_no hcut]; exact bp⟩, by dsimp only; rw [cut_no hcut]; exact wo⟩
                | exact ⟨by show k + 1 ≤ _; omega, o0, ⟨_, by rw [cut_yes hcut]; dsimp only; rw [drop_all]; exact bp⟩, by dsimp only; rw [cut_yes hcut]; dsimp only; rw [pos_app, pos_one (by dsimp only; omega)]; exact wo⟩
                | exact ⟨by show k + 1 ≤ _; omega, o0, ⟨_, by rw [cut_yes hcut]; dsimp only; rw [drop_all]; exact bp⟩, by dsimp only; rw [cut_yes hcut]; dsimp only; rw [pos_app, pos_none (by dsimp only; omega), List.append_nil]; exact wo⟩
        · intro hc37
          try simp only [decide_eq_true_eq, decide_eq_false_iff_not, Bool.not_eq_true', Bool.not_eq_false', Bool.and_eq_true, Bool.or_eq_false_iff] at hc37
          have hcut : cutHere l k = false := by unfold cutHere; rw [Bool.or_eq_false_iff]; exact ⟨by simpa using hg31, decide_eq_false (by omega)⟩
          refine KC.skip ?_
          refine KQ.normBlock ?_
          refine KQ.seq ?_
          refine KC.region ?_
          refine KL.op (R.move rfl rfl) rfl rfl rfl ?_
          refine KL.op ((R.add rfl rfl rfl (by dsimp only [InR]; omega)).val (congrArg (Value.int .i64) (show (k : Int) + 1 = ((k + 1 : Nat) : Int) by omega))) rfl rfl rfl ?_
          refine KL.op (R.assign rfl rfl) rfl rfl rfl ?_
          refine KL.nil ?_
          refine KQ.again ((k + 1, vo)) ?_ ?_ ?_
          · exact (Sub.cons rfl (Sub.cons rfl (Ext.sub (by repeat (first | exact Ext.refl _ _ | refine Ext.put rfl ?_ | refine Ext.drop rfl ?_)))))
          · show l.length - (k + 1) < l.length - k; omega
          · first
              | exact ⟨by show k + 1 ≤ _; omega, o0, ⟨_, by rw [cut_no hcut]; exact bp⟩, by dsimp only; rw [cut_no hcut]; exact wo⟩
              | exact ⟨by show k + 1 ≤ _; omega, o0, ⟨_, by rw [cut_yes hcut]; dsimp only; rw [drop_all]; exact bp⟩, by dsimp only; rw [cut_yes hcut]; dsimp only; rw [pos_app, pos_one (by dsimp only; omega)]; exact wo⟩
              | exact ⟨by show k + 1 ≤ _; omega, o0, ⟨_, by rw [cut_yes hcut]; dsimp only; rw [drop_all]; exact bp⟩, by dsimp only; rw [cut_yes hcut]; dsimp only; rw [pos_app, pos_none (by dsimp only; omega), List.append_nil]; exact wo⟩
    · intro hc10
      try simp only [decide_eq_true_eq, decide_eq_false_iff_not, Bool.not_eq_true', Bool.not_eq_false', Bool.and_eq_true, Bool.or_eq_false_iff] at hc10
      refine KC.exit ?_
      refine KQ.exitThen ?_
      refine KQ.exitThen ?_
      refine KQ.hit ?_
      refine KQ.seq ?_
      refine KC.seq ?_
      refine KC.region ?_
      refine KL.op (R.move rfl rfl) rfl rfl rfl ?_
      refine KL.op (R.assign rfl rfl) rfl rfl rfl ?_
      refine KL.nil ?_
      refine KQ.seq ?_
      refine KC.ret ?_
      refine KQ.ofRet ?_
      refine KQ.fin1 Try.results8 rfl ?_
      have e : k = l.length := by omega
      subst e
      exact ⟨wo.weak (by omega), o0⟩


def insOf (l : List Int) : List Ins := l.map fun op => ⟨op, 0, 0, 0, []⟩
theorem insOf_take {l : List Int} {k : Nat} (h : k < l.length) : insOf (l.take (k + 1)) = insOf (l.take k) ++ [⟨l.getD k default, 0, 0, 0, []⟩] := by
  unfold insOf
  rw [List.take_add_one, List.getElem?_eq_getElem h, List.map_append, List.getD_eq_getElem?_getD, List.getElem?_eq_getElem h]; rfl
theorem insOf_len (l : List Int) : (insOf l).length = l.length := by simp [insOf]
theorem Sl.ptAt {H : Heap} {v : Value} {l : List Pt} (h : Sl 3 EPt H v l) (j : Nat) (hj : j < l.length) : CellsH H ((vbase v).add (j * 3)) (l.getD j default).cells ∧ (l.getD j default).R := by
  obtain ⟨cs, _, hc, rfl, hr⟩ := h.at j hj
  exact ⟨hc, hr⟩
theorem pt_one {x : Pt} : ∀ u ∈ x.cells, u.oneCell' = true := by
  intro u hu
  simp only [Pt.cells, List.mem_cons, List.not_mem_nil, or_false] at hu
  rcases hu with rfl | rfl | rfl <;> rfl

set_option maxRecDepth 100000 in
set_option maxHeartbeats 4000000 in
theorem is_k {H : Heap} {v vm : Value} {l : List Int} {m : List Pt} (hs : Sl 1 (EInt .u8) H v l) (hm : Sl 3 EPt H vm m) (hl : l.length ≤ 1000) (he : parts (insOf l) = m) : Ct Try.prog 13 [v, vm] H (fun u H' => u = .bool true ∧ Old H H') := by
  refine Ct.mk Try.func13 rfl Try.ntmps13 rfl ?_
  intro W0 hW0
  have o0 : Old H H := Old.refl H
  refine KC.seq ?_
  refine KC.region ?_
  refine KL.op (R.assign rfl rfl) rfl rfl rfl ?_
  refine KL.nil ?_
  refine KQ.seq ?_
  refine KC.seq ?_
  refine KC.region ?_
  refine KL.op (R.assign rfl rfl) rfl rfl rfl ?_
  refine KL.nil ?_
  refine KQ.seq ?_
  refine KC.seq ?_
  refine KC.seq ?_
  refine KC.region ?_
  refine KL.op (R.move rfl rfl) rfl rfl rfl ?_
  refine KL.op (R.lenS rfl Try.underlying47 rfl hs) rfl rfl rfl ?_
  refine KL.op (R.move rfl rfl) rfl rfl rfl ?_
  refine KL.nil ?_
  refine KQ.seq ?_
  refine KC.block ?_
  refine KC.loopD (κ := Nat × Value) [14, 15, 16, 7, 17, 18, 19, 20, 21, 5, 22, 13] (fun k => [(13, .int .i64 (k.1 : Nat)), (5, k.2)]) (fun k Hl => k.1 ≤ l.length ∧ Old H Hl ∧ Own 5 EIns 41 #[] H.size Hl k.2 (insOf (l.take k.1))) (fun k => l.length - k.1) (0, .slice none 0 0) ?_ ?_ ?_
  · exact (Sub.cons rfl (Sub.cons rfl (Ext.sub (Ext.refl _ _))))
  · exact ⟨Nat.zero_le _, o0, Own.nil _ _ _ _ _ _⟩
  · rintro ⟨k, vb⟩ H1 ⟨hk, o0, wb⟩
    have zl_H1 := o0.1
    dsimp only at hk wb
    have zl := o0.1
    have hil := insOf_len (l.take k)
    rw [List.length_take] at hil
    refine KC.seq ?_
    refine KC.region ?_
    refine KL.op (R.lss rfl rfl rfl) rfl rfl rfl ?_
    refine KL.nil ?_
    refine KQ.seq ?_
    refine KC.seq ?_
    refine KC.iteL rfl ?_ ?_
    · intro hc14
      try simp only [decide_eq_true_eq, decide_eq_false_iff_not, Bool.not_eq_true', Bool.not_eq_false', Bool.and_eq_true, Bool.or_eq_false_iff] at hc14
      obtain ⟨hcx, hcr⟩ := hs.int k (by omega)
      refine KC.skip ?_
      refine KQ.seq ?_
      refine KC.seq ?_
      refine KC.block ?_
      refine KC.seq ?_
      refine KC.region ?_
      refine KL.op (R.index1 (j := k) rfl Try.underlying47 sz5 rfl rfl hs rfl (by omega)) rfl rfl rfl ?_
      refine KL.op (R.load rfl Try.underlying5 rfl rfl (o0.cell hcx)) rfl rfl rfl ?_
      refine KL.op (R.assign rfl rfl) rfl rfl rfl ?_
      refine KL.nil ?_
      refine KQ.seq ?_
      refine KC.region ?_
      refine KL.op (R.move rfl rfl) rfl rfl rfl ?_
      refine KL.op (R.move rfl rfl) rfl rfl rfl ?_
      refine KL.op (R.buildL rfl Try.underlying41 zr41 [(0, 1), (1, 1), (2, 1), (3, 1), (4, 1)] (fun w => by kernel_rfl) rfl ⟨⟨_, rfl, rfl⟩, trivial⟩ rfl rfl ⟨⟨_, rfl, by first | rfl | exact wb.cells1⟩, trivial⟩ rfl) rfl rfl rfl ?_
      refine KL.opM (M.lit rfl Try.underlying22 zs41 (by decide) rfl rfl rfl) rfl rfl rfl ?_
      rintro _ H2 ⟨rfl, n2⟩
      have z2 := n2.2.1
      have o0 := o0.trans n2.1
      have wb := wb.old n2.1
      have b2 := n2.2.2
      have se : Sl 5 EIns H2 _ [(⟨l.getD k default, 0, 0, 0, []⟩ : Ins)] := Sl.lit1N n2 rfl (by decide) ⟨_, rfl, Sl.nil _ _ _, hcr, by dsimp only [InR]; omega, by dsimp only [InR]; omega, by dsimp only [InR]; omega⟩
      have lt3 := wb.lt
      refine KL.opM (M.append rfl Try.underlying22 inf41 rfl (by decide) rfl rfl wb (by exact se) (fun cs y h hy => by
        simp only [List.mem_cons, List.not_mem_nil, or_false] at hy
        subst hy
        obtain ⟨q, hq, hsl, r⟩ := h
        exact ⟨q, hq, hsl.empty _, r⟩) (by omega) (by simp only [List.length_singleton]; omega) (by unfold maxLen; simp only [List.length_singleton]; omega)) rfl rfl rfl ?_
      rintro vn H3 ⟨w3, g3⟩
      try dsimp only at g3
      have ob3 := g3.oldB wb (by omega)
      have o0 := o0.then ob3 (by omega)
      have z3 := ob3.1
      have wb := w3
      refine KL.op (R.assign rfl rfl) rfl rfl rfl ?_
      refine KL.nil ?_
      refine KQ.normBlock ?_
      refine KQ.seq ?_
      refine KC.region ?_
      refine KL.op ((R.add rfl rfl rfl (by dsimp only [InR]; omega)).val (congrArg (Value.int .i64) (show (k : Int) + 1 = ((k + 1 : Nat) : Int) by omega))) rfl rfl rfl ?_
      refine KL.op (R.move rfl rfl) rfl rfl rfl ?_
      refine KL.nil ?_
      refine KQ.again ((k + 1, vn)) ?_ ?_ ?_
      · exact (Sub.cons rfl (Sub.cons rfl (Ext.sub (by repeat (first | exact Ext.refl _ _ | refine Ext.put rfl ?_ | refine Ext.drop rfl ?_)))))
      · show l.length - (k + 1) < l.length - k; omega
      · exact ⟨by show k + 1 ≤ _; omega, o0, by dsimp only; rw [insOf_take (by omega)]; exact wb⟩
    · intro hc14
      try simp only [decide_eq_true_eq, decide_eq_false_iff_not, Bool.not_eq_true', Bool.not_eq_false', Bool.and_eq_true, Bool.or_eq_false_iff] at hc14
      have hkl : k = l.length := by omega
      rw [hkl, List.take_length] at wb
      refine KC.exit ?_
      refine KQ.exitThen ?_
      refine KQ.exitThen ?_
      refine KQ.hit ?_
      refine KQ.seq ?_
      refine KC.seq ?_
      refine KC.region ?_
      refine KL.op (R.move rfl rfl) rfl rfl rfl ?_
      refine KL.call rfl rfl rfl rfl Try.call7 rfl rfl rfl (Parts_k (wb.sl (emptyOld _) (by decide)) (by rw [insOf_len]; omega)) ?_
      rintro vr H4 ⟨wr, ox⟩
      have zc_H4 := (ox).1
      have o0 := o0.trans ox
      have wb := wb.old ox
      rw [he] at wr
      have sr := wr.sl (emptyOld _) (by decide)
      have oR : Old H4 H4 := Old.refl _
      have hml := hm.lenM
      unfold maxLen at hml
      refine KL.op (R.assign rfl rfl) rfl rfl rfl ?_
      refine KL.nil ?_
      refine KQ.seq ?_
      refine KC.seq ?_
      refine KC.seq ?_
      refine KC.region ?_
      refine KL.op (R.move rfl rfl) rfl rfl rfl ?_
      refine KL.op (R.lenS rfl Try.underlying24 rfl sr) rfl rfl rfl ?_
      refine KL.op (R.move rfl rfl) rfl rfl rfl ?_
      refine KL.op (R.lenS rfl Try.underlying24 rfl hm) rfl rfl rfl ?_
      refine KL.op ((R.neq rfl rfl rfl).val ((congrArg (fun b => Value.bool (!b)) (decide_eq_true (by rfl))))) rfl rfl rfl ?_
      refine KL.nil ?_
      refine KQ.seq ?_
      refine KC.condF rfl ?_
      refine KC.skip ?_
      refine KQ.seq ?_
      refine KC.seq ?_
      refine KC.seq ?_
      refine KC.region ?_
      refine KL.op (R.move rfl rfl) rfl rfl rfl ?_
      refine KL.op (R.lenS rfl Try.underlying24 rfl sr) rfl rfl rfl ?_
      refine KL.op (R.move rfl rfl) rfl rfl rfl ?_
      refine KL.nil ?_
      refine KQ.seq ?_
      refine KC.block ?_
      refine KC.loopD (κ := Nat) [33, 34, 35, 36, 10, 9, 37, 38, 39, 40, 41, 42, 4, 43, 32] (fun k => [(32, .int .i64 (k : Nat))]) (fun k Hl => k ≤ m.length ∧ Old H4 Hl ∧ Old H Hl) (fun k => m.length - k) 0 ?_ ?_ ?_
      · exact (Sub.cons rfl (Ext.sub (Ext.refl _ _)))
      · exact ⟨Nat.zero_le _, oR, o0⟩
      · rintro k H5 ⟨hk, oR, o0⟩
        have zl_H5 := o0.1
        have zl := o0.1
        have zr := oR.1
        refine KC.seq ?_
        refine KC.region ?_
        refine KL.op (R.lss rfl rfl rfl) rfl rfl rfl ?_
        refine KL.nil ?_
        refine KQ.seq ?_
        refine KC.seq ?_
        refine KC.iteL rfl ?_ ?_
        · intro hc33
          try simp only [decide_eq_true_eq, decide_eq_false_iff_not, Bool.not_eq_true', Bool.not_eq_false', Bool.and_eq_true, Bool.or_eq_false_iff] at hc33
          obtain ⟨hcp, hpr⟩ := sr.ptAt k (by omega)
          obtain ⟨hcq, hqr⟩ := hm.ptAt k (by omega)
          refine KC.skip ?_
          refine KQ.seq ?_
          refine KC.seq ?_
          refine KC.block ?_
          refine KC.seq ?_
          refine KC.region ?_
          refine KL.op (R.move rfl rfl) rfl rfl rfl ?_
          refine KL.op (R.index (j := k) rfl Try.underlying24 sz31 rfl rfl sr rfl (by omega)) rfl rfl rfl ?_
          refine KL.op (R.loadAgg rfl Try.underlying31 rfl sz31 rfl (oR.cells hcp) rfl) rfl rfl rfl ?_
          refine KL.opM (M.alloc rfl zr31 rfl) rfl rfl rfl ?_
          rintro _ H6 ⟨rfl, n6⟩
          have z6 := n6.2.1
          have o0 := o0.trans n6.1
          have oR := oR.trans n6.1
          have b6 := n6.2.2
          have bp := b6
          refine KL.op (R.assign rfl rfl) rfl rfl rfl ?_
          refine KL.opS (S.storeAgg (us := (m.getD k default).cells) rfl sz31 rfl rfl (rfl) (by exact pt_one) bp (by simp [Pt.cells])) rfl rfl ?_
          rintro H7 ⟨u7, b7⟩
          have o0 := o0.upd u7 (by omega)
          have zu7 := u7.1
          have oR := oR.upd u7 (by omega)
          have bp := b7
          rw [over_all (by rfl)] at bp
          have hcz := o0.cells hcq
          refine KL.nil ?_
          refine KQ.seq ?_
          refine KC.seq ?_
          refine KC.quiet (by kernel_rfl) (by kernel_rfl) ?_
          refine KD.op (R.loadAgg rfl Try.underlying31 rfl sz31 rfl (cells_of bp) rfl) rfl rfl rfl ?_
          refine KD.op (R.move rfl rfl) rfl rfl rfl ?_
          refine KD.op (R.move rfl rfl) rfl rfl rfl ?_
          refine KD.op (R.index (j := k) rfl Try.underlying24 sz31 rfl rfl hm rfl (by omega)) rfl rfl rfl ?_
          refine KD.op (R.loadAgg (cs := (m.getD k default).cells) rfl Try.underlying31 rfl sz31 rfl hcz rfl) rfl rfl rfl ?_
          refine KD.op ((R.neqSt rfl Try.underlying31 (by kernel_rfl) (by kernel_rfl) rfl rfl (EqFs.int (by decide) Try.underlying3 rfl rfl (EqFs.int (by decide) Try.underlying3 rfl rfl (EqFs.int (by decide) Try.underlying29 rfl rfl EqFs.nil)))).val (congrArg Value.bool (show (!(decide (((m.getD k default).a : Int) = (m.getD k default).a) && (decide (((m.getD k default).t : Int) = (m.getD k default).t) && (decide ((m.getD k default).c = (m.getD k default).c) && true)))) = false by simp))) rfl rfl rfl ?_
          refine KD.nil ?_
          refine KQ.seq ?_
          refine KC.condF rfl ?_
          refine KC.skip ?_
          refine KQ.normBlock ?_
          refine KQ.seq ?_
          refine KC.region ?_
          refine KL.op ((R.add rfl rfl rfl (by dsimp only [InR]; omega)).val (congrArg (Value.int .i64) (show (k : Int) + 1 = ((k + 1 : Nat) : Int) by omega))) rfl rfl rfl ?_
          refine KL.op (R.move rfl rfl) rfl rfl rfl ?_
          refine KL.nil ?_
          refine KQ.again (k + 1) ?_ ?_ ?_
          · exact (Sub.cons rfl (Ext.sub (by repeat (first | exact Ext.refl _ _ | refine Ext.put rfl ?_ | refine Ext.drop rfl ?_))))
          · omega
          · exact ⟨by omega, oR, o0⟩
        · intro hc33
          try simp only [decide_eq_true_eq, decide_eq_false_iff_not, Bool.not_eq_true', Bool.not_eq_false', Bool.and_eq_true, Bool.or_eq_false_iff] at hc33
          refine KC.exit ?_
          refine KQ.exitThen ?_
          refine KQ.exitThen ?_
          refine KQ.hit ?_
          refine KQ.seq ?_
          refine KC.seq ?_
          refine KC.region ?_
          refine KL.op (R.assign rfl rfl) rfl rfl rfl ?_
          refine KL.nil ?_
          refine KQ.seq ?_
          refine KC.ret ?_
          refine KQ.ofRet ?_
          refine KQ.fin1 Try.results13 rfl ?_
          exact ⟨rfl, o0⟩

end Go.Proofs.Ytokidabnjodglaa
