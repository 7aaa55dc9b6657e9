/- An instance is made, or it is told that it may not be. No condition but those that each states. -/
import Derived.Test.YticnkojpfmkjeaaIstE
namespace Go.Proofs.Yticnkojpfmkjeaa
open Go Go.RowKit
set_option linter.unusedVariables false
set_option linter.unusedSimpArgs false
set_option linter.unnecessarySimpa false

theorem over_all {cs us : List Value} (h : us.length = cs.length) : cs.take 0 ++ us ++ cs.drop (0 + us.length) = us := by simp [h]
theorem tlen_le {m : Md} (hft : ∀ x r, m.tables = x :: r → x.1 ≤ 1024) : tlen m ≤ 1024 := by
  cases htb : m.tables with
  | nil => rw [tlen_nil htb]; omega
  | cons x r => rw [tlen_cons htb]; have := hft x r htb; omega
theorem u32s {x : Int} (h0 : 0 ≤ x) (h1 : x < 4294967296) : IntKind.u32.wrap x = x := by
  rw [show IntKind.u32.wrap x = x % 4294967296 from by simp [IntKind.wrap, IntKind.bits, IntKind.signed]]; omega

set_option maxRecDepth 100000 in
set_option maxHeartbeats 4000000 in
theorem made_any {H : Heap} {v0 v1 v2 v3 v4 v5 v6 v7 v8 v9 va vb : Value} {m : Md} (mv : MI H v0 v1 v2 v3 v4 v5 v6 v7 v8 v9 va vb m) : CtX Try.prog 18 [.agg [v0, v1, v2, v3, v4, v5, v6, v7, v8, v9, va, vb].toArray] H (fun u H' => ∃ g mp tv gv, u = .pointer (some ⟨g, 0, none⟩) ∧ H.size ≤ g ∧ IS H' g mp tv gv m (memL m) (tabL m) (m.globs.map iv) ∧ Fit m ∧ Old H H') (fun v H' => v = amissV ∧ ¬ Fit m ∧ Old H H') := by
  refine CtX.mk Try.func18 rfl Try.ntmps18 rfl ?_
  intro W0 hW0
  have o0 : Old H H := Old.refl H
  have hn := mv.n
  refine KC.seq ?_
  refine KC.region ?_
  refine KL.opM (M.box rfl rfl rfl) rfl rfl rfl ?_
  rintro _ H1 ⟨rfl, n1⟩
  have z1 := n1.2.1
  have o0 := o0.trans n1.1
  have b1 := n1.2.2
  have bx := b1
  refine KL.op (R.assign rfl rfl) rfl rfl rfl ?_
  refine KL.nil ?_
  refine KQ.seq ?_
  refine KC.seq ?_
  refine KC.region ?_
  refine KL.op (R.buildL rfl Try.underlying73 zr73 [(0, 1), (1, 1), (2, 1)] (fun w => by kernel_rfl) rfl trivial rfl rfl trivial rfl) rfl rfl rfl ?_
  refine KL.opM (M.box rfl rfl rfl) rfl rfl rfl ?_
  rintro _ H2 ⟨rfl, n2⟩
  have z2 := n2.2.1
  have o0 := o0.trans n2.1
  have bx := (n2.1).blk bx
  have b2 := n2.2.2
  have bi := b2
  refine KL.op (R.assign rfl rfl) rfl rfl rfl ?_
  refine KL.nil ?_
  refine KQ.seq ?_
  refine KC.seq ?_
  refine KC.cutD (κ := Unit) [20, 21, 22, 23, 4, 25, 26, 27, 28, 29, 30, 24, 31, 32, 33, 34, 35, 36, 37] (fun _ => []) (fun _ Hl => ∃ mp, IS Hl (Array.size H1) (mp) (.slice none 0 0) (.slice none 0 0) m (zeros (pages m)) ([]) ([]) ∧ (∀ x r, m.mems = x :: r → newOk x.1 x.2) ∧ (0 ≤ pages m ∧ pages m ≤ 16) ∧ Hl[Array.size H]? = some (.cells [v0, v1, v2, v3, v4, v5, v6, v7, v8, v9, va, vb].toArray 33 (0, 0)) ∧ Old H Hl) ?_ ?_
  · skip
    refine KC.seq ?_
    refine KC.region ?_
    refine KL.op ((by first | exact R.fieldAddr rfl Try.underlying33 rfl rfl sz25 rfl | exact R.fieldAddrP rfl Try.underlying33 rfl rfl sz25 rfl)) rfl rfl rfl ?_
    refine KL.op (R.load rfl Try.underlying25 rfl rfl (by first | exact cell_of bx rfl | exact cell_of bi rfl | assumption)) rfl rfl rfl ?_
    refine KL.op (R.lenS rfl Try.underlying25 rfl mv.mm) rfl rfl rfl ?_
    refine KL.op (R.gtr rfl rfl rfl) rfl rfl rfl ?_
    refine KL.nil ?_
    refine KQ.seq ?_
    refine KC.iteL rfl ?_ ?_
    · intro hc23
      try simp only [decide_eq_true_eq, decide_eq_false_iff_not, Bool.not_eq_true', Bool.not_eq_false', Bool.and_eq_true, Bool.or_eq_false_iff] at hc23
      obtain ⟨lx, lr, hms, hgd⟩ := head_of (l := m.mems) (by omega)
      obtain ⟨hlc, hr1, hr2⟩ := mv.mm.limAt 0 (by omega)
      rw [hgd] at hlc hr1 hr2
      refine KC.seq ?_
      refine KC.region ?_
      refine KL.op (R.assign rfl rfl) rfl rfl rfl ?_
      refine KL.nil ?_
      refine KQ.seq ?_
      refine KC.seq ?_
      refine KC.region ?_
      refine KL.op (R.move rfl rfl) rfl rfl rfl ?_
      refine KL.op ((by first | exact R.fieldAddr rfl Try.underlying33 rfl rfl sz25 rfl | exact R.fieldAddrP rfl Try.underlying33 rfl rfl sz25 rfl)) rfl rfl rfl ?_
      refine KL.op (R.load rfl Try.underlying25 rfl rfl (by first | exact cell_of bx rfl | exact cell_of bi rfl | assumption)) rfl rfl rfl ?_
      refine KL.op (R.index (j := 0) rfl Try.underlying25 sz41 rfl rfl mv.mm rfl (by omega)) rfl rfl rfl ?_
      refine KL.op (R.loadAgg rfl Try.underlying41 rfl sz41 rfl (o0.cells hlc) rfl) rfl rfl rfl ?_
      refine KL.call rfl rfl rfl rfl Try.call24 rfl rfl rfl (New_any _ _ hr1 hr2) ?_
      rintro u H3 ⟨ox, hR⟩
      have zc_H3 := (ox).1
      have o0 := o0.trans ox
      have bx := (ox).blk bx
      have bi := (ox).blk bi
      rcases hR with ⟨hok, gm, vm, rfl, ma, f0⟩ | ⟨hno, rfl⟩
      · skip
        refine KL.op (R.move rfl rfl) rfl rfl rfl ?_
        refine KL.op (R.extract rfl rfl rfl) rfl rfl rfl ?_
        refine KL.op (R.extract rfl rfl rfl) rfl rfl rfl ?_
        refine KL.op (R.nilCheck rfl rfl) rfl rfl rfl ?_
        refine KL.op ((by first | exact R.fieldAddr rfl Try.underlying73 rfl rfl sz51 rfl | exact R.fieldAddrP rfl Try.underlying73 rfl rfl sz51 rfl)) rfl rfl rfl ?_
        have q2 := ma.lt2
        obtain ⟨f1, f2⟩ := id f0
        refine KL.opS (S.store rfl sz51 rfl rfl rfl rfl bi (by simp)) rfl rfl ?_
        rintro H4 ⟨u4, b4⟩
        have o0 := o0.upd u4 (by omega)
        have zu4 := u4.1
        have bx := ((u4).2 _ (by omega)).trans bx
        have bi := b4
        have is : IS H4 (Array.size H1) (.pointer (some ⟨gm, 0, none⟩)) (.slice none 0 0) (.slice none 0 0) m (zeros (pages m)) [] [] := ⟨bi, .inr ⟨by rw [hms]; exact List.cons_ne_nil _ _, gm, vm, _, rfl, (by rw [pages_cons hms]; exact ma.keepB (u4.2 gm (by omega)) (f2.imp id (fun e => u4.2 _ (by omega)))), ⟨by omega, f2.imp id (fun e => by omega)⟩, .inl rfl, .inl rfl⟩, Own.nil _ _ _ _ _ _, Own.nil _ _ _ _ _ _, .inl rfl⟩
        refine KL.op (R.assign rfl rfl) rfl rfl rfl ?_
        refine KL.nil ?_
        refine KQ.seq ?_
        refine KC.region ?_
        refine KL.op (R.move rfl rfl) rfl rfl rfl ?_
        refine KL.op ((R.eql rfl rfl rfl).val (congrArg Value.bool (decide_eq_true (by rfl)))) rfl rfl rfl ?_
        refine KL.callX rfl rfl rfl rfl Try.call25 rfl rfl rfl (asks_any _) ?_ ?_
        · rintro _ H5 ⟨rfl, hb, rfl⟩
          refine KQ.panThen ?_
          refine KQ.panThen ?_
          exact KQ.pan (⟨rfl, absurd hb (by decide), by assumption⟩)
        rintro _ _ ⟨hb, rfl⟩
        refine KL.nil ?_
        refine KQ.meet () ?_ ?_
        · exact (Ext.sub (by repeat (first | exact Ext.refl _ _ | refine Ext.put rfl ?_ | refine Ext.drop rfl ?_)))
        · exact ⟨_, is, fun x r e => (by rw [hms] at e; cases e; exact hok), by rw [pages_cons hms]; unfold newOk at hok; dsimp only [InR] at hr1; omega, bx, o0⟩
      · skip
        refine KL.op (R.move rfl rfl) rfl rfl rfl ?_
        refine KL.op (R.extract rfl rfl rfl) rfl rfl rfl ?_
        refine KL.op (R.extract rfl rfl rfl) rfl rfl rfl ?_
        refine KL.op (R.nilCheck rfl rfl) rfl rfl rfl ?_
        refine KL.op ((by first | exact R.fieldAddr rfl Try.underlying73 rfl rfl sz51 rfl | exact R.fieldAddrP rfl Try.underlying73 rfl rfl sz51 rfl)) rfl rfl rfl ?_
        refine KL.opS (S.store rfl sz51 rfl rfl rfl rfl bi (by simp)) rfl rfl ?_
        rintro H6 ⟨u6, b6⟩
        have o0 := o0.upd u6 (by omega)
        have zu6 := u6.1
        have bx := ((u6).2 _ (by omega)).trans bx
        have bi := b6
        refine KL.op (R.assign rfl rfl) rfl rfl rfl ?_
        refine KL.nil ?_
        refine KQ.seq ?_
        refine KC.region ?_
        refine KL.op (R.move rfl rfl) rfl rfl rfl ?_
        refine KL.op ((R.eql rfl rfl rfl).val (congrArg Value.bool (decide_eq_false (by decide)))) rfl rfl rfl ?_
        refine KL.callX rfl rfl rfl rfl Try.call25 rfl rfl rfl (asks_any _) ?_ ?_
        · rintro _ H7 ⟨rfl, hb, rfl⟩
          refine KQ.panThen ?_
          refine KQ.panThen ?_
          exact KQ.pan (⟨rfl, fun hf => hno (hf.y _ _ hms), by assumption⟩)
        rintro _ _ ⟨hb, rfl⟩
        refine KL.nil ?_
        refine KQ.meet () ?_ ?_
        · exact (Ext.sub (by repeat (first | exact Ext.refl _ _ | refine Ext.put rfl ?_ | refine Ext.drop rfl ?_)))
        · exact (absurd hb (by decide))
    · intro hc23
      try simp only [decide_eq_true_eq, decide_eq_false_iff_not, Bool.not_eq_true', Bool.not_eq_false', Bool.and_eq_true, Bool.or_eq_false_iff] at hc23
      have hms := nil_of (l := m.mems) (by omega)
      refine KC.skip ?_
      refine KQ.meet () ?_ ?_
      · exact (Ext.sub (by repeat (first | exact Ext.refl _ _ | refine Ext.put rfl ?_ | refine Ext.drop rfl ?_)))
      · exact ⟨_, ⟨bi, .inl ⟨hms, rfl⟩, Own.nil _ _ _ _ _ _, Own.nil _ _ _ _ _ _, .inl rfl⟩, fun x r e => (by rw [hms] at e; cases e), by rw [pages_nil hms]; omega, bx, o0⟩
  · rintro _ H8 ⟨mp, is, hfm, hpg, bx, o0⟩
    have zis := is.lt
    refine KQ.seq ?_
    refine KC.seq ?_
    refine KC.cutD (κ := Unit) [38, 39, 40, 41, 42, 43, 44, 45, 46, 47, 48, 49, 50, 51, 52, 53, 54, 55, 56, 57, 58, 59] (fun _ => []) (fun _ Hl => ∃ tv, IS Hl (Array.size H1) (mp) (tv) (.slice none 0 0) m (zeros (pages m)) (tab0 m) ([]) ∧ (∀ x r, m.tables = x :: r → x.1 ≤ 1024) ∧ Hl[Array.size H]? = some (.cells [v0, v1, v2, v3, v4, v5, v6, v7, v8, v9, va, vb].toArray 33 (0, 0)) ∧ Old H Hl) ?_ ?_
    · skip
      refine KC.seq ?_
      refine KC.region ?_
      refine KL.op ((by first | exact R.fieldAddr rfl Try.underlying33 rfl rfl sz25 rfl | exact R.fieldAddrP rfl Try.underlying33 rfl rfl sz25 rfl)) rfl rfl rfl ?_
      refine KL.op (R.load rfl Try.underlying25 rfl rfl (by first | exact cell_of bx rfl | assumption)) rfl rfl rfl ?_
      refine KL.op (R.lenS rfl Try.underlying25 rfl mv.a) rfl rfl rfl ?_
      refine KL.op (R.gtr rfl rfl rfl) rfl rfl rfl ?_
      refine KL.nil ?_
      refine KQ.seq ?_
      refine KC.iteL rfl ?_ ?_
      · intro hc41
        try simp only [decide_eq_true_eq, decide_eq_false_iff_not, Bool.not_eq_true', Bool.not_eq_false', Bool.and_eq_true, Bool.or_eq_false_iff] at hc41
        obtain ⟨tx, tr, hts, hgd⟩ := head_of (l := m.tables) (by omega)
        obtain ⟨hlc, hr1, hr2⟩ := mv.a.limAt 0 (by omega)
        rw [hgd] at hlc hr1 hr2
        dsimp only [InR] at hr1
        refine KC.seq ?_
        refine KC.region ?_
        refine KL.op ((by first | exact R.fieldAddr rfl Try.underlying33 rfl rfl sz25 rfl | exact R.fieldAddrP rfl Try.underlying33 rfl rfl sz25 rfl)) rfl rfl rfl ?_
        refine KL.op (R.load rfl Try.underlying25 rfl rfl (by first | exact cell_of bx rfl | assumption)) rfl rfl rfl ?_
        refine KL.op (R.index (j := 0) rfl Try.underlying25 sz41 rfl rfl mv.a rfl (by omega)) rfl rfl rfl ?_
        refine KL.op ((by first | exact R.fieldAddr rfl Try.underlying41 rfl rfl sz28 rfl | exact R.fieldAddrP rfl Try.underlying41 rfl rfl sz28 rfl)) rfl rfl rfl ?_
        refine KL.op (R.load rfl Try.underlying28 rfl rfl (o0.cells hlc 0 _ rfl)) rfl rfl rfl ?_
        refine KL.op (R.leq rfl rfl rfl) rfl rfl rfl ?_
        refine KL.callX rfl rfl rfl rfl Try.call25 rfl rfl rfl (asks_any _) ?_ ?_
        · rintro _ H9 ⟨rfl, hb, rfl⟩
          refine KQ.panThen ?_
          refine KQ.panThen ?_
          refine KQ.panThen ?_
          exact KQ.pan (⟨rfl, fun hf => absurd (hf.t _ _ hts) (of_decide_eq_false hb), by assumption⟩)
        rintro _ _ ⟨hb, rfl⟩
        have hb := of_decide_eq_true hb
        refine KL.nil ?_
        refine KQ.seq ?_
        refine KC.region ?_
        refine KL.op (R.move rfl rfl) rfl rfl rfl ?_
        refine KL.opM (M.lit rfl Try.underlying42 zs2 (by decide) rfl rfl rfl) rfl rfl rfl ?_
        rintro _ H10 ⟨rfl, n10⟩
        have z10 := n10.2.1
        have o0 := o0.trans n10.1
        have is := is.old n10.1
        have bx := (n10.1).blk bx
        have b10 := n10.2.2
        have s1 : Sl 1 (EInt .i64) H10 _ [(-1 : Int)] := Sl.lits (l := [(-1 : Int)]) n10 rfl (by simp) (by intro y hy; simp only [List.mem_cons, List.not_mem_nil, or_false] at hy; subst hy; dsimp only [InR]; omega)
        refine KL.op ((by first | exact R.fieldAddr rfl Try.underlying33 rfl rfl sz25 rfl | exact R.fieldAddrP rfl Try.underlying33 rfl rfl sz25 rfl)) rfl rfl rfl ?_
        refine KL.op (R.load rfl Try.underlying25 rfl rfl (by first | exact cell_of bx rfl | assumption)) rfl rfl rfl ?_
        refine KL.op (R.index (j := 0) rfl Try.underlying25 sz41 rfl rfl mv.a rfl (by omega)) rfl rfl rfl ?_
        refine KL.op ((by first | exact R.fieldAddr rfl Try.underlying41 rfl rfl sz28 rfl | exact R.fieldAddrP rfl Try.underlying41 rfl rfl sz28 rfl)) rfl rfl rfl ?_
        refine KL.op (R.load rfl Try.underlying28 rfl rfl (o0.cells hlc 0 _ rfl)) rfl rfl rfl ?_
        refine KL.op ((R.convI rfl Try.underlying28 Try.underlying3 rfl (by dsimp only [InR]; omega)).val (congrArg (Value.int .i64) (show tx.1 = ((tx.1.toNat : Nat) : Int) by omega))) rfl rfl rfl ?_
        have isB := is
        have zB := is.lt
        refine KL.call rfl rfl rfl rfl Try.call26 rfl rfl rfl (Repeat_any (-1) tx.1.toNat (by omega) _ s1) ?_
        rintro vt H11 ⟨wt, ox⟩
        have zc_H11 := (ox).1
        have o0 := o0.trans ox
        have is := is.old ox
        have bx := (ox).blk bx
        have wtB := wt
        have oxB := ox
        have bi := is.b
        have hwt := wt.lt
        refine KL.op (R.nilCheck rfl rfl) rfl rfl rfl ?_
        refine KL.op ((by first | exact R.fieldAddr rfl Try.underlying73 rfl rfl sz42 rfl | exact R.fieldAddrP rfl Try.underlying73 rfl rfl sz42 rfl)) rfl rfl rfl ?_
        refine KL.opS (S.store rfl sz42 rfl rfl wt.cells1 wt.one bi (by simp)) rfl rfl ?_
        rintro H12 ⟨u12, b12⟩
        have o0 := o0.upd u12 (by omega)
        have zu12 := u12.1
        have bx := ((u12).2 _ (by omega)).trans bx
        have wt := wt.upd u12 (by first | exact .inl rfl | exact .inr (by omega) | exact wt.lt.imp id (fun h => by omega))
        have bi := b12
        have is := isB.setT oxB wtB u12 bi
        refine KL.nil ?_
        refine KQ.meet () ?_ ?_
        · exact (Ext.sub (by repeat (first | exact Ext.refl _ _ | refine Ext.put rfl ?_ | refine Ext.drop rfl ?_)))
        · exact (by
            first
            | exact ⟨_, by rw [show tab0 m = List.replicate tx.1.toNat (-1) from by unfold tab0; rw [tlen_cons hts]]; exact is, fun x r e => (by rw [hts] at e; cases e; exact hb), bx, o0⟩
            | exact ⟨_, by rw [show tab0 m = [] from by unfold tab0; rw [tlen_nil hts]; rfl]; exact is, fun x r e => (by rw [hts] at e; cases e), bx, o0⟩)
      · intro hc41
        try simp only [decide_eq_true_eq, decide_eq_false_iff_not, Bool.not_eq_true', Bool.not_eq_false', Bool.and_eq_true, Bool.or_eq_false_iff] at hc41
        have hts := nil_of (l := m.tables) (by omega)
        refine KC.skip ?_
        refine KQ.meet () ?_ ?_
        · exact (Ext.sub (by repeat (first | exact Ext.refl _ _ | refine Ext.put rfl ?_ | refine Ext.drop rfl ?_)))
        · exact (by
            first
            | exact ⟨_, by rw [show tab0 m = List.replicate tx.1.toNat (-1) from by unfold tab0; rw [tlen_cons hts]]; exact is, fun x r e => (by rw [hts] at e; cases e; exact hb), bx, o0⟩
            | exact ⟨_, by rw [show tab0 m = [] from by unfold tab0; rw [tlen_nil hts]; rfl]; exact is, fun x r e => (by rw [hts] at e; cases e), bx, o0⟩)
    · rintro _ H13 ⟨tv, is, hft, bx, o0⟩
      have zis := is.lt
      refine KQ.seq ?_
      refine KC.seq ?_
      refine KC.region ?_
      refine KL.op ((by first | exact R.fieldAddr rfl Try.underlying33 rfl rfl sz26 rfl | exact R.fieldAddrP rfl Try.underlying33 rfl rfl sz26 rfl)) rfl rfl rfl ?_
      refine KL.op (R.load rfl Try.underlying26 rfl rfl (by first | exact cell_of bx rfl | assumption)) rfl rfl rfl ?_
      refine KL.op (R.lenS rfl Try.underlying26 rfl mv.g) rfl rfl rfl ?_
      refine KL.op (R.leq rfl rfl rfl) rfl rfl rfl ?_
      refine KL.callX rfl rfl rfl rfl Try.call25 rfl rfl rfl (asks_any _) ?_ ?_
      · rintro _ H14 ⟨rfl, hb, rfl⟩
        refine KQ.panThen ?_
        exact KQ.pan (⟨rfl, fun hf => absurd (show (m.globs.length : Int) ≤ 128 by have := hf.g; omega) (of_decide_eq_false hb), by assumption⟩)
      rintro _ _ ⟨hb, rfl⟩
      have hfg := of_decide_eq_true hb
      refine KL.nil ?_
      refine KQ.seq ?_
      refine KC.seq ?_
      refine KC.seq ?_
      refine KC.region ?_
      refine KL.op ((by first | exact R.fieldAddr rfl Try.underlying33 rfl rfl sz26 rfl | exact R.fieldAddrP rfl Try.underlying33 rfl rfl sz26 rfl)) rfl rfl rfl ?_
      refine KL.op (R.load rfl Try.underlying26 rfl rfl (by first | exact cell_of bx rfl | assumption)) rfl rfl rfl ?_
      refine KL.op (R.lenS rfl Try.underlying26 rfl mv.g) rfl rfl rfl ?_
      refine KL.op (R.move rfl rfl) rfl rfl rfl ?_
      refine KL.nil ?_
      refine KQ.seq ?_
      refine KC.block ?_
      refine KC.loopD (κ := Nat × Value) [69, 70, 71, 6, 72, 73, 74, 75, 76, 77, 78, 79, 80, 81, 82, 83, 84, 68] (fun k => [(68, .int .i64 (k.1 : Nat))]) (fun k Hl => k.1 ≤ m.globs.length ∧ IS Hl (Array.size H1) (mp) (tv) (k.2) m (zeros (pages m)) (tab0 m) ((m.globs.take k.1).map iv) ∧ Hl[Array.size H]? = some (.cells [v0, v1, v2, v3, v4, v5, v6, v7, v8, v9, va, vb].toArray 33 (0, 0)) ∧ Old H Hl) (fun k => m.globs.length - k.1) (0, .slice none 0 0) ?_ ?_ ?_
      · exact (Sub.cons rfl (Ext.sub (Ext.refl _ _)))
      · exact ⟨Nat.zero_le _, by simpa using is, bx, o0⟩
      · rintro ⟨k, gv⟩ H15 ⟨hk, is, bx, o0⟩
        have zl_H15 := o0.1
        dsimp only at hk is
        have zis := is.lt
        refine KC.seq ?_
        refine KC.region ?_
        refine KL.op (R.lss rfl rfl rfl) rfl rfl rfl ?_
        refine KL.nil ?_
        refine KQ.seq ?_
        refine KC.seq ?_
        refine KC.iteL rfl ?_ ?_
        · intro hc69
          try simp only [decide_eq_true_eq, decide_eq_false_iff_not, Bool.not_eq_true', Bool.not_eq_false', Bool.and_eq_true, Bool.or_eq_false_iff] at hc69
          obtain ⟨tt, bb, vu, hcx, hsu⟩ := mv.g.giAt k (by omega)
          refine KC.skip ?_
          refine KQ.seq ?_
          refine KC.seq ?_
          refine KC.block ?_
          refine KC.seq ?_
          refine KC.region ?_
          refine KL.op (R.index (j := k) rfl Try.underlying26 sz65 rfl rfl mv.g rfl (by omega)) rfl rfl rfl ?_
          refine KL.op (R.loadAgg rfl Try.underlying65 rfl sz65 rfl (o0.cells hcx) rfl) rfl rfl rfl ?_
          have oP : Old H15 H15 := Old.refl _
          refine KL.opM (M.alloc rfl zr65 rfl) rfl rfl rfl ?_
          rintro _ H16 ⟨rfl, n16⟩
          have z16 := n16.2.1
          have o0 := o0.trans n16.1
          have bx := (n16.1).blk bx
          have oP := oP.trans n16.1
          have b16 := n16.2.2
          have bv := b16
          refine KL.opS (S.storeAgg rfl sz65 rfl rfl (rfl) (by intro z hz; simp only [List.mem_cons, List.not_mem_nil, or_false] at hz; rcases hz with rfl | rfl | rfl <;> first | rfl | exact hsu.one) bv (by simp)) rfl rfl ?_
          rintro H17 ⟨u17, b17⟩
          have o0 := o0.upd u17 (by omega)
          have zu17 := u17.1
          have bx := ((u17).2 _ (by omega)).trans bx
          have oP := oP.upd u17 (by omega)
          have bv := b17
          rw [over_all (by rfl)] at bv
          have is := is.old oP
          refine KL.nil ?_
          refine KQ.seq ?_
          refine KC.text (clOf [(7, 2), (8, 2), (9, 2), (12, 2)]) (fun j Hc => (j = 4 → Hc[Array.size H1]? = some (.cells [mp, tv, gv].toArray 73 (0, 0))) ∧ (j = 6 ∨ j = 6 → Hc[(Array.size H15)]? = some (.cells [.int .u8 tt, .bool bb, vu].toArray 65 (0, 0)))) (by kernel_rfl) (by kernel_rfl) (fun _ => ⟨fun _ => is.b, fun _ => bv⟩) ?_
          refine KP.op rfl (fun Hg hg => R.move rfl rfl) rfl rfl rfl ?_
          refine KP.op rfl (fun Hg hg => R.move rfl rfl) rfl rfl rfl ?_
          refine KP.op rfl (fun Hg hg => R.nilCheck rfl rfl) rfl rfl rfl ?_
          refine KP.op rfl (fun Hg hg => (by first | exact R.fieldAddr rfl Try.underlying73 rfl rfl sz71 rfl | exact R.fieldAddrP rfl Try.underlying73 rfl rfl sz71 rfl)) rfl rfl rfl ?_
          refine KP.op rfl (fun Hg hg => R.load rfl Try.underlying71 rfl rfl (cell_of (hg.1 rfl) rfl)) rfl rfl rfl ?_
          refine KP.op rfl (fun Hg hg => (by first | exact R.fieldAddr rfl Try.underlying65 rfl rfl sz43 rfl | exact R.fieldAddrP rfl Try.underlying65 rfl rfl sz43 rfl)) rfl rfl rfl ?_
          refine KP.op rfl (fun Hg hg => R.load rfl Try.underlying43 rfl rfl (cell_of (hg.2 (by simp)) rfl)) rfl rfl rfl ?_
          refine KP.call rfl rfl rfl rfl rfl Try.call27 rfl rfl rfl (value_any _ _ (hsu.old o0)) (fun _ _ hR j _ _ => ⟨fun _ => hR.2 ▸ is.b, fun _ => hR.2 ▸ bv⟩) ?_
          rintro _ _ ⟨rfl, rfl⟩
          refine KP.opM rfl (M.lit rfl Try.underlying71 zs39 (by decide) rfl rfl rfl) rfl rfl rfl (fun _ _ hR j _ _ => ⟨fun _ => hR.2.1.blk is.b, fun _ => hR.2.1.blk bv⟩) ?_
          rintro _ H18 ⟨rfl, n18⟩
          have z18 := n18.2.1
          have o0 := o0.trans n18.1
          have bx := (n18.1).blk bx
          have bv := (n18.1).blk bv
          have is := is.old n18.1
          have b18 := n18.2.2
          have se : Sl 1 (EInt .u64) H18 _ [iv (m.globs.getD k default)] := Sl.lits (l := [iv (m.globs.getD k default)]) n18 rfl (by simp) (by intro y hy; simp only [List.mem_cons, List.not_mem_nil, or_false] at hy; subst hy; exact iv_R _)
          have wg := is.gl
          have isP := is
          have bi := is.b
          have zis := is.lt
          have lt19 := wg.lt
          refine KP.opM rfl (M.appendN rfl Try.underlying71 inf39 rfl (by decide) rfl rfl wg (by exact se) (fun _ _ h _ => h) (by omega) (by simp only [List.length_map, List.length_take, List.length_singleton]; omega) (by unfold maxLen; simp only [List.length_map, List.length_take, List.length_singleton]; omega)) rfl rfl rfl (fun _ _ hR j _ hj2 => ⟨fun hj => by subst hj; exact absurd (by decide +kernel) hj2, fun hj => by rcases hj with rfl | rfl <;> exact absurd (by decide +kernel) hj2⟩) ?_
          rintro vn H19 ⟨w19, g19, nx19⟩
          try dsimp only at g19 nx19
          have ob19 := g19.oldB wg (by omega)
          have o0 := o0.then ob19 (by omega)
          have z19 := ob19.1
          have bx := (g19.2 _ (blk_lt bx) (by first | exact .inr (by omega) | exact .inl rfl | exact lt19.imp id (fun h => by omega))).trans bx
          have bi := (g19.2 _ (blk_lt bi) (by first | exact .inr (by omega) | exact .inl rfl | exact lt19.imp id (fun h => by omega))).trans bi
          have wg := w19
          have gA := g19
          have nxA := nx19
          refine KP.op rfl (fun Hg hg => R.nilCheck rfl rfl) rfl rfl rfl ?_
          refine KP.op rfl (fun Hg hg => (by first | exact R.fieldAddr rfl Try.underlying73 rfl rfl sz71 rfl | exact R.fieldAddrP rfl Try.underlying73 rfl rfl sz71 rfl)) rfl rfl rfl ?_
          refine KP.opS rfl (S.store rfl sz71 rfl rfl wg.cells1 wg.one bi (by simp)) rfl rfl (fun _ h j hj1 hj2 => ⟨fun hj => by subst hj; exact absurd (by decide +kernel) hj2, fun hj => by rcases hj with rfl | rfl <;> exact absurd (by decide +kernel) hj2⟩) ?_
          rintro H20 ⟨u20, b20⟩
          have o0 := o0.upd u20 (by omega)
          have zu20 := u20.1
          have bx := ((u20).2 _ (by omega)).trans bx
          have wg := wg.upd u20 (by first | exact .inl rfl | exact .inr (by omega) | exact wg.lt.imp id (fun h => by omega))
          have bi := b20
          have is := isP.push (by omega) (fun q h1 h2 h3 => (u20.2 q h2).trans (gA.2 q h1 h3)) bi wg nxA
          refine KP.nil ?_
          refine KQ.normBlock ?_
          refine KQ.seq ?_
          refine KC.region ?_
          refine KL.op ((R.add rfl rfl rfl (by dsimp only [InR]; omega)).val (congrArg (Value.int .i64) (show (k : Int) + 1 = ((k + 1 : Nat) : Int) by omega))) rfl rfl rfl ?_
          refine KL.op (R.move rfl rfl) rfl rfl rfl ?_
          refine KL.nil ?_
          refine KQ.again ((k + 1, vn)) ?_ ?_ ?_
          · exact (Sub.cons rfl (Ext.sub (by repeat (first | exact Ext.refl _ _ | refine Ext.put rfl ?_ | refine Ext.drop rfl ?_))))
          · show m.globs.length - (k + 1) < m.globs.length - k; omega
          · exact ⟨by show k + 1 ≤ _; omega, by dsimp only; rw [take_succ_of (by omega), List.map_append]; exact is, bx, o0⟩
        · intro hc69
          try simp only [decide_eq_true_eq, decide_eq_false_iff_not, Bool.not_eq_true', Bool.not_eq_false', Bool.and_eq_true, Bool.or_eq_false_iff] at hc69
          have hkl : k = m.globs.length := by omega
          rw [hkl, List.take_length] at is
          refine KC.exit ?_
          refine KQ.exitThen ?_
          refine KQ.exitThen ?_
          refine KQ.hit ?_
          refine KQ.seq ?_
          refine KC.seq ?_
          refine KC.seq ?_
          refine KC.region ?_
          refine KL.op ((by first | exact R.fieldAddr rfl Try.underlying33 rfl rfl sz29 rfl | exact R.fieldAddrP rfl Try.underlying33 rfl rfl sz29 rfl)) rfl rfl rfl ?_
          refine KL.op (R.load rfl Try.underlying29 rfl rfl (by first | exact cell_of bx rfl | assumption)) rfl rfl rfl ?_
          refine KL.op (R.lenS rfl Try.underlying29 rfl mv.e) rfl rfl rfl ?_
          refine KL.op (R.move rfl rfl) rfl rfl rfl ?_
          refine KL.nil ?_
          refine KQ.seq ?_
          refine KC.block ?_
          refine KC.loopD (κ := Nat) [89, 90, 91, 8, 92, 93, 94, 95, 96, 97, 98, 99, 100, 101, 102, 103, 104, 105, 106, 107, 88] (fun k => [(88, .int .i64 (k : Nat))]) (fun k Hl => k ≤ m.elems.length ∧ IS Hl (Array.size H1) (mp) (tv) (gv) m (zeros (pages m)) (tab0 m) (m.globs.map iv) ∧ Hl[Array.size H]? = some (.cells [v0, v1, v2, v3, v4, v5, v6, v7, v8, v9, va, vb].toArray 33 (0, 0)) ∧ Old H Hl ∧ (∀ e ∈ m.elems.take k, iv e.1 + e.2.length ≤ (tlen m : Nat))) (fun k => m.elems.length - k) 0 ?_ ?_ ?_
          · exact (Sub.cons rfl (Ext.sub (Ext.refl _ _)))
          · exact ⟨Nat.zero_le _, is, bx, o0, by simp⟩
          · rintro k H21 ⟨hk, is, bx, o0, hfe⟩
            have zl_H21 := o0.1
            have zis := is.lt
            refine KC.seq ?_
            refine KC.region ?_
            refine KL.op (R.lss rfl rfl rfl) rfl rfl rfl ?_
            refine KL.nil ?_
            refine KQ.seq ?_
            refine KC.seq ?_
            refine KC.iteL rfl ?_ ?_
            · intro hc89
              try simp only [decide_eq_true_eq, decide_eq_false_iff_not, Bool.not_eq_true', Bool.not_eq_false', Bool.and_eq_true, Bool.or_eq_false_iff] at hc89
              obtain ⟨tt, vu, vw, hcx, hsu, hsw, hlw⟩ := mv.e.elAt k (by omega)
              have hiv := iv_R (m.elems.getD k default).1
              refine KC.skip ?_
              refine KQ.seq ?_
              refine KC.seq ?_
              refine KC.block ?_
              refine KC.seq ?_
              refine KC.region ?_
              refine KL.op (R.index (j := k) rfl Try.underlying29 sz45 rfl rfl mv.e rfl (by omega)) rfl rfl rfl ?_
              refine KL.op (R.loadAgg rfl Try.underlying45 rfl sz45 rfl (o0.cells hcx) rfl) rfl rfl rfl ?_
              have oP : Old H21 H21 := Old.refl _
              refine KL.opM (M.alloc rfl zr45 rfl) rfl rfl rfl ?_
              rintro _ H22 ⟨rfl, n22⟩
              have z22 := n22.2.1
              have o0 := o0.trans n22.1
              have bx := (n22.1).blk bx
              have oP := oP.trans n22.1
              have b22 := n22.2.2
              have bv := b22
              refine KL.opS (S.storeAgg rfl sz45 rfl rfl (rfl) (by intro z hz; simp only [List.mem_cons, List.not_mem_nil, or_false] at hz; rcases hz with rfl | rfl | rfl <;> first | rfl | exact hsu.one | exact hsw.one) bv (by simp)) rfl rfl ?_
              rintro H23 ⟨u23, b23⟩
              have o0 := o0.upd u23 (by omega)
              have zu23 := u23.1
              have bx := ((u23).2 _ (by omega)).trans bx
              have oP := oP.upd u23 (by omega)
              have bv := b23
              rw [over_all (by rfl)] at bv
              have is := is.old oP
              refine KL.nil ?_
              refine KQ.seq ?_
              refine KC.order [0, 1, 2, 3, 4, 5, 6, 7, 8, 9, 10, 11, 12, 13, 14] (clOf [(2, 2), (13, 2), (14, 3)]) (fun j Hc => (j = 10 → Hc[Array.size H1]? = some (.cells [mp, tv, gv].toArray 73 (0, 0))) ∧ (j = 1 ∨ j = 4 → Hc[(Array.size H21)]? = some (.cells [.int .u32 tt, vu, vw].toArray 45 (0, 0)))) (fun v Hx => v = amissV ∧ ¬ Fit m ∧ Hx = H23) (by kernel_rfl) (by kernel_rfl) (by kernel_rfl) rfl (fun _ => ⟨fun _ => is.b, fun _ => bv⟩) (fun vx Hx hx => KQ.panBlock (KQ.panThen (KQ.panThen (KQ.panBlock (KQ.panThen (KQ.pan ⟨hx.1, hx.2.1, by rw [hx.2.2]; exact o0⟩)))))) ?_
              refine KO.op rfl rfl (fun Hg hg => (by first | exact R.fieldAddr rfl Try.underlying45 rfl rfl sz43 rfl | exact R.fieldAddrP rfl Try.underlying45 rfl rfl sz43 rfl)) rfl rfl rfl ?_
              refine KO.op rfl rfl (fun Hg hg => R.load rfl Try.underlying43 rfl rfl (cell_of (hg.2 (by simp)) rfl)) rfl rfl rfl ?_
              refine KO.call rfl rfl rfl rfl rfl rfl Try.call27 rfl rfl rfl (value_any _ _ (hsu.old o0)) (fun _ _ hR j _ _ => ⟨fun _ => hR.2 ▸ is.b, fun _ => hR.2 ▸ bv⟩) ?_
              rintro _ _ ⟨rfl, rfl⟩
              refine KO.op rfl rfl (fun Hg hg => (by first | exact R.fieldAddr rfl Try.underlying45 rfl rfl sz24 rfl | exact R.fieldAddrP rfl Try.underlying45 rfl rfl sz24 rfl)) rfl rfl rfl ?_
              refine KO.op rfl rfl (fun Hg hg => R.load rfl Try.underlying24 rfl rfl (cell_of (hg.2 (by simp)) rfl)) rfl rfl rfl ?_
              refine KO.op rfl rfl (fun Hg hg => R.lenS rfl Try.underlying24 rfl hsw) rfl rfl rfl ?_
              refine KO.op rfl rfl (fun Hg hg => R.convI rfl Try.underlying3 Try.underlying39 rfl (by dsimp only [InR]; omega)) rfl rfl rfl ?_
              refine KO.op rfl rfl (fun Hg hg => R.move rfl rfl) rfl rfl rfl ?_
              refine KO.op rfl rfl (fun Hg hg => R.nilCheck rfl rfl) rfl rfl rfl ?_
              refine KO.op rfl rfl (fun Hg hg => (by first | exact R.fieldAddr rfl Try.underlying73 rfl rfl sz42 rfl | exact R.fieldAddrP rfl Try.underlying73 rfl rfl sz42 rfl)) rfl rfl rfl ?_
              refine KO.op rfl rfl (fun Hg hg => R.load rfl Try.underlying42 rfl rfl (cell_of (hg.1 rfl) rfl)) rfl rfl rfl ?_
              refine KO.op rfl rfl (fun Hg hg => (R.lenO rfl Try.underlying42 rfl is.t).val (congrArg (Value.int .i64) (show ((tab0 m).length : Int) = (tlen m : Nat) by rw [tab0_len]))) rfl rfl rfl ?_
              have htl : tlen m ≤ 1024 := by
                cases htb : m.tables with
                | nil => rw [tlen_nil htb]; omega
                | cons x r => rw [tlen_cons htb]; have := hft x r htb; omega
              refine KO.op rfl rfl (fun Hg hg => R.convI rfl Try.underlying3 Try.underlying39 rfl (by dsimp only [InR]; omega)) rfl rfl rfl ?_
              refine KO.call rfl rfl rfl rfl rfl rfl Try.call28 rfl rfl rfl (fits_any _ _ _ (by dsimp only [InR]; omega) (by dsimp only [InR]; omega) (by dsimp only [InR]; omega)) (fun _ _ hR j _ _ => ⟨fun _ => hR.2 ▸ is.b, fun _ => hR.2 ▸ bv⟩) ?_
              rintro _ _ ⟨rfl, rfl⟩
              refine KO.callX rfl rfl rfl rfl rfl rfl Try.call25 rfl rfl rfl ((asks_any _).mono (fun _ _ h => h) (fun v Hx hx => ⟨hx.1, fun hf => absurd (hf.e _ (getD_mem (l := m.elems) (by omega))) (of_decide_eq_false hx.2.1), hx.2.2⟩)) (fun _ _ hR j _ _ => ⟨fun _ => hR.2 ▸ is.b, fun _ => hR.2 ▸ bv⟩) ?_
              rintro _ _ ⟨hb, rfl⟩
              refine KO.nil ?_
              refine KQ.normBlock ?_
              refine KQ.seq ?_
              refine KC.region ?_
              refine KL.op ((R.add rfl rfl rfl (by dsimp only [InR]; omega)).val (congrArg (Value.int .i64) (show (k : Int) + 1 = ((k + 1 : Nat) : Int) by omega))) rfl rfl rfl ?_
              refine KL.op (R.move rfl rfl) rfl rfl rfl ?_
              refine KL.nil ?_
              refine KQ.again (k + 1) ?_ ?_ ?_
              · exact (Sub.cons rfl (Ext.sub (by repeat (first | exact Ext.refl _ _ | refine Ext.put rfl ?_ | refine Ext.drop rfl ?_))))
              · omega
              · exact ⟨by omega, is, bx, o0, by
                  intro e he
                  rw [take_succ_of (by omega)] at he
                  rcases List.mem_append.1 he with he | he
                  · exact hfe e he
                  · simp only [List.mem_cons, List.not_mem_nil, or_false] at he; subst he; exact of_decide_eq_true hb⟩
            · intro hc89
              try simp only [decide_eq_true_eq, decide_eq_false_iff_not, Bool.not_eq_true', Bool.not_eq_false', Bool.and_eq_true, Bool.or_eq_false_iff] at hc89
              have hkl : k = m.elems.length := by omega
              rw [hkl, List.take_length] at hfe
              refine KC.exit ?_
              refine KQ.exitThen ?_
              refine KQ.exitThen ?_
              refine KQ.hit ?_
              refine KQ.seq ?_
              refine KC.seq ?_
              refine KC.seq ?_
              refine KC.region ?_
              refine KL.op ((by first | exact R.fieldAddr rfl Try.underlying33 rfl rfl sz31 rfl | exact R.fieldAddrP rfl Try.underlying33 rfl rfl sz31 rfl)) rfl rfl rfl ?_
              refine KL.op (R.load rfl Try.underlying31 rfl rfl (by first | exact cell_of bx rfl | assumption)) rfl rfl rfl ?_
              refine KL.op (R.lenS rfl Try.underlying31 rfl mv.d) rfl rfl rfl ?_
              refine KL.op (R.move rfl rfl) rfl rfl rfl ?_
              refine KL.nil ?_
              refine KQ.seq ?_
              refine KC.block ?_
              refine KC.loopD (κ := Nat) [112, 113, 114, 10, 115, 116, 117, 118, 119, 120, 121, 122, 123, 124, 125, 126, 127, 128, 129, 130, 131, 111] (fun k => [(111, .int .i64 (k : Nat))]) (fun k Hl => k ≤ m.datas.length ∧ IS Hl (Array.size H1) (mp) (tv) (gv) m (zeros (pages m)) (tab0 m) (m.globs.map iv) ∧ Hl[Array.size H]? = some (.cells [v0, v1, v2, v3, v4, v5, v6, v7, v8, v9, va, vb].toArray 33 (0, 0)) ∧ Old H Hl ∧ (∀ e ∈ m.datas.take k, iv e.1 + e.2.length ≤ pages m * 65536)) (fun k => m.datas.length - k) 0 ?_ ?_ ?_
              · exact (Sub.cons rfl (Ext.sub (Ext.refl _ _)))
              · exact ⟨Nat.zero_le _, is, bx, o0, by simp⟩
              · rintro k H24 ⟨hk, is, bx, o0, hfd⟩
                have zl_H24 := o0.1
                have zis := is.lt
                refine KC.seq ?_
                refine KC.region ?_
                refine KL.op (R.lss rfl rfl rfl) rfl rfl rfl ?_
                refine KL.nil ?_
                refine KQ.seq ?_
                refine KC.seq ?_
                refine KC.iteL rfl ?_ ?_
                · intro hc112
                  try simp only [decide_eq_true_eq, decide_eq_false_iff_not, Bool.not_eq_true', Bool.not_eq_false', Bool.and_eq_true, Bool.or_eq_false_iff] at hc112
                  obtain ⟨tt, vu, vw, hcx, hsu, hsw, hlw⟩ := mv.d.daAt k (by omega)
                  have hiv := iv_R (m.datas.getD k default).1
                  refine KC.skip ?_
                  refine KQ.seq ?_
                  refine KC.seq ?_
                  refine KC.block ?_
                  refine KC.seq ?_
                  refine KC.region ?_
                  refine KL.op (R.index (j := k) rfl Try.underlying31 sz55 rfl rfl mv.d rfl (by omega)) rfl rfl rfl ?_
                  refine KL.op (R.loadAgg rfl Try.underlying55 rfl sz55 rfl (o0.cells hcx) rfl) rfl rfl rfl ?_
                  have oP : Old H24 H24 := Old.refl _
                  refine KL.opM (M.alloc rfl zr55 rfl) rfl rfl rfl ?_
                  rintro _ H25 ⟨rfl, n25⟩
                  have z25 := n25.2.1
                  have o0 := o0.trans n25.1
                  have bx := (n25.1).blk bx
                  have oP := oP.trans n25.1
                  have b25 := n25.2.2
                  have bv := b25
                  refine KL.opS (S.storeAgg rfl sz55 rfl rfl (rfl) (by intro z hz; simp only [List.mem_cons, List.not_mem_nil, or_false] at hz; rcases hz with rfl | rfl | rfl <;> first | rfl | exact hsu.one | exact hsw.one) bv (by simp)) rfl rfl ?_
                  rintro H26 ⟨u26, b26⟩
                  have o0 := o0.upd u26 (by omega)
                  have zu26 := u26.1
                  have bx := ((u26).2 _ (by omega)).trans bx
                  have oP := oP.upd u26 (by omega)
                  have bv := b26
                  rw [over_all (by rfl)] at bv
                  have is := is.old oP
                  refine KL.nil ?_
                  refine KQ.seq ?_
                  refine KC.order [0, 1, 2, 3, 4, 5, 6, 7, 8, 9, 10, 11, 12, 13, 14, 15] (clOf [(2, 2), (11, 2), (14, 2), (15, 3)]) (fun j Hc => (j = 10 → Hc[Array.size H1]? = some (.cells [mp, tv, gv].toArray 73 (0, 0))) ∧ (j = 1 ∨ j = 4 → Hc[(Array.size H24)]? = some (.cells [.int .u32 tt, vu, vw].toArray 55 (0, 0)))) (fun v Hx => v = amissV ∧ ¬ Fit m ∧ Hx = H26) (by kernel_rfl) (by kernel_rfl) (by kernel_rfl) rfl (fun _ => ⟨fun _ => is.b, fun _ => bv⟩) (fun vx Hx hx => KQ.panBlock (KQ.panThen (KQ.panThen (KQ.panBlock (KQ.panThen (KQ.pan ⟨hx.1, hx.2.1, by rw [hx.2.2]; exact o0⟩)))))) ?_
                  refine KO.op rfl rfl (fun Hg hg => (by first | exact R.fieldAddr rfl Try.underlying55 rfl rfl sz43 rfl | exact R.fieldAddrP rfl Try.underlying55 rfl rfl sz43 rfl)) rfl rfl rfl ?_
                  refine KO.op rfl rfl (fun Hg hg => R.load rfl Try.underlying43 rfl rfl (cell_of (hg.2 (by simp)) rfl)) rfl rfl rfl ?_
                  refine KO.call rfl rfl rfl rfl rfl rfl Try.call27 rfl rfl rfl (value_any _ _ (hsu.old o0)) (fun _ _ hR j _ _ => ⟨fun _ => hR.2 ▸ is.b, fun _ => hR.2 ▸ bv⟩) ?_
                  rintro _ _ ⟨rfl, rfl⟩
                  refine KO.op rfl rfl (fun Hg hg => (by first | exact R.fieldAddr rfl Try.underlying55 rfl rfl sz49 rfl | exact R.fieldAddrP rfl Try.underlying55 rfl rfl sz49 rfl)) rfl rfl rfl ?_
                  refine KO.op rfl rfl (fun Hg hg => R.load rfl Try.underlying49 rfl rfl (cell_of (hg.2 (by simp)) rfl)) rfl rfl rfl ?_
                  refine KO.op rfl rfl (fun Hg hg => R.lenS rfl Try.underlying49 rfl hsw) rfl rfl rfl ?_
                  refine KO.op rfl rfl (fun Hg hg => R.convI rfl Try.underlying3 Try.underlying39 rfl (by dsimp only [InR]; omega)) rfl rfl rfl ?_
                  refine KO.op rfl rfl (fun Hg hg => R.move rfl rfl) rfl rfl rfl ?_
                  refine KO.op rfl rfl (fun Hg hg => R.nilCheck rfl rfl) rfl rfl rfl ?_
                  refine KO.op rfl rfl (fun Hg hg => (by first | exact R.fieldAddr rfl Try.underlying73 rfl rfl sz51 rfl | exact R.fieldAddrP rfl Try.underlying73 rfl rfl sz51 rfl)) rfl rfl rfl ?_
                  refine KO.op rfl rfl (fun Hg hg => R.load rfl Try.underlying51 rfl rfl (cell_of (hg.1 rfl) rfl)) rfl rfl rfl ?_
                  refine KO.call rfl rfl rfl rfl rfl rfl Try.call29 rfl rfl rfl (pages_is is (by rw [zeros_length]; omega) hpg.1) (fun _ _ hR j _ _ => ⟨fun _ => hR.2 ▸ is.b, fun _ => hR.2 ▸ bv⟩) ?_
                  rintro _ _ ⟨rfl, rfl⟩
                  refine KO.op rfl rfl (fun Hg hg => R.convI rfl Try.underlying28 Try.underlying39 rfl (by dsimp only [InR]; omega)) rfl rfl rfl ?_
                  refine KO.op rfl rfl (fun Hg hg => R.mul rfl rfl rfl (by dsimp only [InR]; omega)) rfl rfl rfl ?_
                  refine KO.call rfl rfl rfl rfl rfl rfl Try.call28 rfl rfl rfl (fits_any _ _ _ (by dsimp only [InR]; omega) (by dsimp only [InR]; omega) (by dsimp only [InR]; omega)) (fun _ _ hR j _ _ => ⟨fun _ => hR.2 ▸ is.b, fun _ => hR.2 ▸ bv⟩) ?_
                  rintro _ _ ⟨rfl, rfl⟩
                  refine KO.callX rfl rfl rfl rfl rfl rfl Try.call25 rfl rfl rfl ((asks_any _).mono (fun _ _ h => h) (fun v Hx hx => ⟨hx.1, fun hf => absurd (hf.d _ (getD_mem (l := m.datas) (by omega))) (of_decide_eq_false hx.2.1), hx.2.2⟩)) (fun _ _ hR j _ _ => ⟨fun _ => hR.2 ▸ is.b, fun _ => hR.2 ▸ bv⟩) ?_
                  rintro _ _ ⟨hb, rfl⟩
                  refine KO.nil ?_
                  refine KQ.normBlock ?_
                  refine KQ.seq ?_
                  refine KC.region ?_
                  refine KL.op ((R.add rfl rfl rfl (by dsimp only [InR]; omega)).val (congrArg (Value.int .i64) (show (k : Int) + 1 = ((k + 1 : Nat) : Int) by omega))) rfl rfl rfl ?_
                  refine KL.op (R.move rfl rfl) rfl rfl rfl ?_
                  refine KL.nil ?_
                  refine KQ.again (k + 1) ?_ ?_ ?_
                  · exact (Sub.cons rfl (Ext.sub (by repeat (first | exact Ext.refl _ _ | refine Ext.put rfl ?_ | refine Ext.drop rfl ?_))))
                  · omega
                  · exact ⟨by omega, is, bx, o0, by
                      intro e he
                      rw [take_succ_of (by omega)] at he
                      rcases List.mem_append.1 he with he | he
                      · exact hfd e he
                      · simp only [List.mem_cons, List.not_mem_nil, or_false] at he; subst he; exact of_decide_eq_true hb⟩
                · intro hc112
                  try simp only [decide_eq_true_eq, decide_eq_false_iff_not, Bool.not_eq_true', Bool.not_eq_false', Bool.and_eq_true, Bool.or_eq_false_iff] at hc112
                  have hkl : k = m.datas.length := by omega
                  rw [hkl, List.take_length] at hfd
                  refine KC.exit ?_
                  refine KQ.exitThen ?_
                  refine KQ.exitThen ?_
                  refine KQ.hit ?_
                  refine KQ.seq ?_
                  refine KC.seq ?_
                  refine KC.seq ?_
                  refine KC.region ?_
                  refine KL.op ((by first | exact R.fieldAddr rfl Try.underlying33 rfl rfl sz29 rfl | exact R.fieldAddrP rfl Try.underlying33 rfl rfl sz29 rfl)) rfl rfl rfl ?_
                  refine KL.op (R.load rfl Try.underlying29 rfl rfl (by first | exact cell_of bx rfl | assumption)) rfl rfl rfl ?_
                  refine KL.op (R.lenS rfl Try.underlying29 rfl mv.e) rfl rfl rfl ?_
                  refine KL.op (R.move rfl rfl) rfl rfl rfl ?_
                  refine KL.nil ?_
                  refine KQ.seq ?_
                  refine KC.block ?_
                  refine KC.loopD (κ := Nat) [136, 137, 138, 12, 139, 140, 141, 13, 142, 143, 144, 145, 146, 147, 148, 149, 14, 15, 150, 151, 152, 153, 154, 155, 156, 157, 158, 159, 160, 161, 162, 135] (fun k => [(135, .int .i64 (k : Nat))]) (fun k Hl => k ≤ m.elems.length ∧ IS Hl (Array.size H1) (mp) (tv) (gv) m (zeros (pages m)) (lay (tab0 m) (m.elems.take k)) (m.globs.map iv) ∧ Hl[Array.size H]? = some (.cells [v0, v1, v2, v3, v4, v5, v6, v7, v8, v9, va, vb].toArray 33 (0, 0)) ∧ Old H Hl) (fun k => m.elems.length - k) 0 ?_ ?_ ?_
                  · exact (Sub.cons rfl (Ext.sub (Ext.refl _ _)))
                  · exact ⟨Nat.zero_le _, is, bx, o0⟩
                  · rintro k H27 ⟨hk, is, bx, o0⟩
                    have zl_H27 := o0.1
                    have zis := is.lt
                    refine KC.seq ?_
                    refine KC.region ?_
                    refine KL.op (R.lss rfl rfl rfl) rfl rfl rfl ?_
                    refine KL.nil ?_
                    refine KQ.seq ?_
                    refine KC.seq ?_
                    refine KC.iteL rfl ?_ ?_
                    · intro hc136
                      try simp only [decide_eq_true_eq, decide_eq_false_iff_not, Bool.not_eq_true', Bool.not_eq_false', Bool.and_eq_true, Bool.or_eq_false_iff] at hc136
                      obtain ⟨tt, vu, vw, hcx, hsu, hsw, hlw⟩ := mv.e.elAt k (by omega)
                      have hiv := iv_R (m.elems.getD k default).1
                      have hfk := hfe _ (getD_mem (l := m.elems) (k := k) (by omega))
                      have hTl : (lay (tab0 m) (m.elems.take k)).length = tlen m := lay_length _ _ (tab0_len m) (fun e he => hfe e (List.mem_of_mem_take he))
                      refine KC.skip ?_
                      refine KQ.seq ?_
                      refine KC.seq ?_
                      refine KC.block ?_
                      refine KC.seq ?_
                      refine KC.region ?_
                      refine KL.op (R.index (j := k) rfl Try.underlying29 sz45 rfl rfl mv.e rfl (by omega)) rfl rfl rfl ?_
                      refine KL.op (R.loadAgg rfl Try.underlying45 rfl sz45 rfl (o0.cells hcx) rfl) rfl rfl rfl ?_
                      have oP : Old H27 H27 := Old.refl _
                      refine KL.opM (M.alloc rfl zr45 rfl) rfl rfl rfl ?_
                      rintro _ H28 ⟨rfl, n28⟩
                      have z28 := n28.2.1
                      have o0 := o0.trans n28.1
                      have bx := (n28.1).blk bx
                      have oP := oP.trans n28.1
                      have b28 := n28.2.2
                      have bv := b28
                      refine KL.opS (S.storeAgg rfl sz45 rfl rfl (rfl) (by intro z hz; simp only [List.mem_cons, List.not_mem_nil, or_false] at hz; rcases hz with rfl | rfl | rfl <;> first | rfl | exact hsu.one | exact hsw.one) bv (by simp)) rfl rfl ?_
                      rintro H29 ⟨u29, b29⟩
                      have o0 := o0.upd u29 (by omega)
                      have zu29 := u29.1
                      have bx := ((u29).2 _ (by omega)).trans bx
                      have oP := oP.upd u29 (by omega)
                      have bv := b29
                      rw [over_all (by rfl)] at bv
                      have is := is.old oP
                      refine KL.nil ?_
                      refine KQ.seq ?_
                      refine KC.seq ?_
                      refine KC.region ?_
                      refine KL.op ((by first | exact R.fieldAddr rfl Try.underlying45 rfl rfl sz43 rfl | exact R.fieldAddrP rfl Try.underlying45 rfl rfl sz43 rfl)) rfl rfl rfl ?_
                      refine KL.op (R.load rfl Try.underlying43 rfl rfl (cell_of bv rfl)) rfl rfl rfl ?_
                      refine KL.call rfl rfl rfl rfl Try.call27 rfl rfl rfl (value_any _ _ (hsu.old o0)) ?_
                      rintro _ _ ⟨rfl, rfl⟩
                      refine KL.op (R.assign rfl rfl) rfl rfl rfl ?_
                      refine KL.nil ?_
                      refine KQ.seq ?_
                      refine KC.seq ?_
                      refine KC.region ?_
                      refine KL.op ((by first | exact R.fieldAddr rfl Try.underlying45 rfl rfl sz24 rfl | exact R.fieldAddrP rfl Try.underlying45 rfl rfl sz24 rfl)) rfl rfl rfl ?_
                      refine KL.op (R.load rfl Try.underlying24 rfl rfl (cell_of bv rfl)) rfl rfl rfl ?_
                      refine KL.op (R.lenS rfl Try.underlying24 rfl hsw) rfl rfl rfl ?_
                      refine KL.op (R.move rfl rfl) rfl rfl rfl ?_
                      refine KL.nil ?_
                      refine KQ.seq ?_
                      refine KC.block ?_
                      refine KC.loopD (κ := Nat) [146, 147, 148, 149, 14, 15, 150, 151, 152, 153, 154, 155, 156, 157, 158, 159, 160, 161, 145] (fun q => [(145, .int .i64 (q : Nat))]) (fun q Hl => q ≤ (m.elems.getD k default).2.length ∧ IS Hl (Array.size H1) (mp) (tv) (gv) m (zeros (pages m)) (putAt (lay (tab0 m) (m.elems.take k)) (iv (m.elems.getD k default).1).toNat ((m.elems.getD k default).2.take q)) (m.globs.map iv) ∧ Hl[Array.size H]? = some (.cells [v0, v1, v2, v3, v4, v5, v6, v7, v8, v9, va, vb].toArray 33 (0, 0)) ∧ Old H Hl) (fun q => (m.elems.getD k default).2.length - q) 0 ?_ ?_ ?_
                      · exact (Sub.cons rfl (Ext.sub (Ext.refl _ _)))
                      · exact ⟨Nat.zero_le _, by rw [List.take_zero, putAt_nil]; exact is, bx, o0⟩
                      · rintro q H30 ⟨hq, is, bx, o0⟩
                        have zl_H30 := o0.1
                        have zis := is.lt
                        refine KC.seq ?_
                        refine KC.region ?_
                        refine KL.op (R.lss rfl rfl rfl) rfl rfl rfl ?_
                        refine KL.nil ?_
                        refine KQ.seq ?_
                        refine KC.seq ?_
                        refine KC.iteL rfl ?_ ?_
                        · intro hc146
                          try simp only [decide_eq_true_eq, decide_eq_false_iff_not, Bool.not_eq_true', Bool.not_eq_false', Bool.and_eq_true, Bool.or_eq_false_iff] at hc146
                          have htl := tlen_le hft
                          have hPl : (putAt (lay (tab0 m) (m.elems.take k)) (iv (m.elems.getD k default).1).toNat ((m.elems.getD k default).2.take q)).length = tlen m := by rw [putAt_length (by rw [List.length_take]; omega)]; exact hTl
                          obtain ⟨hcf, hrf⟩ := hsw.int q (by omega)
                          dsimp only [InR] at hrf
                          obtain ⟨g0, cap0, hv0, _⟩ := is.t.addr (by rw [hPl]; omega)
                          have hne : tv ≠ .slice none 0 0 := by rw [hv0]; simp
                          have hwl := is.t.lt.resolve_left hne
                          refine KC.skip ?_
                          refine KQ.seq ?_
                          refine KC.seq ?_
                          refine KC.block ?_
                          refine KC.seq ?_
                          refine KC.region ?_
                          refine KL.op (R.move rfl rfl) rfl rfl rfl ?_
                          refine KL.op (R.index1 (j := q) rfl Try.underlying24 sz28 rfl rfl hsw rfl (by omega)) rfl rfl rfl ?_
                          refine KL.op (R.load rfl Try.underlying28 rfl rfl (o0.cell hcf)) rfl rfl rfl ?_
                          refine KL.op (R.assign rfl rfl) rfl rfl rfl ?_
                          refine KL.op (R.assign rfl rfl) rfl rfl rfl ?_
                          refine KL.nil ?_
                          refine KQ.seq ?_
                          refine KC.region ?_
                          refine KL.op (R.move rfl rfl) rfl rfl rfl ?_
                          refine KL.op (R.nilCheck rfl rfl) rfl rfl rfl ?_
                          refine KL.op ((by first | exact R.fieldAddr rfl Try.underlying73 rfl rfl sz42 rfl | exact R.fieldAddrP rfl Try.underlying73 rfl rfl sz42 rfl)) rfl rfl rfl ?_
                          refine KL.op (R.load rfl Try.underlying42 rfl rfl (cell_of is.b rfl)) rfl rfl rfl ?_
                          refine KL.op (R.move rfl rfl) rfl rfl rfl ?_
                          refine KL.op (R.move rfl rfl) rfl rfl rfl ?_
                          refine KL.op (R.convI rfl Try.underlying3 Try.underlying39 rfl (by dsimp only [InR]; omega)) rfl rfl rfl ?_
                          refine KL.op (R.add rfl rfl rfl (by dsimp only [InR]; omega)) rfl rfl rfl ?_
                          refine KL.op (R.move rfl rfl) rfl rfl rfl ?_
                          refine KL.op (R.convI rfl Try.underlying28 Try.underlying2 rfl (by dsimp only [InR]; omega)) rfl rfl rfl ?_
                          refine KL.op (R.index1 (j := (iv (m.elems.getD k default).1).toNat + q) rfl Try.underlying42 sz2 rfl rfl (is.t.sl (emptyOld _) (by decide)) (by omega) (by rw [hPl]; omega)) rfl rfl rfl ?_
                          have wt := is.t
                          have isP := is
                          refine KL.opS (S.own1 rfl sz2 rfl rfl rfl rfl wt (by rw [hPl]; omega) ⟨rfl, by dsimp only [InR]; omega⟩) rfl rfl ?_
                          rintro H31 ⟨u31, w31⟩
                          have o0 := o0.upd u31 (by omega)
                          have zu31 := u31.1
                          have bx := ((u31).2 _ (by omega)).trans bx
                          have wt := w31
                          have is := isP.tab (tl' := putAt (lay (tab0 m) (m.elems.take k)) (iv (m.elems.getD k default).1).toNat ((m.elems.getD k default).2.take (q + 1))) u31 hne (by rw [take_succ_of (by omega), ← putAt_set (bs := lay (tab0 m) (m.elems.take k)) (p := (iv (m.elems.getD k default).1).toNat) (k := q) (l := (m.elems.getD k default).2.take q) (by rw [hTl]; omega) (by rw [List.length_take]; omega)]; exact wt)
                          refine KL.nil ?_
                          refine KQ.normBlock ?_
                          refine KQ.seq ?_
                          refine KC.region ?_
                          refine KL.op ((R.add rfl rfl rfl (by dsimp only [InR]; omega)).val (congrArg (Value.int .i64) (show (q : Int) + 1 = ((q + 1 : Nat) : Int) by omega))) rfl rfl rfl ?_
                          refine KL.op (R.move rfl rfl) rfl rfl rfl ?_
                          refine KL.nil ?_
                          refine KQ.again (q + 1) ?_ ?_ ?_
                          · exact (Sub.cons rfl (Ext.sub (by repeat (first | exact Ext.refl _ _ | refine Ext.put rfl ?_ | refine Ext.drop rfl ?_))))
                          · omega
                          · exact ⟨by omega, is, bx, o0⟩
                        · intro hc146
                          try simp only [decide_eq_true_eq, decide_eq_false_iff_not, Bool.not_eq_true', Bool.not_eq_false', Bool.and_eq_true, Bool.or_eq_false_iff] at hc146
                          have hql : q = (m.elems.getD k default).2.length := by omega
                          rw [hql, List.take_length] at is
                          refine KC.exit ?_
                          refine KQ.exitThen ?_
                          refine KQ.exitThen ?_
                          refine KQ.hit ?_
                          refine KQ.normBlock ?_
                          refine KQ.seq ?_
                          refine KC.region ?_
                          refine KL.op ((R.add rfl rfl rfl (by dsimp only [InR]; omega)).val (congrArg (Value.int .i64) (show (k : Int) + 1 = ((k + 1 : Nat) : Int) by omega))) rfl rfl rfl ?_
                          refine KL.op (R.move rfl rfl) rfl rfl rfl ?_
                          refine KL.nil ?_
                          refine KQ.again (k + 1) ?_ ?_ ?_
                          · exact (Sub.cons rfl (Ext.sub (by repeat (first | exact Ext.refl _ _ | refine Ext.put rfl ?_ | refine Ext.drop rfl ?_))))
                          · omega
                          · exact ⟨by omega, by rw [lay_take (by omega)]; exact is, bx, o0⟩
                    · intro hc136
                      try simp only [decide_eq_true_eq, decide_eq_false_iff_not, Bool.not_eq_true', Bool.not_eq_false', Bool.and_eq_true, Bool.or_eq_false_iff] at hc136
                      have hkl : k = m.elems.length := by omega
                      rw [hkl, List.take_length] at is
                      refine KC.exit ?_
                      refine KQ.exitThen ?_
                      refine KQ.exitThen ?_
                      refine KQ.hit ?_
                      refine KQ.seq ?_
                      refine KC.seq ?_
                      refine KC.seq ?_
                      refine KC.region ?_
                      refine KL.op ((by first | exact R.fieldAddr rfl Try.underlying33 rfl rfl sz31 rfl | exact R.fieldAddrP rfl Try.underlying33 rfl rfl sz31 rfl)) rfl rfl rfl ?_
                      refine KL.op (R.load rfl Try.underlying31 rfl rfl (by first | exact cell_of bx rfl | assumption)) rfl rfl rfl ?_
                      refine KL.op (R.lenS rfl Try.underlying31 rfl mv.d) rfl rfl rfl ?_
                      refine KL.op (R.move rfl rfl) rfl rfl rfl ?_
                      refine KL.nil ?_
                      refine KQ.seq ?_
                      refine KC.block ?_
                      refine KC.loopD (κ := Nat) [167, 168, 169, 17, 170, 171, 172, 173, 174, 175, 176, 177, 178, 179, 180, 181, 166] (fun k => [(166, .int .i64 (k : Nat))]) (fun k Hl => k ≤ m.datas.length ∧ IS Hl (Array.size H1) (mp) (tv) (gv) m (lay (zeros (pages m)) (m.datas.take k)) (lay (tab0 m) m.elems) (m.globs.map iv) ∧ Hl[Array.size H]? = some (.cells [v0, v1, v2, v3, v4, v5, v6, v7, v8, v9, va, vb].toArray 33 (0, 0)) ∧ Old H Hl) (fun k => m.datas.length - k) 0 ?_ ?_ ?_
                      · exact (Sub.cons rfl (Ext.sub (Ext.refl _ _)))
                      · exact ⟨Nat.zero_le _, is, bx, o0⟩
                      · rintro k H32 ⟨hk, is, bx, o0⟩
                        have zl_H32 := o0.1
                        have zis := is.lt
                        refine KC.seq ?_
                        refine KC.region ?_
                        refine KL.op (R.lss rfl rfl rfl) rfl rfl rfl ?_
                        refine KL.nil ?_
                        refine KQ.seq ?_
                        refine KC.seq ?_
                        refine KC.iteL rfl ?_ ?_
                        · intro hc167
                          try simp only [decide_eq_true_eq, decide_eq_false_iff_not, Bool.not_eq_true', Bool.not_eq_false', Bool.and_eq_true, Bool.or_eq_false_iff] at hc167
                          obtain ⟨tt, vu, vw, hcx, hsu, hsw, hlw⟩ := mv.d.daAt k (by omega)
                          have hiv := iv_R (m.datas.getD k default).1
                          have hfk := hfd _ (getD_mem (l := m.datas) (k := k) (by omega))
                          have hMl : (lay (zeros (pages m)) (m.datas.take k)).length = (pages m * 65536).toNat := lay_length _ _ (zeros_length _) (fun e he => by have := hfd e (List.mem_of_mem_take he); omega)
                          refine KC.skip ?_
                          refine KQ.seq ?_
                          refine KC.seq ?_
                          refine KC.block ?_
                          refine KC.seq ?_
                          refine KC.region ?_
                          refine KL.op (R.index (j := k) rfl Try.underlying31 sz55 rfl rfl mv.d rfl (by omega)) rfl rfl rfl ?_
                          refine KL.op (R.loadAgg rfl Try.underlying55 rfl sz55 rfl (o0.cells hcx) rfl) rfl rfl rfl ?_
                          have oP : Old H32 H32 := Old.refl _
                          refine KL.opM (M.alloc rfl zr55 rfl) rfl rfl rfl ?_
                          rintro _ H33 ⟨rfl, n33⟩
                          have z33 := n33.2.1
                          have o0 := o0.trans n33.1
                          have bx := (n33.1).blk bx
                          have oP := oP.trans n33.1
                          have b33 := n33.2.2
                          have bv := b33
                          refine KL.opS (S.storeAgg rfl sz55 rfl rfl (rfl) (by intro z hz; simp only [List.mem_cons, List.not_mem_nil, or_false] at hz; rcases hz with rfl | rfl | rfl <;> first | rfl | exact hsu.one | exact hsw.one) bv (by simp)) rfl rfl ?_
                          rintro H34 ⟨u34, b34⟩
                          have o0 := o0.upd u34 (by omega)
                          have zu34 := u34.1
                          have bx := ((u34).2 _ (by omega)).trans bx
                          have oP := oP.upd u34 (by omega)
                          have bv := b34
                          rw [over_all (by rfl)] at bv
                          have is := is.old oP
                          refine KL.nil ?_
                          refine KQ.seq ?_
                          refine KC.text (clOf [(6, 2), (10, 2)]) (fun j Hc => (j = 3 → Hc[Array.size H1]? = some (.cells [mp, tv, gv].toArray 73 (0, 0))) ∧ (j = 5 ∨ j = 9 → Hc[(Array.size H32)]? = some (.cells [.int .u32 tt, vu, vw].toArray 55 (0, 0)))) (by kernel_rfl) (by kernel_rfl) (fun _ => ⟨fun _ => is.b, fun _ => bv⟩) ?_
                          refine KP.op rfl (fun Hg hg => R.move rfl rfl) rfl rfl rfl ?_
                          refine KP.op rfl (fun Hg hg => R.nilCheck rfl rfl) rfl rfl rfl ?_
                          refine KP.op rfl (fun Hg hg => (by first | exact R.fieldAddr rfl Try.underlying73 rfl rfl sz51 rfl | exact R.fieldAddrP rfl Try.underlying73 rfl rfl sz51 rfl)) rfl rfl rfl ?_
                          refine KP.op rfl (fun Hg hg => R.load rfl Try.underlying51 rfl rfl (cell_of (hg.1 rfl) rfl)) rfl rfl rfl ?_
                          refine KP.op rfl (fun Hg hg => (by first | exact R.fieldAddr rfl Try.underlying55 rfl rfl sz43 rfl | exact R.fieldAddrP rfl Try.underlying55 rfl rfl sz43 rfl)) rfl rfl rfl ?_
                          refine KP.op rfl (fun Hg hg => R.load rfl Try.underlying43 rfl rfl (cell_of (hg.2 (by simp)) rfl)) rfl rfl rfl ?_
                          refine KP.call rfl rfl rfl rfl rfl Try.call27 rfl rfl rfl (value_any _ _ (hsu.old o0)) (fun _ _ hR j _ _ => ⟨fun _ => hR.2 ▸ is.b, fun _ => hR.2 ▸ bv⟩) ?_
                          rintro _ _ ⟨rfl, rfl⟩
                          refine KP.op rfl (fun Hg hg => (R.convW rfl Try.underlying39 Try.underlying28 rfl).val (congrArg (Value.int .u32) (u32s (by omega) (by omega)))) rfl rfl rfl ?_
                          refine KP.op rfl (fun Hg hg => (by first | exact R.fieldAddr rfl Try.underlying55 rfl rfl sz49 rfl | exact R.fieldAddrP rfl Try.underlying55 rfl rfl sz49 rfl)) rfl rfl rfl ?_
                          refine KP.op rfl (fun Hg hg => R.load rfl Try.underlying49 rfl rfl (cell_of (hg.2 (by simp)) rfl)) rfl rfl rfl ?_
                          refine KP.call rfl rfl rfl rfl rfl Try.call30 rfl rfl rfl (put_is is (by rw [hMl]; omega) hpg.2 hiv.1 (hsw.old o0) hfk) (fun _ _ hR j _ hj2 => ⟨fun hj => by subst hj; exact absurd (by decide +kernel) hj2, fun hj => by rcases hj with rfl | rfl <;> exact absurd (by decide +kernel) hj2⟩) ?_
                          rintro _ H35 ⟨is2, ob⟩
                          have z_ob := ob.1
                          have o0 := o0.then ob (by omega)
                          have bx := (ob.2 _ (by omega)).trans bx
                          have is := is2
                          refine KP.nil ?_
                          refine KQ.normBlock ?_
                          refine KQ.seq ?_
                          refine KC.region ?_
                          refine KL.op ((R.add rfl rfl rfl (by dsimp only [InR]; omega)).val (congrArg (Value.int .i64) (show (k : Int) + 1 = ((k + 1 : Nat) : Int) by omega))) rfl rfl rfl ?_
                          refine KL.op (R.move rfl rfl) rfl rfl rfl ?_
                          refine KL.nil ?_
                          refine KQ.again (k + 1) ?_ ?_ ?_
                          · exact (Sub.cons rfl (Ext.sub (by repeat (first | exact Ext.refl _ _ | refine Ext.put rfl ?_ | refine Ext.drop rfl ?_))))
                          · omega
                          · exact ⟨by omega, by rw [lay_take (by omega)]; exact is, bx, o0⟩
                        · intro hc167
                          try simp only [decide_eq_true_eq, decide_eq_false_iff_not, Bool.not_eq_true', Bool.not_eq_false', Bool.and_eq_true, Bool.or_eq_false_iff] at hc167
                          have hkl : k = m.datas.length := by omega
                          rw [hkl, List.take_length] at is
                          refine KC.exit ?_
                          refine KQ.exitThen ?_
                          refine KQ.exitThen ?_
                          refine KQ.hit ?_
                          refine KQ.seq ?_
                          refine KC.seq ?_
                          refine KC.region ?_
                          refine KL.op (R.move rfl rfl) rfl rfl rfl ?_
                          refine KL.op (R.assign rfl rfl) rfl rfl rfl ?_
                          refine KL.nil ?_
                          refine KQ.seq ?_
                          refine KC.ret ?_
                          refine KQ.ofRetX ?_
                          refine KQ.toX ?_
                          refine KQ.fin1 Try.results18 rfl ?_
                          exact ⟨_, _, _, _, rfl, by omega, is, ⟨hfm, hft, by omega, hfe, hfd⟩, o0⟩

end Go.Proofs.Yticnkojpfmkjeaa
