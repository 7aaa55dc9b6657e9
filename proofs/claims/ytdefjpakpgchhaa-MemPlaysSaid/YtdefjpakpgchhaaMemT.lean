/- The document's memory: stores, growing, bytes. No condition. -/
import Derived.Test.YtdefjpakpgchhaaMemS
namespace Go.Proofs.Ytdefjpakpgchhaa
open Go Go.RowKit
set_option linter.unusedVariables false
set_option linter.unusedSimpArgs false
set_option linter.unnecessarySimpa false

theorem byte_next (x : Int) (k : Nat) : x / 256 ^ k / 256 = x / 256 ^ (k + 1) := by
  rw [Int.pow_succ, Int.ediv_ediv_of_nonneg (Int.pow_nonneg (by omega))]
theorem take_putAt {m : List Int} {k : Nat} (h : k < m.length) : m.take (k + 1) = m.take k ++ [m.getD k default] := take_snoc h

set_option maxRecDepth 100000 in
set_option maxHeartbeats 4000000 in
theorem rStore_any {H : Heap} (g : Nat) (v : Value) (bs : List Int) (most : Int) (h : MAt 58 .u64 H g v bs most) (op at_ off : Int) (r4 : InR .u8 op) (r2 : InR .u32 at_) (r3 : InR .u32 off) (x : Int) (r5 : InR .u64 x) : Ct Try.prog 22 [.pointer (some ⟨g, 0, none⟩), .int .u8 op, .int .u32 at_, .int .u32 off, .int .u64 x] H (fun u H' => u = .bool (decide (inA bs 54 62 op (at_ + off))) ∧ MAt 58 .u64 H' g v (storeB bs op (at_ + off) x) most ∧ Fr g v H H') := by
  refine Ct.mk Try.func22 rfl Try.ntmps22 rfl ?_
  intro W0 hW0
  have o0 : OldB 0 H H := OldB.refl _ H
  have hb := h.b
  have hw := h.w
  have hn := h.n
  have hs := hw.sl (emptyOld _) (by decide)
  have hml := mw_le op
  dsimp only [InR] at r2 r3 r5
  refine KC.seq ?_
  refine KC.region ?_
  refine KL.op (R.assign rfl rfl) rfl rfl rfl ?_
  refine KL.nil ?_
  refine KQ.seq ?_
  refine KC.seq ?_
  refine KC.region ?_
  refine KL.op (R.move rfl rfl) rfl rfl rfl ?_
  refine KL.call rfl rfl rfl rfl Try.call30 rfl rfl rfl (rWidth_any op r4) ?_
  rintro _ _ ⟨rfl, rfl⟩
  refine KL.op (R.move rfl rfl) rfl rfl rfl ?_
  refine KL.op (R.extract rfl rfl rfl) rfl rfl rfl ?_
  refine KL.op (R.extract rfl rfl rfl) rfl rfl rfl ?_
  refine KL.op (R.extract rfl rfl rfl) rfl rfl rfl ?_
  refine KL.op (R.assign rfl rfl) rfl rfl rfl ?_
  refine KL.op (R.assign rfl rfl) rfl rfl rfl ?_
  refine KL.op (R.assign rfl rfl) rfl rfl rfl ?_
  refine KL.nil ?_
  refine KQ.seq ?_
  refine KC.seq ?_
  refine KC.region ?_
  refine KL.op (R.move rfl rfl) rfl rfl rfl ?_
  refine KL.op (R.convI rfl Try.underlying23 Try.underlying28 rfl (by dsimp only [InR]; omega)) rfl rfl rfl ?_
  refine KL.op (R.move rfl rfl) rfl rfl rfl ?_
  refine KL.op (R.convI rfl Try.underlying23 Try.underlying28 rfl (by dsimp only [InR]; omega)) rfl rfl rfl ?_
  refine KL.op (R.add rfl rfl rfl (by dsimp only [InR]; omega)) rfl rfl rfl ?_
  refine KL.op (R.assign rfl rfl) rfl rfl rfl ?_
  refine KL.nil ?_
  refine KQ.seq ?_
  refine KC.seq ?_
  refine KC.seq ?_
  refine KC.region ?_
  refine KL.op (R.move rfl rfl) rfl rfl rfl ?_
  refine KL.op (R.lss rfl rfl rfl) rfl rfl rfl ?_
  refine KL.op (R.move rfl rfl) rfl rfl rfl ?_
  refine KL.case (d := 29) rfl ?_ ?_
  · intro hg29
    try simp only [decide_eq_true_eq, decide_eq_false_iff_not, Bool.not_eq_true', Bool.not_eq_false', Bool.and_eq_true, Bool.or_eq_false_iff] at hg29
    refine KL.skip rfl rfl rfl ?_
    refine KL.skip rfl rfl rfl ?_
    refine KL.op (R.pick rfl rfl rfl) rfl rfl rfl ?_
    refine KL.op (R.move rfl rfl) rfl rfl rfl ?_
    refine KL.skip rfl rfl rfl ?_
    refine KL.skip rfl rfl rfl ?_
    refine KL.skip rfl rfl rfl ?_
    refine KL.skip rfl rfl rfl ?_
    refine KL.skip rfl rfl rfl ?_
    refine KL.op (R.pick rfl rfl rfl) rfl rfl rfl ?_
    refine KL.nil ?_
    refine KQ.seq ?_
    refine KC.condT rfl ?_
    refine KC.seq ?_
    refine KC.region ?_
    refine KL.op (R.assign rfl rfl) rfl rfl rfl ?_
    refine KL.nil ?_
    refine KQ.seq ?_
    refine KC.ret ?_
    refine KQ.retThen ?_
    refine KQ.ofRet ?_
    refine KQ.fin1 Try.results22 rfl ?_
    first
      | (have hN : ¬ inA bs 54 62 op (at_ + off) := (by unfold inA; omega)
         refine ⟨by rw [decide_eq_false hN], ?_, Fr.refl _ _ _⟩
         unfold storeB
         rw [if_neg hN]
         exact h)
      | (refine ⟨by rw [decide_eq_true hA], ?_, hf⟩
         unfold storeB
         rw [if_pos hA, show mw op = k by omega]
         exact hm)
  · intro hg29
    try simp only [decide_eq_true_eq, decide_eq_false_iff_not, Bool.not_eq_true', Bool.not_eq_false', Bool.and_eq_true, Bool.or_eq_false_iff] at hg29
    refine KL.op (R.move rfl rfl) rfl rfl rfl ?_
    refine KL.op (R.eql rfl rfl rfl) rfl rfl rfl ?_
    refine KL.op (R.pick rfl rfl rfl) rfl rfl rfl ?_
    refine KL.op (R.move rfl rfl) rfl rfl rfl ?_
    refine KL.case (d := 33) rfl ?_ ?_
    · intro hg33
      try simp only [decide_eq_true_eq, decide_eq_false_iff_not, Bool.not_eq_true', Bool.not_eq_false', Bool.and_eq_true, Bool.or_eq_false_iff] at hg33
      refine KL.skip rfl rfl rfl ?_
      refine KL.skip rfl rfl rfl ?_
      refine KL.skip rfl rfl rfl ?_
      refine KL.skip rfl rfl rfl ?_
      refine KL.skip rfl rfl rfl ?_
      refine KL.op (R.pick rfl rfl rfl) rfl rfl rfl ?_
      refine KL.nil ?_
      refine KQ.seq ?_
      refine KC.condT rfl ?_
      refine KC.seq ?_
      refine KC.region ?_
      refine KL.op (R.assign rfl rfl) rfl rfl rfl ?_
      refine KL.nil ?_
      refine KQ.seq ?_
      refine KC.ret ?_
      refine KQ.retThen ?_
      refine KQ.ofRet ?_
      refine KQ.fin1 Try.results22 rfl ?_
      first
        | (have hN : ¬ inA bs 54 62 op (at_ + off) := (by unfold inA; omega)
           refine ⟨by rw [decide_eq_false hN], ?_, Fr.refl _ _ _⟩
           unfold storeB
           rw [if_neg hN]
           exact h)
        | (refine ⟨by rw [decide_eq_true hA], ?_, hf⟩
           unfold storeB
           rw [if_pos hA, show mw op = k by omega]
           exact hm)
    · intro hg33
      try simp only [decide_eq_true_eq, decide_eq_false_iff_not, Bool.not_eq_true', Bool.not_eq_false', Bool.and_eq_true, Bool.or_eq_false_iff] at hg33
      refine KL.op (R.move rfl rfl) rfl rfl rfl ?_
      refine KL.op (R.move rfl rfl) rfl rfl rfl ?_
      refine KL.op (R.move rfl rfl) rfl rfl rfl ?_
      refine KL.call rfl rfl rfl rfl Try.call31 rfl rfl rfl (rin_any _ _ _ _ h (at_ + off) (mw op : Nat) (by omega) (by omega) (by omega) (by omega)) ?_
      rintro _ _ ⟨rfl, rfl⟩
      refine KL.op (R.not rfl rfl) rfl rfl rfl ?_
      refine KL.op (R.pick rfl rfl rfl) rfl rfl rfl ?_
      refine KL.nil ?_
      refine KQ.seq ?_
      refine KC.iteL rfl ?_ ?_
      · intro hc39
        try simp only [decide_eq_true_eq, decide_eq_false_iff_not, Bool.not_eq_true', Bool.not_eq_false', Bool.and_eq_true, Bool.or_eq_false_iff] at hc39
        refine KC.seq ?_
        refine KC.region ?_
        refine KL.op (R.assign rfl rfl) rfl rfl rfl ?_
        refine KL.nil ?_
        refine KQ.seq ?_
        refine KC.ret ?_
        refine KQ.retThen ?_
        refine KQ.ofRet ?_
        refine KQ.fin1 Try.results22 rfl ?_
        first
          | (have hN : ¬ inA bs 54 62 op (at_ + off) := (by unfold inA; omega)
             refine ⟨by rw [decide_eq_false hN], ?_, Fr.refl _ _ _⟩
             unfold storeB
             rw [if_neg hN]
             exact h)
          | (refine ⟨by rw [decide_eq_true hA], ?_, hf⟩
             unfold storeB
             rw [if_pos hA, show mw op = k by omega]
             exact hm)
      · intro hc39
        try simp only [decide_eq_true_eq, decide_eq_false_iff_not, Bool.not_eq_true', Bool.not_eq_false', Bool.and_eq_true, Bool.or_eq_false_iff] at hc39
        have hmr := mw_range (op := op) (by omega)
        have hin : at_ + off + (mw op : Nat) ≤ bs.length := (by simpa using hc39)
        have hA : inA bs 54 62 op (at_ + off) := (by unfold inA; omega)
        refine KC.skip ?_
        refine KQ.seq ?_
        refine KC.seq ?_
        refine KC.seq ?_
        refine KC.region ?_
        refine KL.op (R.assign rfl rfl) rfl rfl rfl ?_
        refine KL.nil ?_
        refine KQ.seq ?_
        refine KC.block ?_
        refine KC.loopD (κ := Nat) [40, 41, 42, 45, 46, 47, 48, 49, 50, 51, 52, 53, 54, 55, 56, 57, 58, 4, 43, 44, 15] (fun k => [(15, .int .i64 (k : Nat)), (4, .int .u64 (x / 256 ^ k))]) (fun k Hl => k ≤ mw op ∧ MAt 58 .u64 Hl g v (putAt bs (at_ + off).toNat (bytesOf x k)) most ∧ Fr g v H Hl) (fun k => mw op - k) 0 ?_ ?_ ?_
        · exact (Sub.cons rfl (Sub.cons (congrArg (fun z => some (Value.int .u64 z)) (show x = x / 256 ^ 0 by simp)) (Ext.sub (Ext.refl _ _))))
        · exact ⟨Nat.zero_le _, by rw [show bytesOf x 0 = [] from rfl, putAt_nil]; exact h, Fr.refl _ _ _⟩
        · rintro k H1 ⟨hk, hm, hf⟩
          have o0 : OldB 0 H H1 := ⟨hf.1, fun k hk => absurd hk (by omega)⟩
          have hb := hm.b
          have hw := hm.w
          refine KC.seq ?_
          refine KC.seq ?_
          refine KC.region ?_
          refine KL.op (R.move rfl rfl) rfl rfl rfl ?_
          refine KL.op (R.move rfl rfl) rfl rfl rfl ?_
          refine KL.op (R.lss rfl rfl rfl) rfl rfl rfl ?_
          refine KL.nil ?_
          refine KQ.seq ?_
          refine KC.iteL rfl ?_ ?_
          · intro hc42
            try simp only [decide_eq_true_eq, decide_eq_false_iff_not, Bool.not_eq_true', Bool.not_eq_false', Bool.and_eq_true, Bool.or_eq_false_iff] at hc42
            have hpl2 : (putAt bs (at_ + off).toNat (bytesOf x k)).length = bs.length := putAt_length (by rw [bytesOf_length]; omega)
            obtain ⟨g0, cap, hv0, hcap, hne, hgv, hvl⟩ := own_some hm (by omega)
            have hq0 : 0 ≤ x / 256 ^ k := Int.ediv_nonneg (by omega) (Int.pow_nonneg (by omega))
            have hq1 : x / 256 ^ k ≤ x := Int.ediv_le_self _ (by omega)
            refine KC.skip ?_
            refine KQ.seq ?_
            refine KC.seq ?_
            refine KC.block ?_
            refine KC.seq ?_
            refine KC.region ?_
            refine KL.op (R.move rfl rfl) rfl rfl rfl ?_
            refine KL.op (R.nilCheck rfl rfl) rfl rfl rfl ?_
            refine KL.op ((by first | exact R.fieldAddr rfl Try.underlying58 rfl rfl sz22 rfl | exact R.fieldAddrP rfl Try.underlying58 rfl rfl sz22 rfl)) rfl rfl rfl ?_
            refine KL.op (R.load rfl Try.underlying22 rfl rfl (by first | exact cell_of hb rfl | assumption)) rfl rfl rfl ?_
            refine KL.op (R.move rfl rfl) rfl rfl rfl ?_
            refine KL.op (R.move rfl rfl) rfl rfl rfl ?_
            refine KL.op (R.convI rfl Try.underlying3 Try.underlying28 rfl (by dsimp only [InR]; omega)) rfl rfl rfl ?_
            refine KL.op (R.add rfl rfl rfl (by dsimp only [InR]; omega)) rfl rfl rfl ?_
            refine KL.op (R.move rfl rfl) rfl rfl rfl ?_
            refine KL.op (R.rem rfl rfl rfl (by omega) (by omega)) rfl rfl rfl ?_
            refine KL.op (R.convI rfl Try.underlying28 Try.underlying5 rfl (by dsimp only [InR]; omega)) rfl rfl rfl ?_
            refine KL.op (R.indexO1 (j := (at_ + off).toNat + k) rfl Try.underlying22 sz5 rfl rfl hw (by omega) (by omega)) rfl rfl rfl ?_
            refine KL.opS (S.own1 rfl sz5 rfl rfl rfl rfl hw (by omega) ⟨rfl, by dsimp only [InR]; omega⟩) rfl rfl ?_
            rintro H2 ⟨u2, w2⟩
            have o0 := o0.trans (OldB.upd u2 (by omega))
            have zu2 := u2.1
            have hb := ((u2).2 _ (by omega)).trans hb
            have hw := w2
            refine KL.nil ?_
            refine KQ.seq ?_
            refine KC.region ?_
            refine KL.op (R.move rfl rfl) rfl rfl rfl ?_
            refine KL.op ((R.quo rfl rfl rfl (by omega) (by omega) (by dsimp only [InR]; omega)).val (congrArg (Value.int .u64) (byte_next x k))) rfl rfl rfl ?_
            refine KL.op (R.assign rfl rfl) rfl rfl rfl ?_
            refine KL.nil ?_
            refine KQ.normBlock ?_
            refine KQ.seq ?_
            refine KC.region ?_
            refine KL.op (R.move rfl rfl) rfl rfl rfl ?_
            refine KL.op (R.add rfl rfl rfl (by dsimp only [InR]; omega)) rfl rfl rfl ?_
            refine KL.op (R.assign rfl rfl) rfl rfl rfl ?_
            refine KL.nil ?_
            refine KQ.again (k + 1) ?_ ?_ ?_
            · exact (Sub.cons rfl (Sub.cons rfl (Ext.sub (by repeat (first | exact Ext.refl _ _ | refine Ext.put rfl ?_ | refine Ext.drop rfl ?_)))))
            · omega
            · exact by
                refine ⟨by omega, ⟨hb, ?_, hm.d, by rw [putAt_length (by rw [bytesOf_length]; omega)]; exact hn⟩, hf.trans (Fr.ofUpd hne (by assumption))⟩
                rw [bytesOf_succ, ← putAt_set (by omega) (bytesOf_length x k)]
                exact hw
          · intro hc42
            try simp only [decide_eq_true_eq, decide_eq_false_iff_not, Bool.not_eq_true', Bool.not_eq_false', Bool.and_eq_true, Bool.or_eq_false_iff] at hc42
            refine KC.exit ?_
            refine KQ.exitThen ?_
            refine KQ.exitThen ?_
            refine KQ.hit ?_
            refine KQ.seq ?_
            refine KC.seq ?_
            refine KC.region ?_
            refine KL.op (R.assign rfl rfl) rfl rfl rfl ?_
            refine KL.nil ?_
            refine KQ.seq ?_
            refine KC.ret ?_
            refine KQ.ofRet ?_
            refine KQ.fin1 Try.results22 rfl ?_
            first
              | (have hN : ¬ inA bs 54 62 op (at_ + off) := (by unfold inA; omega)
                 refine ⟨by rw [decide_eq_false hN], ?_, Fr.refl _ _ _⟩
                 unfold storeB
                 rw [if_neg hN]
                 exact h)
              | (refine ⟨by rw [decide_eq_true hA], ?_, hf⟩
                 unfold storeB
                 rw [if_pos hA, show mw op = k by omega]
                 exact hm)

set_option maxRecDepth 100000 in
set_option maxHeartbeats 4000000 in
theorem rGrow_any {H : Heap} (g : Nat) (v : Value) (bs : List Int) (most : Int) (h : MAt 58 .u64 H g v bs most) (n : Int) (r : InR .u32 n) : Ct Try.prog 23 [.pointer (some ⟨g, 0, none⟩), .int .u32 n] H (fun u H' => (growOk bs most n ∧ u = .int .u32 ((bs.length : Int) / 65536) ∧ ∃ v', MAt 58 .u64 H' g v' (bs ++ zeros n) most ∧ Fr g v H H' ∧ Nx H v v') ∨ (¬ growOk bs most n ∧ u = .int .u32 4294967295 ∧ H = H')) := by
  refine Ct.mk Try.func23 rfl Try.ntmps23 rfl ?_
  intro W0 hW0
  have o0 : OldB 0 H H := OldB.refl _ H
  have hb := h.b
  have hw := h.w
  have hn := h.n
  have hs := hw.sl (emptyOld _) (by decide)
  have hgl := h.lt
  dsimp only [InR] at r
  refine KC.seq ?_
  refine KC.region ?_
  refine KL.op (R.assign rfl rfl) rfl rfl rfl ?_
  refine KL.nil ?_
  refine KQ.seq ?_
  refine KC.seq ?_
  refine KC.region ?_
  refine KL.op (R.move rfl rfl) rfl rfl rfl ?_
  refine KL.op (R.nilCheck rfl rfl) rfl rfl rfl ?_
  refine KL.op ((by first | exact R.fieldAddr rfl Try.underlying58 rfl rfl sz22 rfl | exact R.fieldAddrP rfl Try.underlying58 rfl rfl sz22 rfl)) rfl rfl rfl ?_
  refine KL.op (R.load rfl Try.underlying22 rfl rfl (by first | exact cell_of hb rfl | assumption)) rfl rfl rfl ?_
  refine KL.op (R.lenO rfl Try.underlying22 rfl hw) rfl rfl rfl ?_
  refine KL.op (R.convI rfl Try.underlying3 Try.underlying28 rfl (by dsimp only [InR]; omega)) rfl rfl rfl ?_
  refine KL.op (R.quo rfl rfl rfl (by omega) (by omega) (by dsimp only [InR]; omega)) rfl rfl rfl ?_
  refine KL.op (R.assign rfl rfl) rfl rfl rfl ?_
  refine KL.nil ?_
  refine KQ.seq ?_
  refine KC.seq ?_
  refine KC.seq ?_
  refine KC.region ?_
  refine KL.op (R.move rfl rfl) rfl rfl rfl ?_
  refine KL.op (R.move rfl rfl) rfl rfl rfl ?_
  refine KL.op (R.convI rfl Try.underlying23 Try.underlying28 rfl (by dsimp only [InR]; omega)) rfl rfl rfl ?_
  refine KL.op (R.add rfl rfl rfl (by dsimp only [InR]; omega)) rfl rfl rfl ?_
  refine KL.op (R.move rfl rfl) rfl rfl rfl ?_
  refine KL.op (R.nilCheck rfl rfl) rfl rfl rfl ?_
  refine KL.op ((by first | exact R.fieldAddr rfl Try.underlying58 rfl rfl sz28 rfl | exact R.fieldAddrP rfl Try.underlying58 rfl rfl sz28 rfl)) rfl rfl rfl ?_
  refine KL.op (R.load rfl Try.underlying28 rfl rfl (by first | exact cell_of hb rfl | assumption)) rfl rfl rfl ?_
  refine KL.op (R.gtr rfl rfl rfl) rfl rfl rfl ?_
  refine KL.nil ?_
  refine KQ.seq ?_
  refine KC.iteL rfl ?_ ?_
  · intro hc21
    try simp only [decide_eq_true_eq, decide_eq_false_iff_not, Bool.not_eq_true', Bool.not_eq_false', Bool.and_eq_true, Bool.or_eq_false_iff] at hc21
    refine KC.seq ?_
    refine KC.region ?_
    refine KL.op (R.assign rfl rfl) rfl rfl rfl ?_
    refine KL.nil ?_
    refine KQ.seq ?_
    refine KC.ret ?_
    refine KQ.retThen ?_
    refine KQ.ofRet ?_
    refine KQ.fin1 Try.results23 rfl ?_
    first
      | exact .inr ⟨by unfold growOk; omega, rfl, rfl⟩
      | (refine .inl ⟨by unfold growOk; omega, rfl, _, ⟨hb, hw, hne, ?_⟩, ⟨by omega, fun k hk h1 h2 => ?_⟩, by assumption⟩
         · rw [List.length_append, zeros_length]; omega
         · rename_i u2 _ ; exact (u2.2 k h1).trans (gr.2 k hk h2))
  · intro hc21
    try simp only [decide_eq_true_eq, decide_eq_false_iff_not, Bool.not_eq_true', Bool.not_eq_false', Bool.and_eq_true, Bool.or_eq_false_iff] at hc21
    refine KC.skip ?_
    refine KQ.seq ?_
    refine KC.seq ?_
    refine KC.region ?_
    refine KL.op (R.move rfl rfl) rfl rfl rfl ?_
    refine KL.op (R.move rfl rfl) rfl rfl rfl ?_
    refine KL.op (R.nilCheck rfl rfl) rfl rfl rfl ?_
    refine KL.op ((by first | exact R.fieldAddr rfl Try.underlying58 rfl rfl sz22 rfl | exact R.fieldAddrP rfl Try.underlying58 rfl rfl sz22 rfl)) rfl rfl rfl ?_
    refine KL.op (R.load rfl Try.underlying22 rfl rfl (by first | exact cell_of hb rfl | assumption)) rfl rfl rfl ?_
    refine KL.op (R.move rfl rfl) rfl rfl rfl ?_
    refine KL.op (R.convI rfl Try.underlying23 Try.underlying3 rfl (by dsimp only [InR]; omega)) rfl rfl rfl ?_
    refine KL.op (R.mul rfl rfl rfl (by dsimp only [InR]; omega)) rfl rfl rfl ?_
    have lt1 := hw.lt
    refine KL.opM (M.appendZ (k := (n * 65536).toNat) rfl Try.underlying22 Try.underlying3 inf5 rfl rfl rfl rfl (by omega) hw (⟨rfl, by dsimp only [InR]; omega⟩) (by omega) (by omega) (by unfold maxLen; omega)) rfl rfl rfl ?_
    rintro vn H1 ⟨w1, g1, nx1⟩
    have ob1 := g1.oldB hw (by omega)
    have o0 := o0.trans (ob1.mono (by omega))
    have z1 := ob1.1
    have hb := (g1.2 _ (blk_lt hb) (by first | exact .inr (by omega) | exact .inl rfl | exact h.d.imp id (fun h e => h e.symm) | exact hne | exact lt1.imp id (fun h => by omega))).trans hb
    have hw := w1
    have hne : vn = .slice none 0 0 ∨ vblock vn ≠ g := (by
      rcases nx1 with h1 | ⟨h1, h2⟩ | h1
      · exact .inl h1
      · exact .inr (by rw [h2]; exact h.d.resolve_left h1)
      · exact .inr (by omega))
    have gr := g1
    refine KL.op (R.nilCheck rfl rfl) rfl rfl rfl ?_
    refine KL.op ((by first | exact R.fieldAddr rfl Try.underlying58 rfl rfl sz22 rfl | exact R.fieldAddrP rfl Try.underlying58 rfl rfl sz22 rfl)) rfl rfl rfl ?_
    refine KL.opS (S.store rfl sz22 rfl rfl hw.cells1 hw.one hb (by simp)) rfl rfl ?_
    rintro H2 ⟨u2, b2⟩
    have o0 := o0.trans (OldB.upd u2 (by omega))
    have zu2 := u2.1
    have hw := hw.upd u2 (by first | exact .inr (by omega) | exact h.d.imp id (fun h e => h e.symm) | exact hne | exact hw.lt.imp id (fun h => by omega))
    have hb := b2
    refine KL.nil ?_
    refine KQ.seq ?_
    refine KC.seq ?_
    refine KC.region ?_
    refine KL.op (R.move rfl rfl) rfl rfl rfl ?_
    refine KL.op (R.convI rfl Try.underlying28 Try.underlying23 rfl (by dsimp only [InR]; omega)) rfl rfl rfl ?_
    refine KL.op (R.assign rfl rfl) rfl rfl rfl ?_
    refine KL.nil ?_
    refine KQ.seq ?_
    refine KC.ret ?_
    refine KQ.ofRet ?_
    refine KQ.fin1 Try.results23 rfl ?_
    first
      | exact .inr ⟨by unfold growOk; omega, rfl, rfl⟩
      | (refine .inl ⟨by unfold growOk; omega, rfl, _, ⟨hb, hw, hne, ?_⟩, ⟨by omega, fun k hk h1 h2 => ?_⟩, by assumption⟩
         · rw [List.length_append, zeros_length]; omega
         · rename_i u2 _ ; exact (u2.2 k h1).trans (gr.2 k hk h2))


theorem rGrow_one {H : Heap} (g : Nat) (v : Value) (bs : List Int) (most : Int) (h : MAt 58 .u64 H g v bs most) (n : Int) (r : InR .u32 n) : Ct Try.prog 23 [.pointer (some ⟨g, 0, none⟩), .int .u32 n] H
    (fun u H' => u = .int .u32 (growU bs most n) ∧ ∃ v', MAt 58 .u64 H' g v' (growB bs most n) most ∧ Fr g v H H' ∧ Nx H v v') := by
  refine (rGrow_any g v bs most h n r).mono ?_
  rintro _ H' (⟨hk, rfl, v', hm, hf, nx⟩ | ⟨hk, rfl, rfl⟩)
  · unfold growU growB
    rw [if_pos hk, if_pos hk]
    exact ⟨rfl, v', hm, hf, nx⟩
  · unfold growU growB
    rw [if_neg hk, if_neg hk]
    refine ⟨rfl, v, h, Fr.refl _ _ _, ?_⟩
    by_cases hv : v = .slice none 0 0
    · exact .inl hv
    · exact .inr (.inl ⟨hv, rfl⟩)

set_option maxRecDepth 100000 in
set_option maxHeartbeats 4000000 in
theorem rGet_any {H : Heap} (g : Nat) (v : Value) (bs : List Int) (most : Int) (h : MAt 58 .u64 H g v bs most) (at_ n : Int) (r2 : InR .u32 at_) (r3 : InR .u32 n) : Ct Try.prog 24 [.pointer (some ⟨g, 0, none⟩), .int .u32 at_, .int .u32 n] H (fun r H' => ∃ x, r = .tuple #[x, .bool (decide (at_ + n ≤ bs.length))] ∧ Own 1 (EInt .u8) 5 #[] H.size H' x (prtP bs at_ n) ∧ Old H H') := by
  refine Ct.mk Try.func24 rfl Try.ntmps24 rfl ?_
  intro W0 hW0
  have o0 : Old H H := Old.refl H
  have hb := h.b
  have hw := h.w
  have hn := h.n
  have hs := hw.sl (emptyOld _) (by decide)
  dsimp only [InR] at r2 r3
  refine KC.seq ?_
  refine KC.region ?_
  refine KL.op (R.assign rfl rfl) rfl rfl rfl ?_
  refine KL.op (R.assign rfl rfl) rfl rfl rfl ?_
  refine KL.nil ?_
  refine KQ.seq ?_
  refine KC.seq ?_
  refine KC.seq ?_
  refine KC.region ?_
  refine KL.op (R.move rfl rfl) rfl rfl rfl ?_
  refine KL.op (R.move rfl rfl) rfl rfl rfl ?_
  refine KL.op (R.convI rfl Try.underlying23 Try.underlying28 rfl (by dsimp only [InR]; omega)) rfl rfl rfl ?_
  refine KL.op (R.move rfl rfl) rfl rfl rfl ?_
  refine KL.op (R.convI rfl Try.underlying23 Try.underlying3 rfl (by dsimp only [InR]; omega)) rfl rfl rfl ?_
  refine KL.call rfl rfl rfl rfl Try.call31 rfl rfl rfl (rin_any _ _ _ _ h at_ n (by omega) (by omega) (by omega) (by omega)) ?_
  rintro _ _ ⟨rfl, rfl⟩
  refine KL.op (R.not rfl rfl) rfl rfl rfl ?_
  refine KL.nil ?_
  refine KQ.seq ?_
  refine KC.iteL rfl ?_ ?_
  · intro hc14
    try simp only [decide_eq_true_eq, decide_eq_false_iff_not, Bool.not_eq_true', Bool.not_eq_false', Bool.and_eq_true, Bool.or_eq_false_iff] at hc14
    have hin : ¬ at_ + n ≤ bs.length := (by simpa using hc14)
    refine KC.seq ?_
    refine KC.region ?_
    refine KL.op (R.assign rfl rfl) rfl rfl rfl ?_
    refine KL.op (R.assign rfl rfl) rfl rfl rfl ?_
    refine KL.nil ?_
    refine KQ.seq ?_
    refine KC.ret ?_
    refine KQ.retThen ?_
    refine KQ.ofRet ?_
    refine KQ.fin2 Try.results24 rfl rfl ?_
    first
      | (refine ⟨_, by rw [decide_eq_false hin], ?_, o0⟩
         unfold prtP
         rw [if_neg hin]
         exact Own.nil _ _ _ _ _ _)
      | (refine ⟨_, by rw [decide_eq_true hin], ?_, o0⟩
         unfold prtP prt
         rw [if_pos hin, show at_.toNat + n.toNat = (at_ + n).toNat by omega]
         exact wv)
  · intro hc14
    try simp only [decide_eq_true_eq, decide_eq_false_iff_not, Bool.not_eq_true', Bool.not_eq_false', Bool.and_eq_true, Bool.or_eq_false_iff] at hc14
    have hin : at_ + n ≤ bs.length := (by simpa using hc14)
    refine KC.skip ?_
    refine KQ.seq ?_
    refine KC.seq ?_
    refine KC.region ?_
    refine KL.opM (M.lit rfl Try.underlying22 zs5 (by decide) rfl rfl rfl) rfl rfl rfl ?_
    rintro _ H1 ⟨rfl, n1⟩
    have z1 := n1.2.1
    have o0 := o0.trans n1.1
    have hb := (n1.1).blk hb
    have b1 := n1.2.2
    have wv : Own 1 (EInt .u8) 5 #[] H.size H1 _ ([] : List Int) := Own.lit (l := ([] : List Int)) n1 (Nat.le_refl _) rfl (by unfold maxLen; simp) rfl (by simp [nth])
    refine KL.op (R.move rfl rfl) rfl rfl rfl ?_
    refine KL.op (R.nilCheck rfl rfl) rfl rfl rfl ?_
    refine KL.op ((by first | exact R.fieldAddr rfl Try.underlying58 rfl rfl sz22 rfl | exact R.fieldAddrP rfl Try.underlying58 rfl rfl sz22 rfl)) rfl rfl rfl ?_
    refine KL.op (R.load rfl Try.underlying22 rfl rfl (by first | exact cell_of hb rfl | assumption)) rfl rfl rfl ?_
    refine KL.op (R.move rfl rfl) rfl rfl rfl ?_
    refine KL.op (R.move rfl rfl) rfl rfl rfl ?_
    refine KL.op (R.convI rfl Try.underlying23 Try.underlying28 rfl (by dsimp only [InR]; omega)) rfl rfl rfl ?_
    refine KL.op (R.move rfl rfl) rfl rfl rfl ?_
    refine KL.op (R.convI rfl Try.underlying23 Try.underlying28 rfl (by dsimp only [InR]; omega)) rfl rfl rfl ?_
    refine KL.op (R.add rfl rfl rfl (by dsimp only [InR]; omega)) rfl rfl rfl ?_
    refine KL.op (R.slice (i := at_.toNat) (j := (at_ + n).toNat) rfl Try.underlying22 sz5 rfl (hs.old o0) (bnd.mk rfl (by omega)) (bnd.mk rfl (by omega)) (by omega) (by omega)) rfl rfl rfl ?_
    have lt2 := wv.lt
    refine KL.opM (M.append rfl Try.underlying22 inf5 rfl (by decide) rfl rfl wv (by exact (hs.old o0).sub (lo := at_.toNat) (hi := (at_ + n).toNat) (by omega) (by omega)) (fun _ _ h _ => h) (by omega) (by simp; omega) (by unfold maxLen; simp; omega)) rfl rfl rfl ?_
    rintro v2 H2 ⟨w2, g2⟩
    have ob2 := g2.oldB wv (by omega)
    have o0 := o0.then ob2 (by omega)
    have z2 := ob2.1
    have wv := w2
    refine KL.op (R.assign rfl rfl) rfl rfl rfl ?_
    refine KL.op (R.assign rfl rfl) rfl rfl rfl ?_
    refine KL.nil ?_
    refine KQ.seq ?_
    refine KC.ret ?_
    refine KQ.ofRet ?_
    refine KQ.fin2 Try.results24 rfl rfl ?_
    first
      | (refine ⟨_, by rw [decide_eq_false hin], ?_, o0⟩
         unfold prtP
         rw [if_neg hin]
         exact Own.nil _ _ _ _ _ _)
      | (refine ⟨_, by rw [decide_eq_true hin], ?_, o0⟩
         unfold prtP prt
         rw [if_pos hin, show at_.toNat + n.toNat = (at_ + n).toNat by omega]
         exact wv)


theorem Sl.keepU {α : Type} {n : Nat} {E : El α} {H H' : Heap} {v : Value} {l : List α} {g : Nat} (h : Sl n E H v l) (u : Upd g H H') (hk : vblock v ≠ g) (hE : ∀ cs x, E H cs x → E H' cs x) : Sl n E H' v l := by
  obtain ⟨a, cap, hv, h1, h2, h3, h4, h5⟩ := h
  refine ⟨a, cap, hv, h1, h2, h3, h4, fun j x hj => ?_⟩
  obtain ⟨cs, e1, e2, e3⟩ := h5 j x hj
  refine ⟨cs, e1, fun i w hw => ?_, hE _ _ e3⟩
  have := e2 i w hw
  have hb : (((vbase v).add (j * n)).add i).block = vblock v := by
    unfold vblock Addr.add
    repeat' split
    all_goals rfl
  unfold cellH at this ⊢
  rw [hb] at this ⊢
  rw [u.2 _ hk]
  exact this

set_option maxRecDepth 100000 in
set_option maxHeartbeats 4000000 in
theorem rPut_any {H : Heap} (g : Nat) (v : Value) (bs : List Int) (most : Int) (h : MAt 58 .u64 H g v bs most) (at_ : Int) (r2 : InR .u32 at_) (u : Value) (m : List Int) (hs2 : Sl 1 (EInt .u8) H u m) (hm0 : m.length ≤ 9223372036854775807) (huv : m = [] ∨ v = .slice none 0 0 ∨ vblock u ≠ vblock v) : Ct Try.prog 25 [.pointer (some ⟨g, 0, none⟩), .int .u32 at_, u] H (fun r H' => r = .bool (decide (at_ + m.length ≤ bs.length)) ∧ MAt 58 .u64 H' g v (putB bs at_ m) most ∧ Fr g v H H') := by
  refine Ct.mk Try.func25 rfl Try.ntmps25 rfl ?_
  intro W0 hW0
  have o0 : OldB 0 H H := OldB.refl _ H
  have hb := h.b
  have hw := h.w
  have hn := h.n
  have hs := hw.sl (emptyOld _) (by decide)
  dsimp only [InR] at r2
  refine KC.seq ?_
  refine KC.region ?_
  refine KL.op (R.assign rfl rfl) rfl rfl rfl ?_
  refine KL.nil ?_
  refine KQ.seq ?_
  refine KC.seq ?_
  refine KC.seq ?_
  refine KC.region ?_
  refine KL.op (R.move rfl rfl) rfl rfl rfl ?_
  refine KL.op (R.move rfl rfl) rfl rfl rfl ?_
  refine KL.op (R.convI rfl Try.underlying23 Try.underlying28 rfl (by dsimp only [InR]; omega)) rfl rfl rfl ?_
  refine KL.op (R.move rfl rfl) rfl rfl rfl ?_
  refine KL.op ((by first | exact R.lenS rfl Try.underlying22 rfl (by first | exact hs2 | exact hsu | assumption) | exact R.len (ty := 0) rfl Try.underlying22 rfl)) rfl rfl rfl ?_
  refine KL.call rfl rfl rfl rfl Try.call31 rfl rfl rfl (rin_any _ _ _ _ h at_ m.length (by omega) (by omega) (by omega) (by omega)) ?_
  rintro _ _ ⟨rfl, rfl⟩
  refine KL.op (R.not rfl rfl) rfl rfl rfl ?_
  refine KL.nil ?_
  refine KQ.seq ?_
  refine KC.iteL rfl ?_ ?_
  · intro hc14
    try simp only [decide_eq_true_eq, decide_eq_false_iff_not, Bool.not_eq_true', Bool.not_eq_false', Bool.and_eq_true, Bool.or_eq_false_iff] at hc14
    have hin : ¬ at_ + m.length ≤ bs.length := (by simpa using hc14)
    refine KC.seq ?_
    refine KC.region ?_
    refine KL.op (R.assign rfl rfl) rfl rfl rfl ?_
    refine KL.nil ?_
    refine KQ.seq ?_
    refine KC.ret ?_
    refine KQ.retThen ?_
    refine KQ.ofRet ?_
    refine KQ.fin1 Try.results25 rfl ?_
    unfold putB
    first
      | (rw [decide_eq_false hin, if_neg hin]
         exact ⟨rfl, h, Fr.refl _ _ _⟩)
      | (have ek : k = m.length := (by omega)
         subst ek
         rw [decide_eq_true hin, if_pos hin]
         rw [List.take_length] at hm
         exact ⟨rfl, hm, hf⟩)
  · intro hc14
    try simp only [decide_eq_true_eq, decide_eq_false_iff_not, Bool.not_eq_true', Bool.not_eq_false', Bool.and_eq_true, Bool.or_eq_false_iff] at hc14
    have hin : at_ + m.length ≤ bs.length := (by simpa using hc14)
    refine KC.skip ?_
    refine KQ.seq ?_
    refine KC.seq ?_
    refine KC.seq ?_
    refine KC.region ?_
    refine KL.op (R.assign rfl rfl) rfl rfl rfl ?_
    refine KL.nil ?_
    refine KQ.seq ?_
    refine KC.block ?_
    refine KC.loopD (κ := Nat) [15, 16, 17, 18, 21, 22, 23, 24, 25, 26, 27, 28, 29, 30, 31, 32, 33, 19, 20, 7] (fun k => [(7, .int .i64 (k : Nat))]) (fun k Hl => k ≤ m.length ∧ MAt 58 .u64 Hl g v (putAt bs at_.toNat (m.take k)) most ∧ Fr g v H Hl ∧ Sl 1 (EInt .u8) Hl u m) (fun k => m.length - k) 0 ?_ ?_ ?_
    · exact (Sub.cons rfl (Ext.sub (Ext.refl _ _)))
    · exact ⟨Nat.zero_le _, by rw [List.take_zero, putAt_nil]; exact h, Fr.refl _ _ _, hs2⟩
    · rintro k H1 ⟨hk, hm, hf, hsu⟩
      have o0 : OldB 0 H H1 := ⟨hf.1, fun k hk => absurd hk (by omega)⟩
      have hb := hm.b
      have hw := hm.w
      refine KC.seq ?_
      refine KC.seq ?_
      refine KC.region ?_
      refine KL.op (R.move rfl rfl) rfl rfl rfl ?_
      refine KL.op (R.move rfl rfl) rfl rfl rfl ?_
      refine KL.op ((by first | exact R.lenS rfl Try.underlying22 rfl (by first | exact hs2 | exact hsu | assumption) | exact R.len (ty := 0) rfl Try.underlying22 rfl)) rfl rfl rfl ?_
      refine KL.op (R.lss rfl rfl rfl) rfl rfl rfl ?_
      refine KL.nil ?_
      refine KQ.seq ?_
      refine KC.iteL rfl ?_ ?_
      · intro hc18
        try simp only [decide_eq_true_eq, decide_eq_false_iff_not, Bool.not_eq_true', Bool.not_eq_false', Bool.and_eq_true, Bool.or_eq_false_iff] at hc18
        have hpl2 : (putAt bs at_.toNat (m.take k)).length = bs.length := putAt_length (by rw [List.length_take]; omega)
        obtain ⟨g0, cap, hv0, hcap, hne, hgv, hvl⟩ := own_some hm (by omega)
        have hub : vblock u ≠ vblock v := (by
          rcases huv with h1 | h1 | h1
          · rw [h1] at hc18; simp at hc18; omega
          · exact absurd h1 hne
          · exact h1)
        refine KC.skip ?_
        refine KQ.seq ?_
        refine KC.seq ?_
        refine KC.block ?_
        refine KC.text (clOf [(3, 1), (11, 1), (13, 2)]) (fun _ _ => True) (by kernel_rfl) (by kernel_rfl) (fun _ => trivial) ?_
        refine KP.op rfl (fun Hg hg => R.move rfl rfl) rfl rfl rfl ?_
        refine KP.op rfl (fun Hg hg => R.nilCheck rfl rfl) rfl rfl rfl ?_
        refine KP.op rfl (fun Hg hg => (by first | exact R.fieldAddr rfl Try.underlying58 rfl rfl sz22 rfl | exact R.fieldAddrP rfl Try.underlying58 rfl rfl sz22 rfl)) rfl rfl rfl ?_
        refine KP.now rfl (R.load rfl Try.underlying22 rfl rfl (by first | exact cell_of hb rfl | exact (hsu.int k (by omega)).1 | assumption)) rfl rfl rfl ?_
        refine KP.op rfl (fun Hg hg => R.move rfl rfl) rfl rfl rfl ?_
        refine KP.op rfl (fun Hg hg => R.convI rfl Try.underlying23 Try.underlying3 rfl (by dsimp only [InR]; omega)) rfl rfl rfl ?_
        refine KP.op rfl (fun Hg hg => R.move rfl rfl) rfl rfl rfl ?_
        refine KP.op rfl (fun Hg hg => R.add rfl rfl rfl (by dsimp only [InR]; omega)) rfl rfl rfl ?_
        refine KP.op rfl (fun Hg hg => R.move rfl rfl) rfl rfl rfl ?_
        refine KP.op rfl (fun Hg hg => R.move rfl rfl) rfl rfl rfl ?_
        refine KP.op rfl (fun Hg hg => R.index1 (j := k) rfl Try.underlying22 sz5 rfl rfl hsu rfl (by omega)) rfl rfl rfl ?_
        refine KP.now rfl (R.load rfl Try.underlying5 rfl rfl (by first | exact cell_of hb rfl | exact (hsu.int k (by omega)).1 | assumption)) rfl rfl rfl ?_
        refine KP.op rfl (fun Hg hg => R.indexO1 (j := at_.toNat + k) rfl Try.underlying22 sz5 rfl rfl hw (by omega) (by omega)) rfl rfl rfl ?_
        refine KP.opS rfl (S.own1 rfl sz5 rfl rfl rfl rfl hw (by omega) ⟨rfl, (hsu.int k (by omega)).2⟩) rfl rfl (fun _ _ _ _ _ => trivial) ?_
        rintro H2 ⟨u2, w2⟩
        have o0 := o0.trans (OldB.upd u2 (by omega))
        have zu2 := u2.1
        have hb := ((u2).2 _ (by omega)).trans hb
        have hw := w2
        refine KP.nil ?_
        refine KQ.normBlock ?_
        refine KQ.seq ?_
        refine KC.region ?_
        refine KL.op (R.move rfl rfl) rfl rfl rfl ?_
        refine KL.op (R.add rfl rfl rfl (by dsimp only [InR]; omega)) rfl rfl rfl ?_
        refine KL.op (R.assign rfl rfl) rfl rfl rfl ?_
        refine KL.nil ?_
        refine KQ.again (k + 1) ?_ ?_ ?_
        · exact (Sub.cons rfl (Ext.sub (by repeat (first | exact Ext.refl _ _ | refine Ext.put rfl ?_ | refine Ext.drop rfl ?_))))
        · omega
        · exact by
            refine ⟨by omega, ⟨hb, ?_, hm.d, by rw [putAt_length (by rw [List.length_take]; omega)]; exact hn⟩, hf.trans (Fr.ofUpd hne (by assumption)), hsu.keepU (by assumption) hub (fun _ _ h => h)⟩
            rw [take_putAt (m := m) (k := k) (by omega), ← putAt_set (bs := bs) (p := at_.toNat) (k := k) (by omega) (by rw [List.length_take]; omega)]
            exact hw
      · intro hc18
        try simp only [decide_eq_true_eq, decide_eq_false_iff_not, Bool.not_eq_true', Bool.not_eq_false', Bool.and_eq_true, Bool.or_eq_false_iff] at hc18
        refine KC.exit ?_
        refine KQ.exitThen ?_
        refine KQ.exitThen ?_
        refine KQ.hit ?_
        refine KQ.seq ?_
        refine KC.seq ?_
        refine KC.region ?_
        refine KL.op (R.assign rfl rfl) rfl rfl rfl ?_
        refine KL.nil ?_
        refine KQ.seq ?_
        refine KC.ret ?_
        refine KQ.ofRet ?_
        refine KQ.fin1 Try.results25 rfl ?_
        unfold putB
        first
          | (rw [decide_eq_false hin, if_neg hin]
             exact ⟨rfl, h, Fr.refl _ _ _⟩)
          | (have ek : k = m.length := (by omega)
             subst ek
             rw [decide_eq_true hin, if_pos hin]
             rw [List.take_length] at hm
             exact ⟨rfl, hm, hf⟩)

set_option maxRecDepth 100000 in
set_option maxHeartbeats 4000000 in
theorem rNew_any {H : Heap} (mn mx : Int) (r1 : InR .u32 mn) (r2 : InR .i64 mx) : Ct Try.prog 20 [.agg #[.int .u32 mn, .int .i64 mx]] H (fun u H' => Old H H' ∧ ((newOk mn mx ∧ ∃ g v, u = .tuple #[.pointer (some ⟨g, 0, none⟩), .bool true] ∧ MAt 58 .u64 H' g v (zeros mn) (newM mx) ∧ Fresh H.size g v) ∨ (¬ newOk mn mx ∧ u = .tuple #[.pointer none, .bool false]))) := by
  refine Ct.mk Try.func20 rfl Try.ntmps20 rfl ?_
  intro W0 hW0
  have o0 : Old H H := Old.refl H
  dsimp only [InR] at r1 r2
  refine KC.seq ?_
  refine KC.region ?_
  refine KL.opM (M.box rfl rfl rfl) rfl rfl rfl ?_
  rintro _ H1 ⟨rfl, n1⟩
  have z1 := n1.2.1
  have o0 := o0.trans n1.1
  have b1 := n1.2.2
  have bl := b1
  refine KL.op (R.assign rfl rfl) rfl rfl rfl ?_
  refine KL.op (R.assign rfl rfl) rfl rfl rfl ?_
  refine KL.nil ?_
  refine KQ.seq ?_
  refine KC.seq ?_
  refine KC.seq ?_
  refine KC.region ?_
  refine KL.op ((by first | exact R.fieldAddr rfl Try.underlying42 rfl rfl sz23 rfl | exact R.fieldAddrP rfl Try.underlying42 rfl rfl sz23 rfl)) rfl rfl rfl ?_
  refine KL.op (R.load rfl Try.underlying23 rfl rfl (by first | exact cell_of bl rfl | assumption)) rfl rfl rfl ?_
  refine KL.op (R.gtr rfl rfl rfl) rfl rfl rfl ?_
  refine KL.op (R.move rfl rfl) rfl rfl rfl ?_
  refine KL.case (d := 8) rfl ?_ ?_
  · intro hg8
    try simp only [decide_eq_true_eq, decide_eq_false_iff_not, Bool.not_eq_true', Bool.not_eq_false', Bool.and_eq_true, Bool.or_eq_false_iff] at hg8
    refine KL.skip rfl rfl rfl ?_
    refine KL.skip rfl rfl rfl ?_
    refine KL.skip rfl rfl rfl ?_
    refine KL.skip rfl rfl rfl ?_
    refine KL.skip rfl rfl rfl ?_
    refine KL.skip rfl rfl rfl ?_
    refine KL.skip rfl rfl rfl ?_
    refine KL.skip rfl rfl rfl ?_
    refine KL.skip rfl rfl rfl ?_
    refine KL.skip rfl rfl rfl ?_
    refine KL.skip rfl rfl rfl ?_
    refine KL.op (R.pick rfl rfl rfl) rfl rfl rfl ?_
    refine KL.nil ?_
    refine KQ.seq ?_
    refine KC.condT rfl ?_
    refine KC.seq ?_
    refine KC.region ?_
    refine KL.op (R.assign rfl rfl) rfl rfl rfl ?_
    refine KL.op (R.assign rfl rfl) rfl rfl rfl ?_
    refine KL.nil ?_
    refine KQ.seq ?_
    refine KC.ret ?_
    refine KQ.retThen ?_
    refine KQ.ofRet ?_
    refine KQ.fin2 Try.results20 rfl rfl ?_
    first
      | exact ⟨o0, .inr ⟨by unfold newOk; omega, rfl⟩⟩
      | (have eM : newM mx = mx := (by unfold newM; rw [if_pos (by omega)]; omega)
         rw [eM]
         exact ⟨o0, .inl ⟨by unfold newOk; omega, _, _, rfl, ⟨bm, wv, .inr (by omega), by rw [zeros_length]; omega⟩, by omega, .inr (by omega)⟩⟩)
      | (have eM : newM mx = 16 := (by unfold newM; first | (rw [if_pos (by omega)]; omega) | rw [if_neg (by omega)])
         rw [eM]
         exact ⟨o0, .inl ⟨by unfold newOk; omega, _, _, rfl, ⟨bm, wv, .inr (by omega), by rw [zeros_length]; omega⟩, by omega, .inr (by omega)⟩⟩)
  · intro hg8
    try simp only [decide_eq_true_eq, decide_eq_false_iff_not, Bool.not_eq_true', Bool.not_eq_false', Bool.and_eq_true, Bool.or_eq_false_iff] at hg8
    refine KL.op ((by first | exact R.fieldAddr rfl Try.underlying42 rfl rfl sz2 rfl | exact R.fieldAddrP rfl Try.underlying42 rfl rfl sz2 rfl)) rfl rfl rfl ?_
    refine KL.op (R.load rfl Try.underlying2 rfl rfl (by first | exact cell_of bl rfl | assumption)) rfl rfl rfl ?_
    refine KL.op (R.geq rfl rfl rfl) rfl rfl rfl ?_
    refine KL.op (R.move rfl rfl) rfl rfl rfl ?_
    refine KL.case (d := 12) rfl ?_ ?_
    · intro hg12
      try simp only [decide_eq_true_eq, decide_eq_false_iff_not, Bool.not_eq_true', Bool.not_eq_false', Bool.and_eq_true, Bool.or_eq_false_iff] at hg12
      refine KL.op ((by first | exact R.fieldAddr rfl Try.underlying42 rfl rfl sz2 rfl | exact R.fieldAddrP rfl Try.underlying42 rfl rfl sz2 rfl)) rfl rfl rfl ?_
      refine KL.op (R.load rfl Try.underlying2 rfl rfl (by first | exact cell_of bl rfl | assumption)) rfl rfl rfl ?_
      refine KL.op ((by first | exact R.fieldAddr rfl Try.underlying42 rfl rfl sz23 rfl | exact R.fieldAddrP rfl Try.underlying42 rfl rfl sz23 rfl)) rfl rfl rfl ?_
      refine KL.op (R.load rfl Try.underlying23 rfl rfl (by first | exact cell_of bl rfl | assumption)) rfl rfl rfl ?_
      refine KL.op (R.convI rfl Try.underlying23 Try.underlying2 rfl (by dsimp only [InR]; omega)) rfl rfl rfl ?_
      refine KL.op (R.lss rfl rfl rfl) rfl rfl rfl ?_
      refine KL.op (R.pick rfl rfl rfl) rfl rfl rfl ?_
      refine KL.op (R.pick rfl rfl rfl) rfl rfl rfl ?_
      refine KL.nil ?_
      refine KQ.seq ?_
      refine KC.iteL rfl ?_ ?_
      · intro hc20
        try simp only [decide_eq_true_eq, decide_eq_false_iff_not, Bool.not_eq_true', Bool.not_eq_false', Bool.and_eq_true, Bool.or_eq_false_iff] at hc20
        refine KC.seq ?_
        refine KC.region ?_
        refine KL.op (R.assign rfl rfl) rfl rfl rfl ?_
        refine KL.op (R.assign rfl rfl) rfl rfl rfl ?_
        refine KL.nil ?_
        refine KQ.seq ?_
        refine KC.ret ?_
        refine KQ.retThen ?_
        refine KQ.ofRet ?_
        refine KQ.fin2 Try.results20 rfl rfl ?_
        first
          | exact ⟨o0, .inr ⟨by unfold newOk; omega, rfl⟩⟩
          | (have eM : newM mx = mx := (by unfold newM; rw [if_pos (by omega)]; omega)
             rw [eM]
             exact ⟨o0, .inl ⟨by unfold newOk; omega, _, _, rfl, ⟨bm, wv, .inr (by omega), by rw [zeros_length]; omega⟩, by omega, .inr (by omega)⟩⟩)
          | (have eM : newM mx = 16 := (by unfold newM; first | (rw [if_pos (by omega)]; omega) | rw [if_neg (by omega)])
             rw [eM]
             exact ⟨o0, .inl ⟨by unfold newOk; omega, _, _, rfl, ⟨bm, wv, .inr (by omega), by rw [zeros_length]; omega⟩, by omega, .inr (by omega)⟩⟩)
      · intro hc20
        try simp only [decide_eq_true_eq, decide_eq_false_iff_not, Bool.not_eq_true', Bool.not_eq_false', Bool.and_eq_true, Bool.or_eq_false_iff] at hc20
        refine KC.skip ?_
        refine KQ.seq ?_
        refine KC.seq ?_
        refine KC.region ?_
        refine KL.op ((by first | exact R.fieldAddr rfl Try.underlying42 rfl rfl sz23 rfl | exact R.fieldAddrP rfl Try.underlying42 rfl rfl sz23 rfl)) rfl rfl rfl ?_
        refine KL.op (R.load rfl Try.underlying23 rfl rfl (by first | exact cell_of bl rfl | assumption)) rfl rfl rfl ?_
        refine KL.op (R.convI rfl Try.underlying23 Try.underlying3 rfl (by dsimp only [InR]; omega)) rfl rfl rfl ?_
        refine KL.op (R.mul rfl rfl rfl (by dsimp only [InR]; omega)) rfl rfl rfl ?_
        have hvb : vblock (Value.slice (some ⟨Array.size H1, 0, none⟩) (mn * 65536).toNat (mn * 65536).toNat) = Array.size H1 := rfl
        refine KL.opM (M.make rfl Try.underlying22 inf5 rfl rfl rfl (by omega) (by omega) (by omega) (by omega)) rfl rfl rfl ?_
        rintro _ H2 ⟨rfl, n2⟩
        have z2 := n2.2.1
        have o0 := o0.trans n2.1
        have bl := (n2.1).blk bl
        have b2 := n2.2.2
        have bz := b2
        have wv : Own 1 (EInt .u8) 5 #[] 0 H2 _ (zeros mn) := Own.made n2 (Nat.zero_le _) (by unfold maxLen; omega) ⟨rfl, by dsimp only [InR]; omega⟩
        refine KL.op (R.buildL rfl Try.underlying58 zr58 [(0, 1), (1, 1)] (fun w => by kernel_rfl) rfl ⟨⟨_, rfl, rfl⟩, ⟨_, rfl, rfl⟩, trivial⟩ rfl rfl ⟨⟨_, rfl, by first | rfl | exact rfl | exact wv.cells1⟩, ⟨_, rfl, by first | rfl | exact rfl | exact wv.cells1⟩, trivial⟩ rfl) rfl rfl rfl ?_
        refine KL.opM (M.box rfl rfl rfl) rfl rfl rfl ?_
        rintro _ H3 ⟨rfl, n3⟩
        have z3 := n3.2.1
        have o0 := o0.trans n3.1
        have bl := (n3.1).blk bl
        have wv := wv.old n3.1
        have b3 := n3.2.2
        have bm := b3
        refine KL.op (R.assign rfl rfl) rfl rfl rfl ?_
        refine KL.nil ?_
        refine KQ.seq ?_
        refine KC.seq ?_
        refine KC.seq ?_
        refine KC.region ?_
        refine KL.op ((by first | exact R.fieldAddr rfl Try.underlying42 rfl rfl sz2 rfl | exact R.fieldAddrP rfl Try.underlying42 rfl rfl sz2 rfl)) rfl rfl rfl ?_
        refine KL.op (R.load rfl Try.underlying2 rfl rfl (by first | exact cell_of bl rfl | exact cell_of bm rfl | assumption)) rfl rfl rfl ?_
        refine KL.op (R.geq rfl rfl rfl) rfl rfl rfl ?_
        refine KL.op (R.move rfl rfl) rfl rfl rfl ?_
        refine KL.case (d := 31) rfl ?_ ?_
        · intro hg31
          try simp only [decide_eq_true_eq, decide_eq_false_iff_not, Bool.not_eq_true', Bool.not_eq_false', Bool.and_eq_true, Bool.or_eq_false_iff] at hg31
          refine KL.op ((by first | exact R.fieldAddr rfl Try.underlying42 rfl rfl sz2 rfl | exact R.fieldAddrP rfl Try.underlying42 rfl rfl sz2 rfl)) rfl rfl rfl ?_
          refine KL.op (R.load rfl Try.underlying2 rfl rfl (by first | exact cell_of bl rfl | exact cell_of bm rfl | assumption)) rfl rfl rfl ?_
          refine KL.op (R.lss rfl rfl rfl) rfl rfl rfl ?_
          refine KL.op (R.pick rfl rfl rfl) rfl rfl rfl ?_
          refine KL.nil ?_
          refine KQ.seq ?_
          refine KC.iteL rfl ?_ ?_
          · intro hc35
            try simp only [decide_eq_true_eq, decide_eq_false_iff_not, Bool.not_eq_true', Bool.not_eq_false', Bool.and_eq_true, Bool.or_eq_false_iff] at hc35
            refine KC.region ?_
            refine KL.op (R.move rfl rfl) rfl rfl rfl ?_
            refine KL.op ((by first | exact R.fieldAddr rfl Try.underlying42 rfl rfl sz2 rfl | exact R.fieldAddrP rfl Try.underlying42 rfl rfl sz2 rfl)) rfl rfl rfl ?_
            refine KL.op (R.load rfl Try.underlying2 rfl rfl (by first | exact cell_of bl rfl | exact cell_of bm rfl | assumption)) rfl rfl rfl ?_
            refine KL.op (R.convI rfl Try.underlying2 Try.underlying28 rfl (by dsimp only [InR]; omega)) rfl rfl rfl ?_
            refine KL.op (R.nilCheck rfl rfl) rfl rfl rfl ?_
            refine KL.op ((by first | exact R.fieldAddr rfl Try.underlying58 rfl rfl sz28 rfl | exact R.fieldAddrP rfl Try.underlying58 rfl rfl sz28 rfl)) rfl rfl rfl ?_
            refine KL.opS (S.store rfl sz28 rfl rfl rfl rfl bm (by simp)) rfl rfl ?_
            rintro H4 ⟨u4, b4⟩
            have o0 := o0.upd u4 (by omega)
            have zu4 := u4.1
            have bl := ((u4).2 _ (by omega)).trans bl
            have wv := wv.upd u4 (by first | exact .inr (by omega) | exact wv.lt.imp id (fun h => by omega))
            have bm := b4
            refine KL.nil ?_
            refine KQ.seq ?_
            refine KC.seq ?_
            refine KC.region ?_
            refine KL.op (R.move rfl rfl) rfl rfl rfl ?_
            refine KL.op (R.assign rfl rfl) rfl rfl rfl ?_
            refine KL.op (R.assign rfl rfl) rfl rfl rfl ?_
            refine KL.nil ?_
            refine KQ.seq ?_
            refine KC.ret ?_
            refine KQ.ofRet ?_
            refine KQ.fin2 Try.results20 rfl rfl ?_
            first
              | exact ⟨o0, .inr ⟨by unfold newOk; omega, rfl⟩⟩
              | (have eM : newM mx = mx := (by unfold newM; rw [if_pos (by omega)]; omega)
                 rw [eM]
                 exact ⟨o0, .inl ⟨by unfold newOk; omega, _, _, rfl, ⟨bm, wv, .inr (by omega), by rw [zeros_length]; omega⟩, by omega, .inr (by omega)⟩⟩)
              | (have eM : newM mx = 16 := (by unfold newM; first | (rw [if_pos (by omega)]; omega) | rw [if_neg (by omega)])
                 rw [eM]
                 exact ⟨o0, .inl ⟨by unfold newOk; omega, _, _, rfl, ⟨bm, wv, .inr (by omega), by rw [zeros_length]; omega⟩, by omega, .inr (by omega)⟩⟩)
          · intro hc35
            try simp only [decide_eq_true_eq, decide_eq_false_iff_not, Bool.not_eq_true', Bool.not_eq_false', Bool.and_eq_true, Bool.or_eq_false_iff] at hc35
            refine KC.skip ?_
            refine KQ.seq ?_
            refine KC.seq ?_
            refine KC.region ?_
            refine KL.op (R.move rfl rfl) rfl rfl rfl ?_
            refine KL.op (R.assign rfl rfl) rfl rfl rfl ?_
            refine KL.op (R.assign rfl rfl) rfl rfl rfl ?_
            refine KL.nil ?_
            refine KQ.seq ?_
            refine KC.ret ?_
            refine KQ.ofRet ?_
            refine KQ.fin2 Try.results20 rfl rfl ?_
            first
              | exact ⟨o0, .inr ⟨by unfold newOk; omega, rfl⟩⟩
              | (have eM : newM mx = mx := (by unfold newM; rw [if_pos (by omega)]; omega)
                 rw [eM]
                 exact ⟨o0, .inl ⟨by unfold newOk; omega, _, _, rfl, ⟨bm, wv, .inr (by omega), by rw [zeros_length]; omega⟩, by omega, .inr (by omega)⟩⟩)
              | (have eM : newM mx = 16 := (by unfold newM; first | (rw [if_pos (by omega)]; omega) | rw [if_neg (by omega)])
                 rw [eM]
                 exact ⟨o0, .inl ⟨by unfold newOk; omega, _, _, rfl, ⟨bm, wv, .inr (by omega), by rw [zeros_length]; omega⟩, by omega, .inr (by omega)⟩⟩)
        · intro hg31
          try simp only [decide_eq_true_eq, decide_eq_false_iff_not, Bool.not_eq_true', Bool.not_eq_false', Bool.and_eq_true, Bool.or_eq_false_iff] at hg31
          refine KL.skip rfl rfl rfl ?_
          refine KL.skip rfl rfl rfl ?_
          refine KL.skip rfl rfl rfl ?_
          refine KL.op (R.pick rfl rfl rfl) rfl rfl rfl ?_
          refine KL.nil ?_
          refine KQ.seq ?_
          refine KC.condF rfl ?_
          refine KC.skip ?_
          refine KQ.seq ?_
          refine KC.seq ?_
          refine KC.region ?_
          refine KL.op (R.move rfl rfl) rfl rfl rfl ?_
          refine KL.op (R.assign rfl rfl) rfl rfl rfl ?_
          refine KL.op (R.assign rfl rfl) rfl rfl rfl ?_
          refine KL.nil ?_
          refine KQ.seq ?_
          refine KC.ret ?_
          refine KQ.ofRet ?_
          refine KQ.fin2 Try.results20 rfl rfl ?_
          first
            | exact ⟨o0, .inr ⟨by unfold newOk; omega, rfl⟩⟩
            | (have eM : newM mx = mx := (by unfold newM; rw [if_pos (by omega)]; omega)
               rw [eM]
               exact ⟨o0, .inl ⟨by unfold newOk; omega, _, _, rfl, ⟨bm, wv, .inr (by omega), by rw [zeros_length]; omega⟩, by omega, .inr (by omega)⟩⟩)
            | (have eM : newM mx = 16 := (by unfold newM; first | (rw [if_pos (by omega)]; omega) | rw [if_neg (by omega)])
               rw [eM]
               exact ⟨o0, .inl ⟨by unfold newOk; omega, _, _, rfl, ⟨bm, wv, .inr (by omega), by rw [zeros_length]; omega⟩, by omega, .inr (by omega)⟩⟩)
    · intro hg12
      try simp only [decide_eq_true_eq, decide_eq_false_iff_not, Bool.not_eq_true', Bool.not_eq_false', Bool.and_eq_true, Bool.or_eq_false_iff] at hg12
      refine KL.skip rfl rfl rfl ?_
      refine KL.skip rfl rfl rfl ?_
      refine KL.skip rfl rfl rfl ?_
      refine KL.skip rfl rfl rfl ?_
      refine KL.skip rfl rfl rfl ?_
      refine KL.skip rfl rfl rfl ?_
      refine KL.op (R.pick rfl rfl rfl) rfl rfl rfl ?_
      refine KL.op (R.pick rfl rfl rfl) rfl rfl rfl ?_
      refine KL.nil ?_
      refine KQ.seq ?_
      refine KC.condF rfl ?_
      refine KC.skip ?_
      refine KQ.seq ?_
      refine KC.seq ?_
      refine KC.region ?_
      refine KL.op ((by first | exact R.fieldAddr rfl Try.underlying42 rfl rfl sz23 rfl | exact R.fieldAddrP rfl Try.underlying42 rfl rfl sz23 rfl)) rfl rfl rfl ?_
      refine KL.op (R.load rfl Try.underlying23 rfl rfl (by first | exact cell_of bl rfl | assumption)) rfl rfl rfl ?_
      refine KL.op (R.convI rfl Try.underlying23 Try.underlying3 rfl (by dsimp only [InR]; omega)) rfl rfl rfl ?_
      refine KL.op (R.mul rfl rfl rfl (by dsimp only [InR]; omega)) rfl rfl rfl ?_
      have hvb : vblock (Value.slice (some ⟨Array.size H1, 0, none⟩) (mn * 65536).toNat (mn * 65536).toNat) = Array.size H1 := rfl
      refine KL.opM (M.make rfl Try.underlying22 inf5 rfl rfl rfl (by omega) (by omega) (by omega) (by omega)) rfl rfl rfl ?_
      rintro _ H5 ⟨rfl, n5⟩
      have z5 := n5.2.1
      have o0 := o0.trans n5.1
      have bl := (n5.1).blk bl
      have b5 := n5.2.2
      have bz := b5
      have wv : Own 1 (EInt .u8) 5 #[] 0 H5 _ (zeros mn) := Own.made n5 (Nat.zero_le _) (by unfold maxLen; omega) ⟨rfl, by dsimp only [InR]; omega⟩
      refine KL.op (R.buildL rfl Try.underlying58 zr58 [(0, 1), (1, 1)] (fun w => by kernel_rfl) rfl ⟨⟨_, rfl, rfl⟩, ⟨_, rfl, rfl⟩, trivial⟩ rfl rfl ⟨⟨_, rfl, by first | rfl | exact rfl | exact wv.cells1⟩, ⟨_, rfl, by first | rfl | exact rfl | exact wv.cells1⟩, trivial⟩ rfl) rfl rfl rfl ?_
      refine KL.opM (M.box rfl rfl rfl) rfl rfl rfl ?_
      rintro _ H6 ⟨rfl, n6⟩
      have z6 := n6.2.1
      have o0 := o0.trans n6.1
      have bl := (n6.1).blk bl
      have wv := wv.old n6.1
      have b6 := n6.2.2
      have bm := b6
      refine KL.op (R.assign rfl rfl) rfl rfl rfl ?_
      refine KL.nil ?_
      refine KQ.seq ?_
      refine KC.seq ?_
      refine KC.seq ?_
      refine KC.region ?_
      refine KL.op ((by first | exact R.fieldAddr rfl Try.underlying42 rfl rfl sz2 rfl | exact R.fieldAddrP rfl Try.underlying42 rfl rfl sz2 rfl)) rfl rfl rfl ?_
      refine KL.op (R.load rfl Try.underlying2 rfl rfl (by first | exact cell_of bl rfl | exact cell_of bm rfl | assumption)) rfl rfl rfl ?_
      refine KL.op (R.geq rfl rfl rfl) rfl rfl rfl ?_
      refine KL.op (R.move rfl rfl) rfl rfl rfl ?_
      refine KL.case (d := 31) rfl ?_ ?_
      · intro hg31
        try simp only [decide_eq_true_eq, decide_eq_false_iff_not, Bool.not_eq_true', Bool.not_eq_false', Bool.and_eq_true, Bool.or_eq_false_iff] at hg31
        refine KL.op ((by first | exact R.fieldAddr rfl Try.underlying42 rfl rfl sz2 rfl | exact R.fieldAddrP rfl Try.underlying42 rfl rfl sz2 rfl)) rfl rfl rfl ?_
        refine KL.op (R.load rfl Try.underlying2 rfl rfl (by first | exact cell_of bl rfl | exact cell_of bm rfl | assumption)) rfl rfl rfl ?_
        refine KL.op (R.lss rfl rfl rfl) rfl rfl rfl ?_
        refine KL.op (R.pick rfl rfl rfl) rfl rfl rfl ?_
        refine KL.nil ?_
        refine KQ.seq ?_
        refine KC.iteL rfl ?_ ?_
        · intro hc35
          try simp only [decide_eq_true_eq, decide_eq_false_iff_not, Bool.not_eq_true', Bool.not_eq_false', Bool.and_eq_true, Bool.or_eq_false_iff] at hc35
          refine KC.region ?_
          refine KL.op (R.move rfl rfl) rfl rfl rfl ?_
          refine KL.op ((by first | exact R.fieldAddr rfl Try.underlying42 rfl rfl sz2 rfl | exact R.fieldAddrP rfl Try.underlying42 rfl rfl sz2 rfl)) rfl rfl rfl ?_
          refine KL.op (R.load rfl Try.underlying2 rfl rfl (by first | exact cell_of bl rfl | exact cell_of bm rfl | assumption)) rfl rfl rfl ?_
          refine KL.op (R.convI rfl Try.underlying2 Try.underlying28 rfl (by dsimp only [InR]; omega)) rfl rfl rfl ?_
          refine KL.op (R.nilCheck rfl rfl) rfl rfl rfl ?_
          refine KL.op ((by first | exact R.fieldAddr rfl Try.underlying58 rfl rfl sz28 rfl | exact R.fieldAddrP rfl Try.underlying58 rfl rfl sz28 rfl)) rfl rfl rfl ?_
          refine KL.opS (S.store rfl sz28 rfl rfl rfl rfl bm (by simp)) rfl rfl ?_
          rintro H7 ⟨u7, b7⟩
          have o0 := o0.upd u7 (by omega)
          have zu7 := u7.1
          have bl := ((u7).2 _ (by omega)).trans bl
          have wv := wv.upd u7 (by first | exact .inr (by omega) | exact wv.lt.imp id (fun h => by omega))
          have bm := b7
          refine KL.nil ?_
          refine KQ.seq ?_
          refine KC.seq ?_
          refine KC.region ?_
          refine KL.op (R.move rfl rfl) rfl rfl rfl ?_
          refine KL.op (R.assign rfl rfl) rfl rfl rfl ?_
          refine KL.op (R.assign rfl rfl) rfl rfl rfl ?_
          refine KL.nil ?_
          refine KQ.seq ?_
          refine KC.ret ?_
          refine KQ.ofRet ?_
          refine KQ.fin2 Try.results20 rfl rfl ?_
          first
            | exact ⟨o0, .inr ⟨by unfold newOk; omega, rfl⟩⟩
            | (have eM : newM mx = mx := (by unfold newM; rw [if_pos (by omega)]; omega)
               rw [eM]
               exact ⟨o0, .inl ⟨by unfold newOk; omega, _, _, rfl, ⟨bm, wv, .inr (by omega), by rw [zeros_length]; omega⟩, by omega, .inr (by omega)⟩⟩)
            | (have eM : newM mx = 16 := (by unfold newM; first | (rw [if_pos (by omega)]; omega) | rw [if_neg (by omega)])
               rw [eM]
               exact ⟨o0, .inl ⟨by unfold newOk; omega, _, _, rfl, ⟨bm, wv, .inr (by omega), by rw [zeros_length]; omega⟩, by omega, .inr (by omega)⟩⟩)
        · intro hc35
          try simp only [decide_eq_true_eq, decide_eq_false_iff_not, Bool.not_eq_true', Bool.not_eq_false', Bool.and_eq_true, Bool.or_eq_false_iff] at hc35
          refine KC.skip ?_
          refine KQ.seq ?_
          refine KC.seq ?_
          refine KC.region ?_
          refine KL.op (R.move rfl rfl) rfl rfl rfl ?_
          refine KL.op (R.assign rfl rfl) rfl rfl rfl ?_
          refine KL.op (R.assign rfl rfl) rfl rfl rfl ?_
          refine KL.nil ?_
          refine KQ.seq ?_
          refine KC.ret ?_
          refine KQ.ofRet ?_
          refine KQ.fin2 Try.results20 rfl rfl ?_
          first
            | exact ⟨o0, .inr ⟨by unfold newOk; omega, rfl⟩⟩
            | (have eM : newM mx = mx := (by unfold newM; rw [if_pos (by omega)]; omega)
               rw [eM]
               exact ⟨o0, .inl ⟨by unfold newOk; omega, _, _, rfl, ⟨bm, wv, .inr (by omega), by rw [zeros_length]; omega⟩, by omega, .inr (by omega)⟩⟩)
            | (have eM : newM mx = 16 := (by unfold newM; first | (rw [if_pos (by omega)]; omega) | rw [if_neg (by omega)])
               rw [eM]
               exact ⟨o0, .inl ⟨by unfold newOk; omega, _, _, rfl, ⟨bm, wv, .inr (by omega), by rw [zeros_length]; omega⟩, by omega, .inr (by omega)⟩⟩)
      · intro hg31
        try simp only [decide_eq_true_eq, decide_eq_false_iff_not, Bool.not_eq_true', Bool.not_eq_false', Bool.and_eq_true, Bool.or_eq_false_iff] at hg31
        refine KL.skip rfl rfl rfl ?_
        refine KL.skip rfl rfl rfl ?_
        refine KL.skip rfl rfl rfl ?_
        refine KL.op (R.pick rfl rfl rfl) rfl rfl rfl ?_
        refine KL.nil ?_
        refine KQ.seq ?_
        refine KC.condF rfl ?_
        refine KC.skip ?_
        refine KQ.seq ?_
        refine KC.seq ?_
        refine KC.region ?_
        refine KL.op (R.move rfl rfl) rfl rfl rfl ?_
        refine KL.op (R.assign rfl rfl) rfl rfl rfl ?_
        refine KL.op (R.assign rfl rfl) rfl rfl rfl ?_
        refine KL.nil ?_
        refine KQ.seq ?_
        refine KC.ret ?_
        refine KQ.ofRet ?_
        refine KQ.fin2 Try.results20 rfl rfl ?_
        first
          | exact ⟨o0, .inr ⟨by unfold newOk; omega, rfl⟩⟩
          | (have eM : newM mx = mx := (by unfold newM; rw [if_pos (by omega)]; omega)
             rw [eM]
             exact ⟨o0, .inl ⟨by unfold newOk; omega, _, _, rfl, ⟨bm, wv, .inr (by omega), by rw [zeros_length]; omega⟩, by omega, .inr (by omega)⟩⟩)
          | (have eM : newM mx = 16 := (by unfold newM; first | (rw [if_pos (by omega)]; omega) | rw [if_neg (by omega)])
             rw [eM]
             exact ⟨o0, .inl ⟨by unfold newOk; omega, _, _, rfl, ⟨bm, wv, .inr (by omega), by rw [zeros_length]; omega⟩, by omega, .inr (by omega)⟩⟩)

end Go.Proofs.Ytdefjpakpgchhaa
