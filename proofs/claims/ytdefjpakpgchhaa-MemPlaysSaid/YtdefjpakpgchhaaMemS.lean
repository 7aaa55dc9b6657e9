/- The document's memory: loads. No condition. -/
import Derived.Test.YtdefjpakpgchhaaMemR
namespace Go.Proofs.Ytdefjpakpgchhaa
open Go Go.RowKit
set_option linter.unusedVariables false
set_option linter.unusedSimpArgs false
set_option linter.unnecessarySimpa false

theorem rn_sg {op : Int} (h : sg op = true) : (rn op = 32 ∨ rn op = 64) ∧ (mw op = 1 ∨ mw op = 2 ∨ mw op = 4) ∧ 8 * (mw op : Int) ≤ rn op := by
  have : op = 44 ∨ op = 46 ∨ op = 48 ∨ op = 50 ∨ op = 52 := of_decide_eq_true h
  rcases this with rfl | rfl | rfl | rfl | rfl <;> decide
theorem loadN_sx {bs : List Int} {p : Nat} {op : Int} (hb : Byt bs) (hw : mw op ≠ 0) (h : p + mw op ≤ bs.length) (hr : 40 ≤ op ∧ op ≤ 53) : loadN op (ld (prt bs p (mw op))) = if (sg op && decide (128 ≤ bs.getD (p + mw op - 1) default)) = true then ld (prt bs p (mw op)) + 2 ^ (rn op).toNat - 256 ^ mw op else ld (prt bs p (mw op)) := by
  have h1 := sx_top (n := (rn op).toNat) hb (show 0 < mw op by omega) h
  have h2 : loadN op (ld (prt bs p (mw op))) = if sg op = true then sx (ld (prt bs p (mw op))) (mw op) (rn op).toNat else ld (prt bs p (mw op)) := by
    unfold loadN
    by_cases ha : op = 44 ∨ op = 46
    · rw [if_pos ha]
      rcases ha with rfl | rfl <;> rfl
    · rw [if_neg ha]
      by_cases hb : op = 48 ∨ op = 50 ∨ op = 52
      · rw [if_pos hb]
        rcases hb with rfl | rfl | rfl <;> rfl
      · rw [if_neg hb, if_neg (by unfold sg; simp; omega)]
  rw [h2]
  by_cases hs : sg op = true
  · rw [if_pos hs, h1, hs]
    by_cases ht : 128 ≤ bs.getD (p + mw op - 1) default
    · rw [if_pos ht, if_pos (by simpa using ht)]
    · rw [if_neg ht, if_neg (by simpa using ht)]
  · rw [if_neg hs, if_neg (by simp at hs; rw [hs]; simp)]
theorem mulI {x : Int} {k : Nat} (h0 : 0 ≤ x) (h : x < 256 ^ k) (hk : k ≤ 7) : x < 72057594037927936 := by
  have := pow256_le hk
  omega
theorem pow2_le {a b : Nat} (h : a ≤ b) : (2 : Int) ^ a ≤ 2 ^ b := by
  have := Nat.pow_le_pow_right (show 0 < 2 by omega) h
  exact_mod_cast this

set_option maxRecDepth 100000 in
set_option maxHeartbeats 4000000 in
theorem rLoad_any {H : Heap} (g : Nat) (v : Value) (bs : List Int) (most : Int) (h : MAt 58 .u64 H g v bs most) (op at_ off : Int) (r4 : InR .u8 op) (r2 : InR .u32 at_) (r3 : InR .u32 off) : Ct Try.prog 21 [.pointer (some ⟨g, 0, none⟩), .int .u8 op, .int .u32 at_, .int .u32 off] H (fun u H' => u = loadV bs op (at_ + off) ∧ H = H') := by
  refine Ct.mk Try.func21 rfl Try.ntmps21 rfl ?_
  intro W0 hW0
  have o0 : Old H H := Old.refl H
  have hb := h.b
  have hw := h.w
  have hn := h.n
  have hs := hw.sl (emptyOld _) (by decide)
  have hml := mw_le op
  dsimp only [InR] at r2 r3
  refine KC.seq ?_
  refine KC.region ?_
  refine KL.op (R.assign rfl rfl) rfl rfl rfl ?_
  refine KL.op (R.assign rfl rfl) rfl rfl rfl ?_
  refine KL.nil ?_
  refine KQ.seq ?_
  refine KC.seq ?_
  refine KC.region ?_
  refine KL.op (R.move rfl rfl) rfl rfl rfl ?_
  refine KL.call rfl rfl rfl rfl Try.call30 rfl rfl rfl (rWidth_any op r4) ?_
  rintro _ _ ⟨rfl, rfl⟩
  refine KL.op (R.move rfl rfl) rfl rfl rfl ?_
  refine KL.op (R.extract rfl rfl rfl) rfl rfl rfl ?_
  refine KL.op (R.extract rfl rfl rfl) rfl rfl rfl ?_
  refine KL.op (R.extract rfl rfl rfl) rfl rfl rfl ?_
  refine KL.op (R.assign rfl rfl) rfl rfl rfl ?_
  refine KL.op (R.assign rfl rfl) rfl rfl rfl ?_
  refine KL.op (R.assign rfl rfl) rfl rfl rfl ?_
  refine KL.nil ?_
  refine KQ.seq ?_
  refine KC.seq ?_
  refine KC.region ?_
  refine KL.op (R.move rfl rfl) rfl rfl rfl ?_
  refine KL.op (R.convI rfl Try.underlying23 Try.underlying28 rfl (by dsimp only [InR]; omega)) rfl rfl rfl ?_
  refine KL.op (R.move rfl rfl) rfl rfl rfl ?_
  refine KL.op (R.convI rfl Try.underlying23 Try.underlying28 rfl (by dsimp only [InR]; omega)) rfl rfl rfl ?_
  refine KL.op (R.add rfl rfl rfl (by dsimp only [InR]; omega)) rfl rfl rfl ?_
  refine KL.op (R.assign rfl rfl) rfl rfl rfl ?_
  refine KL.nil ?_
  refine KQ.seq ?_
  refine KC.seq ?_
  refine KC.seq ?_
  refine KC.region ?_
  refine KL.op (R.move rfl rfl) rfl rfl rfl ?_
  refine KL.op (R.geq rfl rfl rfl) rfl rfl rfl ?_
  refine KL.op (R.move rfl rfl) rfl rfl rfl ?_
  refine KL.case (d := 30) rfl ?_ ?_
  · intro hg30
    try simp only [decide_eq_true_eq, decide_eq_false_iff_not, Bool.not_eq_true', Bool.not_eq_false', Bool.and_eq_true, Bool.or_eq_false_iff] at hg30
    refine KL.skip rfl rfl rfl ?_
    refine KL.skip rfl rfl rfl ?_
    refine KL.op (R.pick rfl rfl rfl) rfl rfl rfl ?_
    refine KL.op (R.move rfl rfl) rfl rfl rfl ?_
    refine KL.skip rfl rfl rfl ?_
    refine KL.skip rfl rfl rfl ?_
    refine KL.skip rfl rfl rfl ?_
    refine KL.skip rfl rfl rfl ?_
    refine KL.skip rfl rfl rfl ?_
    refine KL.op (R.pick rfl rfl rfl) rfl rfl rfl ?_
    refine KL.nil ?_
    refine KQ.seq ?_
    refine KC.condT rfl ?_
    refine KC.seq ?_
    refine KC.region ?_
    refine KL.op (R.assign rfl rfl) rfl rfl rfl ?_
    refine KL.op (R.assign rfl rfl) rfl rfl rfl ?_
    refine KL.nil ?_
    refine KQ.seq ?_
    refine KC.ret ?_
    refine KQ.retThen ?_
    refine KQ.ofRet ?_
    refine KQ.fin2 Try.results21 rfl rfl ?_
    refine ⟨?_, rfl⟩
    unfold loadV loadX
    first
      | (have hN : ¬ inA bs 40 53 op (at_ + off) := (by unfold inA; omega)
         rw [if_neg hN, decide_eq_false hN])
      | (have hY : inA bs 40 53 op (at_ + off) := (by unfold inA; omega)
         rw [if_pos hY, decide_eq_true hY]
         try (have ek : k = mw op := (by omega)
              subst ek)
         have e0 : (at_ + off).toNat + mw op - mw op = (at_ + off).toNat := (by omega)
         try rw [e0]
         rw [loadN_sx hb0 hml0 (by omega) (by omega)]
         first
           | (have hF : (sg op && decide (128 ≤ bs.getD ((at_ + off).toNat + mw op - 1) default)) = false := (by first | rw [hg62, Bool.false_and] | (rw [hg62, Bool.true_and]; exact decide_eq_false (by omega)))
              rw [hF]; rfl)
           | (have hT : (sg op && decide (128 ≤ bs.getD ((at_ + off).toNat + mw op - 1) default)) = true := (by rw [hg62, Bool.true_and]; exact decide_eq_true (by omega))
              have ei : i = (rn op).toNat := (by omega)
              subst ei
              rw [hT]; rfl))
  · intro hg30
    try simp only [decide_eq_true_eq, decide_eq_false_iff_not, Bool.not_eq_true', Bool.not_eq_false', Bool.and_eq_true, Bool.or_eq_false_iff] at hg30
    refine KL.op (R.move rfl rfl) rfl rfl rfl ?_
    refine KL.op (R.eql rfl rfl rfl) rfl rfl rfl ?_
    refine KL.op (R.pick rfl rfl rfl) rfl rfl rfl ?_
    refine KL.op (R.move rfl rfl) rfl rfl rfl ?_
    refine KL.case (d := 34) rfl ?_ ?_
    · intro hg34
      try simp only [decide_eq_true_eq, decide_eq_false_iff_not, Bool.not_eq_true', Bool.not_eq_false', Bool.and_eq_true, Bool.or_eq_false_iff] at hg34
      refine KL.skip rfl rfl rfl ?_
      refine KL.skip rfl rfl rfl ?_
      refine KL.skip rfl rfl rfl ?_
      refine KL.skip rfl rfl rfl ?_
      refine KL.skip rfl rfl rfl ?_
      refine KL.op (R.pick rfl rfl rfl) rfl rfl rfl ?_
      refine KL.nil ?_
      refine KQ.seq ?_
      refine KC.condT rfl ?_
      refine KC.seq ?_
      refine KC.region ?_
      refine KL.op (R.assign rfl rfl) rfl rfl rfl ?_
      refine KL.op (R.assign rfl rfl) rfl rfl rfl ?_
      refine KL.nil ?_
      refine KQ.seq ?_
      refine KC.ret ?_
      refine KQ.retThen ?_
      refine KQ.ofRet ?_
      refine KQ.fin2 Try.results21 rfl rfl ?_
      refine ⟨?_, rfl⟩
      unfold loadV loadX
      first
        | (have hN : ¬ inA bs 40 53 op (at_ + off) := (by unfold inA; omega)
           rw [if_neg hN, decide_eq_false hN])
        | (have hY : inA bs 40 53 op (at_ + off) := (by unfold inA; omega)
           rw [if_pos hY, decide_eq_true hY]
           try (have ek : k = mw op := (by omega)
                subst ek)
           have e0 : (at_ + off).toNat + mw op - mw op = (at_ + off).toNat := (by omega)
           try rw [e0]
           rw [loadN_sx hb0 hml0 (by omega) (by omega)]
           first
             | (have hF : (sg op && decide (128 ≤ bs.getD ((at_ + off).toNat + mw op - 1) default)) = false := (by first | rw [hg62, Bool.false_and] | (rw [hg62, Bool.true_and]; exact decide_eq_false (by omega)))
                rw [hF]; rfl)
             | (have hT : (sg op && decide (128 ≤ bs.getD ((at_ + off).toNat + mw op - 1) default)) = true := (by rw [hg62, Bool.true_and]; exact decide_eq_true (by omega))
                have ei : i = (rn op).toNat := (by omega)
                subst ei
                rw [hT]; rfl))
    · intro hg34
      try simp only [decide_eq_true_eq, decide_eq_false_iff_not, Bool.not_eq_true', Bool.not_eq_false', Bool.and_eq_true, Bool.or_eq_false_iff] at hg34
      refine KL.op (R.move rfl rfl) rfl rfl rfl ?_
      refine KL.op (R.move rfl rfl) rfl rfl rfl ?_
      refine KL.op (R.move rfl rfl) rfl rfl rfl ?_
      refine KL.call rfl rfl rfl rfl Try.call31 rfl rfl rfl (rin_any _ _ _ _ h (at_ + off) (mw op : Nat) (by omega) (by omega) (by omega) (by omega)) ?_
      rintro _ _ ⟨rfl, rfl⟩
      refine KL.op (R.not rfl rfl) rfl rfl rfl ?_
      refine KL.op (R.pick rfl rfl rfl) rfl rfl rfl ?_
      refine KL.nil ?_
      refine KQ.seq ?_
      refine KC.iteL rfl ?_ ?_
      · intro hc40
        try simp only [decide_eq_true_eq, decide_eq_false_iff_not, Bool.not_eq_true', Bool.not_eq_false', Bool.and_eq_true, Bool.or_eq_false_iff] at hc40
        refine KC.seq ?_
        refine KC.region ?_
        refine KL.op (R.assign rfl rfl) rfl rfl rfl ?_
        refine KL.op (R.assign rfl rfl) rfl rfl rfl ?_
        refine KL.nil ?_
        refine KQ.seq ?_
        refine KC.ret ?_
        refine KQ.retThen ?_
        refine KQ.ofRet ?_
        refine KQ.fin2 Try.results21 rfl rfl ?_
        refine ⟨?_, rfl⟩
        unfold loadV loadX
        first
          | (have hN : ¬ inA bs 40 53 op (at_ + off) := (by unfold inA; omega)
             rw [if_neg hN, decide_eq_false hN])
          | (have hY : inA bs 40 53 op (at_ + off) := (by unfold inA; omega)
             rw [if_pos hY, decide_eq_true hY]
             try (have ek : k = mw op := (by omega)
                  subst ek)
             have e0 : (at_ + off).toNat + mw op - mw op = (at_ + off).toNat := (by omega)
             try rw [e0]
             rw [loadN_sx hb0 hml0 (by omega) (by omega)]
             first
               | (have hF : (sg op && decide (128 ≤ bs.getD ((at_ + off).toNat + mw op - 1) default)) = false := (by first | rw [hg62, Bool.false_and] | (rw [hg62, Bool.true_and]; exact decide_eq_false (by omega)))
                  rw [hF]; rfl)
               | (have hT : (sg op && decide (128 ≤ bs.getD ((at_ + off).toNat + mw op - 1) default)) = true := (by rw [hg62, Bool.true_and]; exact decide_eq_true (by omega))
                  have ei : i = (rn op).toNat := (by omega)
                  subst ei
                  rw [hT]; rfl))
      · intro hc40
        try simp only [decide_eq_true_eq, decide_eq_false_iff_not, Bool.not_eq_true', Bool.not_eq_false', Bool.and_eq_true, Bool.or_eq_false_iff] at hc40
        have hmr := mw_range (op := op) (by omega)
        have hin : at_ + off + (mw op : Nat) ≤ bs.length := (by simpa using hc40)
        have hb0 := h.byt
        have hml0 : mw op ≠ 0 := (by omega)
        refine KC.skip ?_
        refine KQ.seq ?_
        refine KC.seq ?_
        refine KC.region ?_
        refine KL.op (R.assign rfl rfl) rfl rfl rfl ?_
        refine KL.nil ?_
        refine KQ.seq ?_
        refine KC.seq ?_
        refine KC.seq ?_
        refine KC.region ?_
        refine KL.op (R.move rfl rfl) rfl rfl rfl ?_
        refine KL.op ((R.sub rfl rfl rfl (by dsimp only [InR]; omega)).val (congrArg (Value.int .i64) (show ((mw op : Nat) : Int) - 1 = (mw op : Int) - 1 - ((0 : Nat) : Int) by omega))) rfl rfl rfl ?_
        refine KL.op (R.assign rfl rfl) rfl rfl rfl ?_
        refine KL.nil ?_
        refine KQ.seq ?_
        refine KC.block ?_
        refine KC.loopD (κ := Nat) [43, 44, 47, 48, 49, 50, 51, 52, 53, 54, 55, 56, 57, 58, 59, 60, 14, 45, 46, 15] (fun k => [(15, .int .i64 ((mw op : Int) - 1 - k)), (14, .int .u64 (ld (prt bs ((at_ + off).toNat + mw op - k) k)))]) (fun k Hl => k ≤ mw op ∧ H = Hl) (fun k => mw op - k) 0 ?_ ?_ ?_
        · exact (Sub.cons rfl (Sub.cons (congrArg (fun z => some (Value.int .u64 z)) (show (0 : Int) = ld (prt bs ((at_ + off).toNat + mw op - 0) 0) by unfold prt; simp [ld])) (Ext.sub (Ext.refl _ _))))
        · exact ⟨Nat.zero_le _, rfl⟩
        · rintro k H1 ⟨hk, rfl⟩
          refine KC.seq ?_
          refine KC.seq ?_
          refine KC.region ?_
          refine KL.op (R.move rfl rfl) rfl rfl rfl ?_
          refine KL.op (R.geq rfl rfl rfl) rfl rfl rfl ?_
          refine KL.nil ?_
          refine KQ.seq ?_
          refine KC.iteL rfl ?_ ?_
          · intro hc44
            try simp only [decide_eq_true_eq, decide_eq_false_iff_not, Bool.not_eq_true', Bool.not_eq_false', Bool.and_eq_true, Bool.or_eq_false_iff] at hc44
            have hcr := ld_range (prt_byt hb0 ((at_ + off).toNat + mw op - k) k)
            rw [prt_length (by omega)] at hcr
            have hmu := mulI hcr.1 hcr.2 (by omega)
            have hxr := (hs.int ((at_ + off).toNat + mw op - (k + 1)) (by omega)).2
            dsimp only [InR] at hxr
            have hstep : 256 * ld (prt bs ((at_ + off).toNat + mw op - k) k) + bs.getD ((at_ + off).toNat + mw op - (k + 1)) default = ld (prt bs ((at_ + off).toNat + mw op - (k + 1)) (k + 1)) := (by rw [prt_cons (by omega), show (at_ + off).toNat + mw op - (k + 1) + 1 = (at_ + off).toNat + mw op - k by omega]; show _ = _ + 256 * _; omega)
            refine KC.skip ?_
            refine KQ.seq ?_
            refine KC.seq ?_
            refine KC.block ?_
            refine KC.region ?_
            refine KL.op (R.move rfl rfl) rfl rfl rfl ?_
            refine KL.op (R.mul rfl rfl rfl (by dsimp only [InR]; omega)) rfl rfl rfl ?_
            refine KL.op (R.move rfl rfl) rfl rfl rfl ?_
            refine KL.op (R.nilCheck rfl rfl) rfl rfl rfl ?_
            refine KL.op ((by first | exact R.fieldAddr rfl Try.underlying58 rfl rfl sz22 rfl | exact R.fieldAddrP rfl Try.underlying58 rfl rfl sz22 rfl)) rfl rfl rfl ?_
            refine KL.op (R.load rfl Try.underlying22 rfl rfl (by first | exact cell_of hb rfl | exact (hs.int ((at_ + off).toNat + mw op - (k + 1)) (by omega)).1 | exact (hs.int ((at_ + off).toNat + mw op - 1) (by omega)).1 | assumption)) rfl rfl rfl ?_
            refine KL.op (R.move rfl rfl) rfl rfl rfl ?_
            refine KL.op (R.move rfl rfl) rfl rfl rfl ?_
            refine KL.op (R.convI rfl Try.underlying3 Try.underlying28 rfl (by dsimp only [InR]; omega)) rfl rfl rfl ?_
            refine KL.op (R.add rfl rfl rfl (by dsimp only [InR]; omega)) rfl rfl rfl ?_
            refine KL.op (R.index1 (j := (at_ + off).toNat + mw op - (k + 1)) rfl Try.underlying22 sz5 rfl rfl hs (by omega) (by omega)) rfl rfl rfl ?_
            refine KL.op (R.load rfl Try.underlying5 rfl rfl (by first | exact cell_of hb rfl | exact (hs.int ((at_ + off).toNat + mw op - (k + 1)) (by omega)).1 | exact (hs.int ((at_ + off).toNat + mw op - 1) (by omega)).1 | assumption)) rfl rfl rfl ?_
            refine KL.op (R.convI rfl Try.underlying5 Try.underlying28 rfl (by dsimp only [InR]; omega)) rfl rfl rfl ?_
            refine KL.op ((R.add rfl rfl rfl (by dsimp only [InR]; omega)).val (congrArg (Value.int .u64) hstep)) rfl rfl rfl ?_
            refine KL.op (R.assign rfl rfl) rfl rfl rfl ?_
            refine KL.nil ?_
            refine KQ.normBlock ?_
            refine KQ.seq ?_
            refine KC.region ?_
            refine KL.op (R.move rfl rfl) rfl rfl rfl ?_
            refine KL.op ((R.sub rfl rfl rfl (by dsimp only [InR]; omega)).val (congrArg (Value.int .i64) (show ((mw op : Nat) : Int) - 1 - (k : Int) - 1 = (mw op : Int) - 1 - ((k + 1 : Nat) : Int) by omega))) rfl rfl rfl ?_
            refine KL.op (R.assign rfl rfl) rfl rfl rfl ?_
            refine KL.nil ?_
            refine KQ.again (k + 1) ?_ ?_ ?_
            · exact (Sub.cons rfl (Sub.cons rfl (Ext.sub (by repeat (first | exact Ext.refl _ _ | refine Ext.put rfl ?_ | refine Ext.drop rfl ?_)))))
            · omega
            · exact ⟨by omega, rfl⟩
          · intro hc44
            try simp only [decide_eq_true_eq, decide_eq_false_iff_not, Bool.not_eq_true', Bool.not_eq_false', Bool.and_eq_true, Bool.or_eq_false_iff] at hc44
            have hcur := ld_range (prt_byt hb0 ((at_ + off).toNat + mw op - k) k)
            rw [prt_length (by omega)] at hcur
            refine KC.exit ?_
            refine KQ.exitThen ?_
            refine KQ.exitThen ?_
            refine KQ.hit ?_
            refine KQ.seq ?_
            refine KC.seq ?_
            refine KC.seq ?_
            refine KC.region ?_
            refine KL.op (R.move rfl rfl) rfl rfl rfl ?_
            refine KL.op (R.move rfl rfl) rfl rfl rfl ?_
            refine KL.case (d := 62) rfl ?_ ?_
            · intro hg62
              try simp only [decide_eq_true_eq, decide_eq_false_iff_not, Bool.not_eq_true', Bool.not_eq_false', Bool.and_eq_true, Bool.or_eq_false_iff] at hg62
              refine KL.op (R.move rfl rfl) rfl rfl rfl ?_
              refine KL.op (R.nilCheck rfl rfl) rfl rfl rfl ?_
              refine KL.op ((by first | exact R.fieldAddr rfl Try.underlying58 rfl rfl sz22 rfl | exact R.fieldAddrP rfl Try.underlying58 rfl rfl sz22 rfl)) rfl rfl rfl ?_
              refine KL.op (R.load rfl Try.underlying22 rfl rfl (by first | exact cell_of hb rfl | exact (hs.int ((at_ + off).toNat + mw op - (k + 1)) (by omega)).1 | exact (hs.int ((at_ + off).toNat + mw op - 1) (by omega)).1 | assumption)) rfl rfl rfl ?_
              refine KL.op (R.move rfl rfl) rfl rfl rfl ?_
              refine KL.op (R.move rfl rfl) rfl rfl rfl ?_
              refine KL.op (R.convI rfl Try.underlying3 Try.underlying28 rfl (by dsimp only [InR]; omega)) rfl rfl rfl ?_
              refine KL.op (R.add rfl rfl rfl (by dsimp only [InR]; omega)) rfl rfl rfl ?_
              refine KL.op (R.sub rfl rfl rfl (by dsimp only [InR]; omega)) rfl rfl rfl ?_
              refine KL.op (R.index1 (j := (at_ + off).toNat + mw op - 1) rfl Try.underlying22 sz5 rfl rfl hs (by omega) (by omega)) rfl rfl rfl ?_
              refine KL.op (R.load rfl Try.underlying5 rfl rfl (by first | exact cell_of hb rfl | exact (hs.int ((at_ + off).toNat + mw op - (k + 1)) (by omega)).1 | exact (hs.int ((at_ + off).toNat + mw op - 1) (by omega)).1 | assumption)) rfl rfl rfl ?_
              refine KL.op (R.geq rfl rfl rfl) rfl rfl rfl ?_
              refine KL.op (R.pick rfl rfl rfl) rfl rfl rfl ?_
              refine KL.nil ?_
              refine KQ.seq ?_
              refine KC.iteL rfl ?_ ?_
              · intro hc75
                try simp only [decide_eq_true_eq, decide_eq_false_iff_not, Bool.not_eq_true', Bool.not_eq_false', Bool.and_eq_true, Bool.or_eq_false_iff] at hc75
                have hrs := rn_sg hg62
                have ek : k = mw op := (by omega)
                subst ek
                have e0 : (at_ + off).toNat + mw op - mw op = (at_ + off).toNat := (by omega)
                rw [e0] at hcur
                have hst : ld (prt bs (at_ + off).toNat (mw op)) = ld (prt bs (at_ + off).toNat (mw op)) + 2 ^ (8 * mw op) - 256 ^ mw op := (by rw [pow256]; omega)
                refine KC.seq ?_
                refine KC.region ?_
                refine KL.op (R.move rfl rfl) rfl rfl rfl ?_
                refine KL.op ((R.mul rfl rfl rfl (by dsimp only [InR]; omega)).val (congrArg (Value.int .i64) (show 8 * ((mw op : Nat) : Int) = ((8 * mw op : Nat) : Int) by omega))) rfl rfl rfl ?_
                refine KL.op (R.assign rfl rfl) rfl rfl rfl ?_
                refine KL.nil ?_
                refine KQ.seq ?_
                refine KC.block ?_
                refine KC.loopD (κ := Nat) [78, 79, 80, 83, 84, 85, 86, 14, 81, 82, 16] (fun i => [(16, .int .i64 (i : Nat)), (14, .int .u64 (ld (prt bs (at_ + off).toNat (mw op)) + 2 ^ i - 256 ^ mw op))]) (fun i Hl => 8 * mw op ≤ i ∧ (i : Int) ≤ rn op ∧ H = Hl) (fun i => (rn op).toNat - i) (8 * mw op) ?_ ?_ ?_
                · exact (Sub.cons rfl (Sub.cons ((congrArg (fun z => some (Value.int .u64 z)) (by rw [e0]; exact hst))) (Ext.sub (Ext.refl _ _))))
                · exact ⟨Nat.le_refl _, by omega, rfl⟩
                · rintro i H2 ⟨hi1, hi2, rfl⟩
                  refine KC.seq ?_
                  refine KC.seq ?_
                  refine KC.region ?_
                  refine KL.op (R.move rfl rfl) rfl rfl rfl ?_
                  refine KL.op (R.move rfl rfl) rfl rfl rfl ?_
                  refine KL.op (R.lss rfl rfl rfl) rfl rfl rfl ?_
                  refine KL.nil ?_
                  refine KQ.seq ?_
                  refine KC.iteL rfl ?_ ?_
                  · intro hc80
                    try simp only [decide_eq_true_eq, decide_eq_false_iff_not, Bool.not_eq_true', Bool.not_eq_false', Bool.and_eq_true, Bool.or_eq_false_iff] at hc80
                    have hp : (2 : Int) ^ i ≤ 2 ^ 63 := pow2_le (by omega)
                    have hp1 : (256 : Int) ^ mw op ≤ 2 ^ i := (by rw [pow256]; exact pow2_le (by omega))
                    have hp2 : (2 : Int) ^ (i + 1) = 2 ^ i + 2 ^ i := (by rw [Int.pow_succ]; omega)
                    refine KC.skip ?_
                    refine KQ.seq ?_
                    refine KC.seq ?_
                    refine KC.block ?_
                    refine KC.region ?_
                    refine KL.op (R.move rfl rfl) rfl rfl rfl ?_
                    refine KL.op (R.move rfl rfl) rfl rfl rfl ?_
                    refine KL.call rfl rfl rfl rfl Try.call32 rfl rfl rfl (rbit_any (i : Int) (by omega) (by omega)) ?_
                    rintro _ _ ⟨rfl, rfl⟩
                    rw [show ((i : Int)).toNat = i from rfl]
                    refine KL.op ((R.add rfl rfl rfl (by dsimp only [InR]; omega)).val (congrArg (Value.int .u64) (show _ = ld (prt bs (at_ + off).toNat (mw op)) + 2 ^ (i + 1) - 256 ^ mw op by rw [hp2]; omega))) rfl rfl rfl ?_
                    refine KL.op (R.assign rfl rfl) rfl rfl rfl ?_
                    refine KL.nil ?_
                    refine KQ.normBlock ?_
                    refine KQ.seq ?_
                    refine KC.region ?_
                    refine KL.op (R.move rfl rfl) rfl rfl rfl ?_
                    refine KL.op (R.add rfl rfl rfl (by dsimp only [InR]; omega)) rfl rfl rfl ?_
                    refine KL.op (R.assign rfl rfl) rfl rfl rfl ?_
                    refine KL.nil ?_
                    refine KQ.again (i + 1) ?_ ?_ ?_
                    · exact (Sub.cons rfl (Sub.cons rfl (Ext.sub (by repeat (first | exact Ext.refl _ _ | refine Ext.put rfl ?_ | refine Ext.drop rfl ?_)))))
                    · omega
                    · exact ⟨by omega, by omega, rfl⟩
                  · intro hc80
                    try simp only [decide_eq_true_eq, decide_eq_false_iff_not, Bool.not_eq_true', Bool.not_eq_false', Bool.and_eq_true, Bool.or_eq_false_iff] at hc80
                    refine KC.exit ?_
                    refine KQ.exitThen ?_
                    refine KQ.exitThen ?_
                    refine KQ.hit ?_
                    refine KQ.seq ?_
                    refine KC.seq ?_
                    refine KC.region ?_
                    refine KL.op (R.move rfl rfl) rfl rfl rfl ?_
                    refine KL.op (R.assign rfl rfl) rfl rfl rfl ?_
                    refine KL.op (R.assign rfl rfl) rfl rfl rfl ?_
                    refine KL.nil ?_
                    refine KQ.seq ?_
                    refine KC.ret ?_
                    refine KQ.ofRet ?_
                    refine KQ.fin2 Try.results21 rfl rfl ?_
                    refine ⟨?_, rfl⟩
                    unfold loadV loadX
                    first
                      | (have hN : ¬ inA bs 40 53 op (at_ + off) := (by unfold inA; omega)
                         rw [if_neg hN, decide_eq_false hN])
                      | (have hY : inA bs 40 53 op (at_ + off) := (by unfold inA; omega)
                         rw [if_pos hY, decide_eq_true hY]
                         try (have ek : k = mw op := (by omega)
                              subst ek)
                         have e0 : (at_ + off).toNat + mw op - mw op = (at_ + off).toNat := (by omega)
                         try rw [e0]
                         rw [loadN_sx hb0 hml0 (by omega) (by omega)]
                         first
                           | (have hF : (sg op && decide (128 ≤ bs.getD ((at_ + off).toNat + mw op - 1) default)) = false := (by first | rw [hg62, Bool.false_and] | (rw [hg62, Bool.true_and]; exact decide_eq_false (by omega)))
                              rw [hF]; rfl)
                           | (have hT : (sg op && decide (128 ≤ bs.getD ((at_ + off).toNat + mw op - 1) default)) = true := (by rw [hg62, Bool.true_and]; exact decide_eq_true (by omega))
                              have ei : i = (rn op).toNat := (by omega)
                              subst ei
                              rw [hT]; rfl))
              · intro hc75
                try simp only [decide_eq_true_eq, decide_eq_false_iff_not, Bool.not_eq_true', Bool.not_eq_false', Bool.and_eq_true, Bool.or_eq_false_iff] at hc75
                refine KC.skip ?_
                refine KQ.seq ?_
                refine KC.seq ?_
                refine KC.region ?_
                refine KL.op (R.move rfl rfl) rfl rfl rfl ?_
                refine KL.op (R.assign rfl rfl) rfl rfl rfl ?_
                refine KL.op (R.assign rfl rfl) rfl rfl rfl ?_
                refine KL.nil ?_
                refine KQ.seq ?_
                refine KC.ret ?_
                refine KQ.ofRet ?_
                refine KQ.fin2 Try.results21 rfl rfl ?_
                refine ⟨?_, rfl⟩
                unfold loadV loadX
                first
                  | (have hN : ¬ inA bs 40 53 op (at_ + off) := (by unfold inA; omega)
                     rw [if_neg hN, decide_eq_false hN])
                  | (have hY : inA bs 40 53 op (at_ + off) := (by unfold inA; omega)
                     rw [if_pos hY, decide_eq_true hY]
                     try (have ek : k = mw op := (by omega)
                          subst ek)
                     have e0 : (at_ + off).toNat + mw op - mw op = (at_ + off).toNat := (by omega)
                     try rw [e0]
                     rw [loadN_sx hb0 hml0 (by omega) (by omega)]
                     first
                       | (have hF : (sg op && decide (128 ≤ bs.getD ((at_ + off).toNat + mw op - 1) default)) = false := (by first | rw [hg62, Bool.false_and] | (rw [hg62, Bool.true_and]; exact decide_eq_false (by omega)))
                          rw [hF]; rfl)
                       | (have hT : (sg op && decide (128 ≤ bs.getD ((at_ + off).toNat + mw op - 1) default)) = true := (by rw [hg62, Bool.true_and]; exact decide_eq_true (by omega))
                          have ei : i = (rn op).toNat := (by omega)
                          subst ei
                          rw [hT]; rfl))
            · intro hg62
              try simp only [decide_eq_true_eq, decide_eq_false_iff_not, Bool.not_eq_true', Bool.not_eq_false', Bool.and_eq_true, Bool.or_eq_false_iff] at hg62
              refine KL.skip rfl rfl rfl ?_
              refine KL.skip rfl rfl rfl ?_
              refine KL.skip rfl rfl rfl ?_
              refine KL.skip rfl rfl rfl ?_
              refine KL.skip rfl rfl rfl ?_
              refine KL.skip rfl rfl rfl ?_
              refine KL.skip rfl rfl rfl ?_
              refine KL.skip rfl rfl rfl ?_
              refine KL.skip rfl rfl rfl ?_
              refine KL.skip rfl rfl rfl ?_
              refine KL.skip rfl rfl rfl ?_
              refine KL.skip rfl rfl rfl ?_
              refine KL.op (R.pick rfl rfl rfl) rfl rfl rfl ?_
              refine KL.nil ?_
              refine KQ.seq ?_
              refine KC.condF rfl ?_
              refine KC.skip ?_
              refine KQ.seq ?_
              refine KC.seq ?_
              refine KC.region ?_
              refine KL.op (R.move rfl rfl) rfl rfl rfl ?_
              refine KL.op (R.assign rfl rfl) rfl rfl rfl ?_
              refine KL.op (R.assign rfl rfl) rfl rfl rfl ?_
              refine KL.nil ?_
              refine KQ.seq ?_
              refine KC.ret ?_
              refine KQ.ofRet ?_
              refine KQ.fin2 Try.results21 rfl rfl ?_
              refine ⟨?_, rfl⟩
              unfold loadV loadX
              first
                | (have hN : ¬ inA bs 40 53 op (at_ + off) := (by unfold inA; omega)
                   rw [if_neg hN, decide_eq_false hN])
                | (have hY : inA bs 40 53 op (at_ + off) := (by unfold inA; omega)
                   rw [if_pos hY, decide_eq_true hY]
                   try (have ek : k = mw op := (by omega)
                        subst ek)
                   have e0 : (at_ + off).toNat + mw op - mw op = (at_ + off).toNat := (by omega)
                   try rw [e0]
                   rw [loadN_sx hb0 hml0 (by omega) (by omega)]
                   first
                     | (have hF : (sg op && decide (128 ≤ bs.getD ((at_ + off).toNat + mw op - 1) default)) = false := (by first | rw [hg62, Bool.false_and] | (rw [hg62, Bool.true_and]; exact decide_eq_false (by omega)))
                        rw [hF]; rfl)
                     | (have hT : (sg op && decide (128 ≤ bs.getD ((at_ + off).toNat + mw op - 1) default)) = true := (by rw [hg62, Bool.true_and]; exact decide_eq_true (by omega))
                        have ei : i = (rn op).toNat := (by omega)
                        subst ei
                        rw [hT]; rfl))

end Go.Proofs.Ytdefjpakpgchhaa
