/- Memories: loads. No condition. -/
import Derived.Test.YtdefjpakpgchhaaMemA
import Derived.Test.YtdefjpakpgchhaaMemP
namespace Go.Proofs.Ytdefjpakpgchhaa
open Go Go.RowKit
set_option linter.unusedVariables false
set_option linter.unusedSimpArgs false
set_option linter.unnecessarySimpa false

theorem MAt.byt {t : TypeId} {k : IntKind} {H : Heap} {g : Nat} {v : Value} {bs : List Int} {most : Int} (h : MAt t k H g v bs most) : Byt bs := by
  intro x hx
  have := (h.w.sl (emptyOld _) (by decide)).int_range x hx
  dsimp only [InR] at this
  omega
theorem prt_byt {bs : List Int} (h : Byt bs) (p w : Nat) : Byt (prt bs p w) := fun x hx => h x (List.mem_of_mem_take (List.mem_of_mem_drop hx))
/-- the bytes of an access, or none -/
def prtA (bs : List Int) (lo hi op p : Int) : List Int := if inA bs lo hi op p then prt bs p.toNat (mw op) else []
def prtP (bs : List Int) (a n : Int) : List Int := if a + n ≤ bs.length then prt bs a.toNat n.toNat else []
theorem prtA_length {bs : List Int} {lo hi op p : Int} (h0 : 0 ≤ p) : (prtA bs lo hi op p).length = if inA bs lo hi op p then mw op else 0 := by
  unfold prtA
  split
  · next h => rw [prt_length]; unfold inA at h; omega
  · rfl
theorem accS_sl {t : TypeId} {k : IntKind} {H : Heap} {g : Nat} {v : Value} {bs : List Int} {most : Int} (h : MAt t k H g v bs most) (lo hi op p : Int) (hp : 0 ≤ p) : Sl 1 (EInt .u8) H (accS v bs lo hi op p) (prtA bs lo hi op p) := by
  unfold accS prtA
  split
  · next hA =>
    unfold inA at hA
    have := (h.w.sl (emptyOld _) (by decide)).sub (lo := p.toNat) (hi := (p + mw op).toNat) (by omega) (by omega)
    unfold prt
    rw [show p.toNat + mw op = (p + mw op).toNat by omega]
    exact this
  · exact Sl.nil _ _ _
theorem partS_sl {t : TypeId} {k : IntKind} {H : Heap} {g : Nat} {v : Value} {bs : List Int} {most : Int} (h : MAt t k H g v bs most) (a n : Int) (ha : 0 ≤ a) (hn : 0 ≤ n) : Sl 1 (EInt .u8) H (partS v bs a n) (prtP bs a n) := by
  unfold partS prtP
  split
  · next hA =>
    have := (h.w.sl (emptyOld _) (by decide)).sub (lo := a.toNat) (hi := (a + n).toNat) (by omega) (by omega)
    unfold prt
    rw [show a.toNat + n.toNat = (a + n).toNat by omega]
    exact this
  · exact Sl.nil _ _ _
theorem own_some {t : TypeId} {k : IntKind} {H : Heap} {g : Nat} {v : Value} {bs : List Int} {most : Int} (h : MAt t k H g v bs most) (hl : 0 < bs.length) : ∃ g0 cap, v = .slice (some ⟨g0, 0, none⟩) bs.length cap ∧ bs.length ≤ cap ∧ v ≠ .slice none 0 0 ∧ g ≠ vblock v ∧ vblock v < H.size := by
  obtain ⟨g0, cap, hv, -, hb, -⟩ := h.w.addr hl
  obtain ⟨a, cap', hv2, hc, -⟩ := h.w.val
  have hne : v ≠ .slice none 0 0 := by rw [hv]; simp
  refine ⟨g0, cap, hv, ?_, hne, ?_, ?_⟩
  · rw [hv] at hv2; injection hv2 with _ _ e; omega
  · rcases h.d with h | h
    · exact absurd h hne
    · exact fun e => h e.symm
  · rcases h.w.lt with h | h
    · exact absurd h hne
    · exact h.2
theorem accS_base {t : TypeId} {k : IntKind} {H : Heap} {g : Nat} {v : Value} {bs : List Int} {most : Int} (h : MAt t k H g v bs most) {lo hi op p : Int} (hA : inA bs lo hi op p) (hp : 0 ≤ p) (i : Nat) : (vbase (accS v bs lo hi op p)).add i = (vbase v).add (p.toNat + i) := by
  unfold accS
  rw [if_pos hA]
  unfold inA at hA
  obtain ⟨g0, cap, rfl, hc, -⟩ := own_some h (by omega)
  rw [subV_base (by omega)]
  exact add_add _ rfl _ _
theorem Fr.trans {g : Nat} {v : Value} {A B C : Heap} (h : Fr g v A B) (k : Fr g v B C) : Fr g v A C := ⟨Nat.le_trans h.1 k.1, fun i hi h1 h2 => (k.2 i (by have := h.1; omega) h1 h2).trans (h.2 i hi h1 h2)⟩
/-- what is loaded -/
def loadN (op x : Int) : Int := if op = 44 ∨ op = 46 then sx x (mw op) 32 else if op = 48 ∨ op = 50 ∨ op = 52 then sx x (mw op) 64 else x
def loadX (bs : List Int) (op p : Int) : Int := if inA bs 40 53 op p then loadN op (ld (prt bs p.toNat (mw op))) else 0
def loadV (bs : List Int) (op p : Int) : Value := .tuple #[.int .u64 (loadX bs op p), .bool (decide (inA bs 40 53 op p))]
def storeB (bs : List Int) (op p x : Int) : List Int := if inA bs 54 62 op p then putAt bs p.toNat (bytesOf x (mw op)) else bs

theorem take_snoc {l : List Int} {k : Nat} (h : k < l.length) : l.take (k + 1) = l.take k ++ [l.getD k default] := by
  rw [List.take_succ_eq_append_getElem h, List.getD_eq_getElem?_getD, List.getElem?_eq_getElem h]; rfl

set_option maxRecDepth 100000 in
set_option maxHeartbeats 4000000 in
theorem Load_any {H : Heap} (g : Nat) (v : Value) (bs : List Int) (most : Int) (h : MAt 65 .u32 H g v bs most) (op at_ off : Int) (r4 : InR .u8 op) (r2 : InR .u32 at_) (r3 : InR .u32 off) : Ct Try.prog 12 [.pointer (some ⟨g, 0, none⟩), .int .u8 op, .int .u32 at_, .int .u32 off] H (fun u H' => u = loadV bs op (at_ + off) ∧ Old H H') := by
  refine Ct.mk Try.func12 rfl Try.ntmps12 rfl ?_
  intro W0 hW0
  have o0 : Old H H := Old.refl H
  dsimp only [InR] at r2 r3 r4
  refine KC.seq ?_
  refine KC.region ?_
  refine KL.op (R.assign rfl rfl) rfl rfl rfl ?_
  refine KL.op (R.assign rfl rfl) rfl rfl rfl ?_
  refine KL.nil ?_
  refine KQ.seq ?_
  refine KC.seq ?_
  refine KC.region ?_
  refine KL.op (R.move rfl rfl) rfl rfl rfl ?_
  refine KL.op (R.move rfl rfl) rfl rfl rfl ?_
  refine KL.op (R.move rfl rfl) rfl rfl rfl ?_
  refine KL.op (R.move rfl rfl) rfl rfl rfl ?_
  refine KL.call rfl rfl rfl rfl Try.call28 rfl rfl rfl (access_any _ _ _ _ h _ _ _ _ _ r2 r3 r4) ?_
  rintro _ H1 ⟨rfl, oa⟩
  have o0 := o0.trans oa
  have hs0 := accS_sl (h.old oa) 40 53 op (at_ + off) (by omega)
  have hml := mw_le op
  refine KL.op (R.move rfl rfl) rfl rfl rfl ?_
  refine KL.op (R.extract rfl rfl rfl) rfl rfl rfl ?_
  refine KL.op (R.extract rfl rfl rfl) rfl rfl rfl ?_
  refine KL.op (R.assign rfl rfl) rfl rfl rfl ?_
  refine KL.op (R.assign rfl rfl) rfl rfl rfl ?_
  refine KL.nil ?_
  refine KQ.seq ?_
  refine KC.seq ?_
  refine KC.seq ?_
  refine KC.region ?_
  refine KL.op (R.move rfl rfl) rfl rfl rfl ?_
  refine KL.op (R.not rfl rfl) rfl rfl rfl ?_
  refine KL.nil ?_
  refine KQ.seq ?_
  refine KC.iteL rfl ?_ ?_
  · intro hc25
    try simp only [decide_eq_true_eq, decide_eq_false_iff_not, Bool.not_eq_true', Bool.not_eq_false', Bool.and_eq_true, Bool.or_eq_false_iff] at hc25
    refine KC.seq ?_
    refine KC.region ?_
    refine KL.op (R.assign rfl rfl) rfl rfl rfl ?_
    refine KL.op (R.assign rfl rfl) rfl rfl rfl ?_
    refine KL.nil ?_
    refine KQ.seq ?_
    refine KC.ret ?_
    refine KQ.retThen ?_
    refine KQ.ofRet ?_
    refine KQ.fin2 Try.results12 rfl rfl ?_
    refine ⟨?_, o0⟩
    unfold loadV loadX
    first
      | (have hN : ¬ inA bs 40 53 op (at_ + off) := (by assumption)
         rw [if_neg hN, decide_eq_false hN])
      | (have hx := ld_range (prt_byt h.byt (at_ + off).toNat (mw op))
         rw [prt_length (by unfold inA at hA; omega)] at hx
         have ek : k = (prt bs (at_ + off).toNat (mw op)).length := (by omega)
         subst ek
         rw [if_pos hA, decide_eq_true hA]
         unfold loadN
         rw [List.take_length]
         try rw [hpl]
         first
           | (have e1 : mw op = 1 := (by unfold mw; rw [if_pos (by omega)])
              rw [if_pos (show op = 44 ∨ op = 46 by omega), e1]
              rw [e1] at hx
              refine congrArg (fun z => Value.tuple #[.int .u64 z, .bool true]) (sx32 (.inl rfl) hx.1 hx.2))
           | (have e1 : mw op = 2 := (by unfold mw; rw [if_neg (by omega), if_pos (by omega)])
              rw [if_pos (show op = 44 ∨ op = 46 by omega), e1]
              rw [e1] at hx
              refine congrArg (fun z => Value.tuple #[.int .u64 z, .bool true]) (sx32 (.inr rfl) hx.1 hx.2))
           | (have e1 : mw op = 1 := (by unfold mw; rw [if_pos (by omega)])
              rw [if_neg (show ¬ (op = 44 ∨ op = 46) by omega), if_pos (show op = 48 ∨ op = 50 ∨ op = 52 by omega), e1]
              rw [e1] at hx
              refine congrArg (fun z => Value.tuple #[.int .u64 z, .bool true]) (sx64 (.inl rfl) hx.1 hx.2))
           | (have e1 : mw op = 2 := (by unfold mw; rw [if_neg (by omega), if_pos (by omega)])
              rw [if_neg (show ¬ (op = 44 ∨ op = 46) by omega), if_pos (show op = 48 ∨ op = 50 ∨ op = 52 by omega), e1]
              rw [e1] at hx
              refine congrArg (fun z => Value.tuple #[.int .u64 z, .bool true]) (sx64 (.inr (.inl rfl)) hx.1 hx.2))
           | (have e1 : mw op = 4 := (by unfold mw; rw [if_neg (by omega), if_neg (by omega), if_pos (by omega)])
              rw [if_neg (show ¬ (op = 44 ∨ op = 46) by omega), if_pos (show op = 48 ∨ op = 50 ∨ op = 52 by omega), e1]
              rw [e1] at hx
              refine congrArg (fun z => Value.tuple #[.int .u64 z, .bool true]) (sx64 (.inr (.inr rfl)) hx.1 hx.2))
           | rw [if_neg (by omega), if_neg (by omega)])
  · intro hc25
    try simp only [decide_eq_true_eq, decide_eq_false_iff_not, Bool.not_eq_true', Bool.not_eq_false', Bool.and_eq_true, Bool.or_eq_false_iff] at hc25
    have hA : inA bs 40 53 op (at_ + off) := (by simpa using hc25)
    rw [prtA, if_pos hA] at hs0
    have hpl : (prt bs (at_ + off).toNat (mw op)).length = mw op := prt_length (by unfold inA at hA; omega)
    refine KC.skip ?_
    refine KQ.seq ?_
    refine KC.seq ?_
    refine KC.region ?_
    refine KL.op (R.assign rfl rfl) rfl rfl rfl ?_
    refine KL.nil ?_
    refine KQ.seq ?_
    refine KC.seq ?_
    refine KC.seq ?_
    refine KC.region ?_
    refine KL.op (R.move rfl rfl) rfl rfl rfl ?_
    refine KL.op ((by first | exact R.lenS rfl Try.underlying22 rfl (by first | exact hs0 | assumption) | exact R.len (ty := 0) rfl Try.underlying22 rfl)) rfl rfl rfl ?_
    refine KL.op (R.move rfl rfl) rfl rfl rfl ?_
    refine KL.nil ?_
    refine KQ.seq ?_
    refine KC.block ?_
    refine KC.loopD (κ := Nat) [29, 30, 31, 32, 13, 14, 33, 34, 35, 36, 37, 38, 39, 12, 40, 28] (fun k => [(28, .int .i64 (k : Nat)), (12, .int .u64 (ld ((prt bs (at_ + off).toNat (mw op)).take k)))]) (fun k Hl => k ≤ (prt bs (at_ + off).toNat (mw op)).length ∧ H1 = Hl) (fun k => (prt bs (at_ + off).toNat (mw op)).length - k) 0 ?_ ?_ ?_
    · exact (Sub.cons rfl (Sub.cons rfl (Ext.sub (Ext.refl _ _))))
    · exact ⟨Nat.zero_le _, rfl⟩
    · rintro k H2 ⟨hk, rfl⟩
      refine KC.seq ?_
      refine KC.region ?_
      refine KL.op (R.lss rfl rfl rfl) rfl rfl rfl ?_
      refine KL.nil ?_
      refine KQ.seq ?_
      refine KC.seq ?_
      refine KC.iteL rfl ?_ ?_
      · intro hc29
        try simp only [decide_eq_true_eq, decide_eq_false_iff_not, Bool.not_eq_true', Bool.not_eq_false', Bool.and_eq_true, Bool.or_eq_false_iff] at hc29
        have hxr := (hs0.int k (by omega)).2
        dsimp only [InR] at hxr
        have htl : ((prt bs (at_ + off).toNat (mw op)).take k).length = k := (by simp; omega)
        have hor := or8 (l := (prt bs (at_ + off).toNat (mw op)).take k) (x := (prt bs (at_ + off).toNat (mw op)).getD k default) (fun y hy => prt_byt h.byt _ _ y (List.mem_of_mem_take hy)) (by omega) (by omega) (by omega)
        rw [htl] at hor
        rw [← take_snoc (by omega)] at hor
        refine KC.skip ?_
        refine KQ.seq ?_
        refine KC.seq ?_
        refine KC.block ?_
        refine KC.seq ?_
        refine KC.region ?_
        refine KL.op (R.move rfl rfl) rfl rfl rfl ?_
        refine KL.op (R.index1 rfl Try.underlying22 sz5 rfl rfl (by first | exact hs0 | assumption) rfl (by omega)) rfl rfl rfl ?_
        refine KL.op (R.load rfl Try.underlying5 rfl rfl (by first | exact (hs0.int k (by omega)).1 | assumption)) rfl rfl rfl ?_
        refine KL.op (R.assign rfl rfl) rfl rfl rfl ?_
        refine KL.op (R.assign rfl rfl) rfl rfl rfl ?_
        refine KL.nil ?_
        refine KQ.seq ?_
        refine KC.region ?_
        refine KL.op (R.move rfl rfl) rfl rfl rfl ?_
        refine KL.op (R.move rfl rfl) rfl rfl rfl ?_
        refine KL.op (R.convI rfl Try.underlying5 Try.underlying28 rfl (by dsimp only [InR]; omega)) rfl rfl rfl ?_
        refine KL.op (R.move rfl rfl) rfl rfl rfl ?_
        refine KL.op (R.mul rfl rfl rfl (by dsimp only [InR]; omega)) rfl rfl rfl ?_
        refine KL.op ((R.shl rfl rfl rfl (by omega)).val (congrArg (Value.int .u64) (shl8 (by omega) (by omega) (by omega)))) rfl rfl rfl ?_
        refine KL.op ((R.bits rfl rfl rfl rfl).val (congrArg (Value.int .u64) hor)) rfl rfl rfl ?_
        refine KL.op (R.assign rfl rfl) rfl rfl rfl ?_
        refine KL.nil ?_
        refine KQ.normBlock ?_
        refine KQ.seq ?_
        refine KC.region ?_
        refine KL.op (R.add rfl rfl rfl (by dsimp only [InR]; omega)) rfl rfl rfl ?_
        refine KL.op (R.move rfl rfl) rfl rfl rfl ?_
        refine KL.nil ?_
        refine KQ.again (k + 1) ?_ ?_ ?_
        · exact (Sub.cons rfl (Sub.cons rfl (Ext.sub (by repeat (first | exact Ext.refl _ _ | refine Ext.put rfl ?_ | refine Ext.drop rfl ?_)))))
        · omega
        · exact ⟨by omega, rfl⟩
      · intro hc29
        try simp only [decide_eq_true_eq, decide_eq_false_iff_not, Bool.not_eq_true', Bool.not_eq_false', Bool.and_eq_true, Bool.or_eq_false_iff] at hc29
        refine KC.exit ?_
        refine KQ.exitThen ?_
        refine KQ.exitThen ?_
        refine KQ.hit ?_
        refine KQ.seq ?_
        refine KC.seq ?_
        refine KC.region ?_
        refine KL.op (R.move rfl rfl) rfl rfl rfl ?_
        refine KL.op ((by first | exact R.lenS rfl Try.underlying22 rfl (by first | exact hs0 | assumption) | exact R.len (ty := 0) rfl Try.underlying22 rfl)) rfl rfl rfl ?_
        refine KL.op (R.mul rfl rfl rfl (by dsimp only [InR]; omega)) rfl rfl rfl ?_
        refine KL.op (R.sub rfl rfl rfl (by dsimp only [InR]; omega)) rfl rfl rfl ?_
        refine KL.op (R.assign rfl rfl) rfl rfl rfl ?_
        refine KL.nil ?_
        refine KQ.seq ?_
        refine KC.seq ?_
        refine KC.seq ?_
        refine KC.region ?_
        refine KL.op (R.move rfl rfl) rfl rfl rfl ?_
        refine KL.nil ?_
        refine KQ.seq ?_
        refine KC.block ?_
        refine KC.seq ?_
        refine KC.seq ?_
        refine KC.region ?_
        refine KL.op (R.eql rfl rfl rfl) rfl rfl rfl ?_
        refine KL.op (R.assign rfl rfl) rfl rfl rfl ?_
        refine KL.nil ?_
        refine KQ.seq ?_
        refine KC.iteL rfl ?_ ?_
        · intro hc46
          try simp only [decide_eq_true_eq, decide_eq_false_iff_not, Bool.not_eq_true', Bool.not_eq_false', Bool.and_eq_true, Bool.or_eq_false_iff] at hc46
          refine KC.skip ?_
          refine KQ.seq ?_
          refine KC.condT rfl ?_
          refine KC.region ?_
          refine KL.op (R.move rfl rfl) rfl rfl rfl ?_
          refine KL.op (R.move rfl rfl) rfl rfl rfl ?_
          refine KL.op (R.shl rfl rfl rfl (by omega)) rfl rfl rfl ?_
          refine KL.op (R.convW rfl Try.underlying28 Try.underlying2 rfl) rfl rfl rfl ?_
          refine KL.op (R.move rfl rfl) rfl rfl rfl ?_
          refine KL.op (R.shr rfl rfl rfl (by omega)) rfl rfl rfl ?_
          refine KL.op (R.convW rfl Try.underlying2 Try.underlying23 rfl) rfl rfl rfl ?_
          refine KL.op (R.convW rfl Try.underlying23 Try.underlying28 rfl) rfl rfl rfl ?_
          refine KL.op (R.assign rfl rfl) rfl rfl rfl ?_
          refine KL.nil ?_
          refine KQ.normBlock ?_
          refine KQ.seq ?_
          refine KC.seq ?_
          refine KC.region ?_
          refine KL.op (R.move rfl rfl) rfl rfl rfl ?_
          refine KL.op (R.assign rfl rfl) rfl rfl rfl ?_
          refine KL.op (R.assign rfl rfl) rfl rfl rfl ?_
          refine KL.nil ?_
          refine KQ.seq ?_
          refine KC.ret ?_
          refine KQ.ofRet ?_
          refine KQ.fin2 Try.results12 rfl rfl ?_
          refine ⟨?_, o0⟩
          unfold loadV loadX
          first
            | (have hN : ¬ inA bs 40 53 op (at_ + off) := (by assumption)
               rw [if_neg hN, decide_eq_false hN])
            | (have hx := ld_range (prt_byt h.byt (at_ + off).toNat (mw op))
               rw [prt_length (by unfold inA at hA; omega)] at hx
               have ek : k = (prt bs (at_ + off).toNat (mw op)).length := (by omega)
               subst ek
               rw [if_pos hA, decide_eq_true hA]
               unfold loadN
               rw [List.take_length]
               try rw [hpl]
               first
                 | (have e1 : mw op = 1 := (by unfold mw; rw [if_pos (by omega)])
                    rw [if_pos (show op = 44 ∨ op = 46 by omega), e1]
                    rw [e1] at hx
                    refine congrArg (fun z => Value.tuple #[.int .u64 z, .bool true]) (sx32 (.inl rfl) hx.1 hx.2))
                 | (have e1 : mw op = 2 := (by unfold mw; rw [if_neg (by omega), if_pos (by omega)])
                    rw [if_pos (show op = 44 ∨ op = 46 by omega), e1]
                    rw [e1] at hx
                    refine congrArg (fun z => Value.tuple #[.int .u64 z, .bool true]) (sx32 (.inr rfl) hx.1 hx.2))
                 | (have e1 : mw op = 1 := (by unfold mw; rw [if_pos (by omega)])
                    rw [if_neg (show ¬ (op = 44 ∨ op = 46) by omega), if_pos (show op = 48 ∨ op = 50 ∨ op = 52 by omega), e1]
                    rw [e1] at hx
                    refine congrArg (fun z => Value.tuple #[.int .u64 z, .bool true]) (sx64 (.inl rfl) hx.1 hx.2))
                 | (have e1 : mw op = 2 := (by unfold mw; rw [if_neg (by omega), if_pos (by omega)])
                    rw [if_neg (show ¬ (op = 44 ∨ op = 46) by omega), if_pos (show op = 48 ∨ op = 50 ∨ op = 52 by omega), e1]
                    rw [e1] at hx
                    refine congrArg (fun z => Value.tuple #[.int .u64 z, .bool true]) (sx64 (.inr (.inl rfl)) hx.1 hx.2))
                 | (have e1 : mw op = 4 := (by unfold mw; rw [if_neg (by omega), if_neg (by omega), if_pos (by omega)])
                    rw [if_neg (show ¬ (op = 44 ∨ op = 46) by omega), if_pos (show op = 48 ∨ op = 50 ∨ op = 52 by omega), e1]
                    rw [e1] at hx
                    refine congrArg (fun z => Value.tuple #[.int .u64 z, .bool true]) (sx64 (.inr (.inr rfl)) hx.1 hx.2))
                 | rw [if_neg (by omega), if_neg (by omega)])
        · intro hc46
          try simp only [decide_eq_true_eq, decide_eq_false_iff_not, Bool.not_eq_true', Bool.not_eq_false', Bool.and_eq_true, Bool.or_eq_false_iff] at hc46
          refine KC.region ?_
          refine KL.op (R.eql rfl rfl rfl) rfl rfl rfl ?_
          refine KL.op (R.assign rfl rfl) rfl rfl rfl ?_
          refine KL.nil ?_
          refine KQ.seq ?_
          refine KC.iteL rfl ?_ ?_
          · intro hc46
            try simp only [decide_eq_true_eq, decide_eq_false_iff_not, Bool.not_eq_true', Bool.not_eq_false', Bool.and_eq_true, Bool.or_eq_false_iff] at hc46
            refine KC.region ?_
            refine KL.op (R.move rfl rfl) rfl rfl rfl ?_
            refine KL.op (R.move rfl rfl) rfl rfl rfl ?_
            refine KL.op (R.shl rfl rfl rfl (by omega)) rfl rfl rfl ?_
            refine KL.op (R.convW rfl Try.underlying28 Try.underlying2 rfl) rfl rfl rfl ?_
            refine KL.op (R.move rfl rfl) rfl rfl rfl ?_
            refine KL.op (R.shr rfl rfl rfl (by omega)) rfl rfl rfl ?_
            refine KL.op (R.convW rfl Try.underlying2 Try.underlying23 rfl) rfl rfl rfl ?_
            refine KL.op (R.convW rfl Try.underlying23 Try.underlying28 rfl) rfl rfl rfl ?_
            refine KL.op (R.assign rfl rfl) rfl rfl rfl ?_
            refine KL.nil ?_
            refine KQ.normBlock ?_
            refine KQ.seq ?_
            refine KC.seq ?_
            refine KC.region ?_
            refine KL.op (R.move rfl rfl) rfl rfl rfl ?_
            refine KL.op (R.assign rfl rfl) rfl rfl rfl ?_
            refine KL.op (R.assign rfl rfl) rfl rfl rfl ?_
            refine KL.nil ?_
            refine KQ.seq ?_
            refine KC.ret ?_
            refine KQ.ofRet ?_
            refine KQ.fin2 Try.results12 rfl rfl ?_
            refine ⟨?_, o0⟩
            unfold loadV loadX
            first
              | (have hN : ¬ inA bs 40 53 op (at_ + off) := (by assumption)
                 rw [if_neg hN, decide_eq_false hN])
              | (have hx := ld_range (prt_byt h.byt (at_ + off).toNat (mw op))
                 rw [prt_length (by unfold inA at hA; omega)] at hx
                 have ek : k = (prt bs (at_ + off).toNat (mw op)).length := (by omega)
                 subst ek
                 rw [if_pos hA, decide_eq_true hA]
                 unfold loadN
                 rw [List.take_length]
                 try rw [hpl]
                 first
                   | (have e1 : mw op = 1 := (by unfold mw; rw [if_pos (by omega)])
                      rw [if_pos (show op = 44 ∨ op = 46 by omega), e1]
                      rw [e1] at hx
                      refine congrArg (fun z => Value.tuple #[.int .u64 z, .bool true]) (sx32 (.inl rfl) hx.1 hx.2))
                   | (have e1 : mw op = 2 := (by unfold mw; rw [if_neg (by omega), if_pos (by omega)])
                      rw [if_pos (show op = 44 ∨ op = 46 by omega), e1]
                      rw [e1] at hx
                      refine congrArg (fun z => Value.tuple #[.int .u64 z, .bool true]) (sx32 (.inr rfl) hx.1 hx.2))
                   | (have e1 : mw op = 1 := (by unfold mw; rw [if_pos (by omega)])
                      rw [if_neg (show ¬ (op = 44 ∨ op = 46) by omega), if_pos (show op = 48 ∨ op = 50 ∨ op = 52 by omega), e1]
                      rw [e1] at hx
                      refine congrArg (fun z => Value.tuple #[.int .u64 z, .bool true]) (sx64 (.inl rfl) hx.1 hx.2))
                   | (have e1 : mw op = 2 := (by unfold mw; rw [if_neg (by omega), if_pos (by omega)])
                      rw [if_neg (show ¬ (op = 44 ∨ op = 46) by omega), if_pos (show op = 48 ∨ op = 50 ∨ op = 52 by omega), e1]
                      rw [e1] at hx
                      refine congrArg (fun z => Value.tuple #[.int .u64 z, .bool true]) (sx64 (.inr (.inl rfl)) hx.1 hx.2))
                   | (have e1 : mw op = 4 := (by unfold mw; rw [if_neg (by omega), if_neg (by omega), if_pos (by omega)])
                      rw [if_neg (show ¬ (op = 44 ∨ op = 46) by omega), if_pos (show op = 48 ∨ op = 50 ∨ op = 52 by omega), e1]
                      rw [e1] at hx
                      refine congrArg (fun z => Value.tuple #[.int .u64 z, .bool true]) (sx64 (.inr (.inr rfl)) hx.1 hx.2))
                   | rw [if_neg (by omega), if_neg (by omega)])
          · intro hc46
            try simp only [decide_eq_true_eq, decide_eq_false_iff_not, Bool.not_eq_true', Bool.not_eq_false', Bool.and_eq_true, Bool.or_eq_false_iff] at hc46
            refine KC.seq ?_
            refine KC.seq ?_
            refine KC.region ?_
            refine KL.op (R.eql rfl rfl rfl) rfl rfl rfl ?_
            refine KL.op (R.assign rfl rfl) rfl rfl rfl ?_
            refine KL.nil ?_
            refine KQ.seq ?_
            refine KC.iteL rfl ?_ ?_
            · intro hc57
              try simp only [decide_eq_true_eq, decide_eq_false_iff_not, Bool.not_eq_true', Bool.not_eq_false', Bool.and_eq_true, Bool.or_eq_false_iff] at hc57
              refine KC.skip ?_
              refine KQ.seq ?_
              refine KC.condT rfl ?_
              refine KC.region ?_
              refine KL.op (R.move rfl rfl) rfl rfl rfl ?_
              refine KL.op (R.move rfl rfl) rfl rfl rfl ?_
              refine KL.op (R.shl rfl rfl rfl (by omega)) rfl rfl rfl ?_
              refine KL.op (R.convW rfl Try.underlying28 Try.underlying2 rfl) rfl rfl rfl ?_
              refine KL.op (R.move rfl rfl) rfl rfl rfl ?_
              refine KL.op (R.shr rfl rfl rfl (by omega)) rfl rfl rfl ?_
              refine KL.op (R.convW rfl Try.underlying2 Try.underlying28 rfl) rfl rfl rfl ?_
              refine KL.op (R.assign rfl rfl) rfl rfl rfl ?_
              refine KL.nil ?_
              refine KQ.normBlock ?_
              refine KQ.seq ?_
              refine KC.seq ?_
              refine KC.region ?_
              refine KL.op (R.move rfl rfl) rfl rfl rfl ?_
              refine KL.op (R.assign rfl rfl) rfl rfl rfl ?_
              refine KL.op (R.assign rfl rfl) rfl rfl rfl ?_
              refine KL.nil ?_
              refine KQ.seq ?_
              refine KC.ret ?_
              refine KQ.ofRet ?_
              refine KQ.fin2 Try.results12 rfl rfl ?_
              refine ⟨?_, o0⟩
              unfold loadV loadX
              first
                | (have hN : ¬ inA bs 40 53 op (at_ + off) := (by assumption)
                   rw [if_neg hN, decide_eq_false hN])
                | (have hx := ld_range (prt_byt h.byt (at_ + off).toNat (mw op))
                   rw [prt_length (by unfold inA at hA; omega)] at hx
                   have ek : k = (prt bs (at_ + off).toNat (mw op)).length := (by omega)
                   subst ek
                   rw [if_pos hA, decide_eq_true hA]
                   unfold loadN
                   rw [List.take_length]
                   try rw [hpl]
                   first
                     | (have e1 : mw op = 1 := (by unfold mw; rw [if_pos (by omega)])
                        rw [if_pos (show op = 44 ∨ op = 46 by omega), e1]
                        rw [e1] at hx
                        refine congrArg (fun z => Value.tuple #[.int .u64 z, .bool true]) (sx32 (.inl rfl) hx.1 hx.2))
                     | (have e1 : mw op = 2 := (by unfold mw; rw [if_neg (by omega), if_pos (by omega)])
                        rw [if_pos (show op = 44 ∨ op = 46 by omega), e1]
                        rw [e1] at hx
                        refine congrArg (fun z => Value.tuple #[.int .u64 z, .bool true]) (sx32 (.inr rfl) hx.1 hx.2))
                     | (have e1 : mw op = 1 := (by unfold mw; rw [if_pos (by omega)])
                        rw [if_neg (show ¬ (op = 44 ∨ op = 46) by omega), if_pos (show op = 48 ∨ op = 50 ∨ op = 52 by omega), e1]
                        rw [e1] at hx
                        refine congrArg (fun z => Value.tuple #[.int .u64 z, .bool true]) (sx64 (.inl rfl) hx.1 hx.2))
                     | (have e1 : mw op = 2 := (by unfold mw; rw [if_neg (by omega), if_pos (by omega)])
                        rw [if_neg (show ¬ (op = 44 ∨ op = 46) by omega), if_pos (show op = 48 ∨ op = 50 ∨ op = 52 by omega), e1]
                        rw [e1] at hx
                        refine congrArg (fun z => Value.tuple #[.int .u64 z, .bool true]) (sx64 (.inr (.inl rfl)) hx.1 hx.2))
                     | (have e1 : mw op = 4 := (by unfold mw; rw [if_neg (by omega), if_neg (by omega), if_pos (by omega)])
                        rw [if_neg (show ¬ (op = 44 ∨ op = 46) by omega), if_pos (show op = 48 ∨ op = 50 ∨ op = 52 by omega), e1]
                        rw [e1] at hx
                        refine congrArg (fun z => Value.tuple #[.int .u64 z, .bool true]) (sx64 (.inr (.inr rfl)) hx.1 hx.2))
                     | rw [if_neg (by omega), if_neg (by omega)])
            · intro hc57
              try simp only [decide_eq_true_eq, decide_eq_false_iff_not, Bool.not_eq_true', Bool.not_eq_false', Bool.and_eq_true, Bool.or_eq_false_iff] at hc57
              refine KC.seq ?_
              refine KC.region ?_
              refine KL.op (R.eql rfl rfl rfl) rfl rfl rfl ?_
              refine KL.op (R.assign rfl rfl) rfl rfl rfl ?_
              refine KL.nil ?_
              refine KQ.seq ?_
              refine KC.iteL rfl ?_ ?_
              · intro hc57
                try simp only [decide_eq_true_eq, decide_eq_false_iff_not, Bool.not_eq_true', Bool.not_eq_false', Bool.and_eq_true, Bool.or_eq_false_iff] at hc57
                refine KC.skip ?_
                refine KQ.seq ?_
                refine KC.condT rfl ?_
                refine KC.region ?_
                refine KL.op (R.move rfl rfl) rfl rfl rfl ?_
                refine KL.op (R.move rfl rfl) rfl rfl rfl ?_
                refine KL.op (R.shl rfl rfl rfl (by omega)) rfl rfl rfl ?_
                refine KL.op (R.convW rfl Try.underlying28 Try.underlying2 rfl) rfl rfl rfl ?_
                refine KL.op (R.move rfl rfl) rfl rfl rfl ?_
                refine KL.op (R.shr rfl rfl rfl (by omega)) rfl rfl rfl ?_
                refine KL.op (R.convW rfl Try.underlying2 Try.underlying28 rfl) rfl rfl rfl ?_
                refine KL.op (R.assign rfl rfl) rfl rfl rfl ?_
                refine KL.nil ?_
                refine KQ.normBlock ?_
                refine KQ.seq ?_
                refine KC.seq ?_
                refine KC.region ?_
                refine KL.op (R.move rfl rfl) rfl rfl rfl ?_
                refine KL.op (R.assign rfl rfl) rfl rfl rfl ?_
                refine KL.op (R.assign rfl rfl) rfl rfl rfl ?_
                refine KL.nil ?_
                refine KQ.seq ?_
                refine KC.ret ?_
                refine KQ.ofRet ?_
                refine KQ.fin2 Try.results12 rfl rfl ?_
                refine ⟨?_, o0⟩
                unfold loadV loadX
                first
                  | (have hN : ¬ inA bs 40 53 op (at_ + off) := (by assumption)
                     rw [if_neg hN, decide_eq_false hN])
                  | (have hx := ld_range (prt_byt h.byt (at_ + off).toNat (mw op))
                     rw [prt_length (by unfold inA at hA; omega)] at hx
                     have ek : k = (prt bs (at_ + off).toNat (mw op)).length := (by omega)
                     subst ek
                     rw [if_pos hA, decide_eq_true hA]
                     unfold loadN
                     rw [List.take_length]
                     try rw [hpl]
                     first
                       | (have e1 : mw op = 1 := (by unfold mw; rw [if_pos (by omega)])
                          rw [if_pos (show op = 44 ∨ op = 46 by omega), e1]
                          rw [e1] at hx
                          refine congrArg (fun z => Value.tuple #[.int .u64 z, .bool true]) (sx32 (.inl rfl) hx.1 hx.2))
                       | (have e1 : mw op = 2 := (by unfold mw; rw [if_neg (by omega), if_pos (by omega)])
                          rw [if_pos (show op = 44 ∨ op = 46 by omega), e1]
                          rw [e1] at hx
                          refine congrArg (fun z => Value.tuple #[.int .u64 z, .bool true]) (sx32 (.inr rfl) hx.1 hx.2))
                       | (have e1 : mw op = 1 := (by unfold mw; rw [if_pos (by omega)])
                          rw [if_neg (show ¬ (op = 44 ∨ op = 46) by omega), if_pos (show op = 48 ∨ op = 50 ∨ op = 52 by omega), e1]
                          rw [e1] at hx
                          refine congrArg (fun z => Value.tuple #[.int .u64 z, .bool true]) (sx64 (.inl rfl) hx.1 hx.2))
                       | (have e1 : mw op = 2 := (by unfold mw; rw [if_neg (by omega), if_pos (by omega)])
                          rw [if_neg (show ¬ (op = 44 ∨ op = 46) by omega), if_pos (show op = 48 ∨ op = 50 ∨ op = 52 by omega), e1]
                          rw [e1] at hx
                          refine congrArg (fun z => Value.tuple #[.int .u64 z, .bool true]) (sx64 (.inr (.inl rfl)) hx.1 hx.2))
                       | (have e1 : mw op = 4 := (by unfold mw; rw [if_neg (by omega), if_neg (by omega), if_pos (by omega)])
                          rw [if_neg (show ¬ (op = 44 ∨ op = 46) by omega), if_pos (show op = 48 ∨ op = 50 ∨ op = 52 by omega), e1]
                          rw [e1] at hx
                          refine congrArg (fun z => Value.tuple #[.int .u64 z, .bool true]) (sx64 (.inr (.inr rfl)) hx.1 hx.2))
                       | rw [if_neg (by omega), if_neg (by omega)])
              · intro hc57
                try simp only [decide_eq_true_eq, decide_eq_false_iff_not, Bool.not_eq_true', Bool.not_eq_false', Bool.and_eq_true, Bool.or_eq_false_iff] at hc57
                refine KC.region ?_
                refine KL.op (R.eql rfl rfl rfl) rfl rfl rfl ?_
                refine KL.op (R.assign rfl rfl) rfl rfl rfl ?_
                refine KL.nil ?_
                refine KQ.seq ?_
                refine KC.iteL rfl ?_ ?_
                · intro hc57
                  try simp only [decide_eq_true_eq, decide_eq_false_iff_not, Bool.not_eq_true', Bool.not_eq_false', Bool.and_eq_true, Bool.or_eq_false_iff] at hc57
                  refine KC.region ?_
                  refine KL.op (R.move rfl rfl) rfl rfl rfl ?_
                  refine KL.op (R.move rfl rfl) rfl rfl rfl ?_
                  refine KL.op (R.shl rfl rfl rfl (by omega)) rfl rfl rfl ?_
                  refine KL.op (R.convW rfl Try.underlying28 Try.underlying2 rfl) rfl rfl rfl ?_
                  refine KL.op (R.move rfl rfl) rfl rfl rfl ?_
                  refine KL.op (R.shr rfl rfl rfl (by omega)) rfl rfl rfl ?_
                  refine KL.op (R.convW rfl Try.underlying2 Try.underlying28 rfl) rfl rfl rfl ?_
                  refine KL.op (R.assign rfl rfl) rfl rfl rfl ?_
                  refine KL.nil ?_
                  refine KQ.normBlock ?_
                  refine KQ.seq ?_
                  refine KC.seq ?_
                  refine KC.region ?_
                  refine KL.op (R.move rfl rfl) rfl rfl rfl ?_
                  refine KL.op (R.assign rfl rfl) rfl rfl rfl ?_
                  refine KL.op (R.assign rfl rfl) rfl rfl rfl ?_
                  refine KL.nil ?_
                  refine KQ.seq ?_
                  refine KC.ret ?_
                  refine KQ.ofRet ?_
                  refine KQ.fin2 Try.results12 rfl rfl ?_
                  refine ⟨?_, o0⟩
                  unfold loadV loadX
                  first
                    | (have hN : ¬ inA bs 40 53 op (at_ + off) := (by assumption)
                       rw [if_neg hN, decide_eq_false hN])
                    | (have hx := ld_range (prt_byt h.byt (at_ + off).toNat (mw op))
                       rw [prt_length (by unfold inA at hA; omega)] at hx
                       have ek : k = (prt bs (at_ + off).toNat (mw op)).length := (by omega)
                       subst ek
                       rw [if_pos hA, decide_eq_true hA]
                       unfold loadN
                       rw [List.take_length]
                       try rw [hpl]
                       first
                         | (have e1 : mw op = 1 := (by unfold mw; rw [if_pos (by omega)])
                            rw [if_pos (show op = 44 ∨ op = 46 by omega), e1]
                            rw [e1] at hx
                            refine congrArg (fun z => Value.tuple #[.int .u64 z, .bool true]) (sx32 (.inl rfl) hx.1 hx.2))
                         | (have e1 : mw op = 2 := (by unfold mw; rw [if_neg (by omega), if_pos (by omega)])
                            rw [if_pos (show op = 44 ∨ op = 46 by omega), e1]
                            rw [e1] at hx
                            refine congrArg (fun z => Value.tuple #[.int .u64 z, .bool true]) (sx32 (.inr rfl) hx.1 hx.2))
                         | (have e1 : mw op = 1 := (by unfold mw; rw [if_pos (by omega)])
                            rw [if_neg (show ¬ (op = 44 ∨ op = 46) by omega), if_pos (show op = 48 ∨ op = 50 ∨ op = 52 by omega), e1]
                            rw [e1] at hx
                            refine congrArg (fun z => Value.tuple #[.int .u64 z, .bool true]) (sx64 (.inl rfl) hx.1 hx.2))
                         | (have e1 : mw op = 2 := (by unfold mw; rw [if_neg (by omega), if_pos (by omega)])
                            rw [if_neg (show ¬ (op = 44 ∨ op = 46) by omega), if_pos (show op = 48 ∨ op = 50 ∨ op = 52 by omega), e1]
                            rw [e1] at hx
                            refine congrArg (fun z => Value.tuple #[.int .u64 z, .bool true]) (sx64 (.inr (.inl rfl)) hx.1 hx.2))
                         | (have e1 : mw op = 4 := (by unfold mw; rw [if_neg (by omega), if_neg (by omega), if_pos (by omega)])
                            rw [if_neg (show ¬ (op = 44 ∨ op = 46) by omega), if_pos (show op = 48 ∨ op = 50 ∨ op = 52 by omega), e1]
                            rw [e1] at hx
                            refine congrArg (fun z => Value.tuple #[.int .u64 z, .bool true]) (sx64 (.inr (.inr rfl)) hx.1 hx.2))
                         | rw [if_neg (by omega), if_neg (by omega)])
                · intro hc57
                  try simp only [decide_eq_true_eq, decide_eq_false_iff_not, Bool.not_eq_true', Bool.not_eq_false', Bool.and_eq_true, Bool.or_eq_false_iff] at hc57
                  refine KC.skip ?_
                  refine KQ.normBlock ?_
                  refine KQ.seq ?_
                  refine KC.seq ?_
                  refine KC.region ?_
                  refine KL.op (R.move rfl rfl) rfl rfl rfl ?_
                  refine KL.op (R.assign rfl rfl) rfl rfl rfl ?_
                  refine KL.op (R.assign rfl rfl) rfl rfl rfl ?_
                  refine KL.nil ?_
                  refine KQ.seq ?_
                  refine KC.ret ?_
                  refine KQ.ofRet ?_
                  refine KQ.fin2 Try.results12 rfl rfl ?_
                  refine ⟨?_, o0⟩
                  unfold loadV loadX
                  first
                    | (have hN : ¬ inA bs 40 53 op (at_ + off) := (by assumption)
                       rw [if_neg hN, decide_eq_false hN])
                    | (have hx := ld_range (prt_byt h.byt (at_ + off).toNat (mw op))
                       rw [prt_length (by unfold inA at hA; omega)] at hx
                       have ek : k = (prt bs (at_ + off).toNat (mw op)).length := (by omega)
                       subst ek
                       rw [if_pos hA, decide_eq_true hA]
                       unfold loadN
                       rw [List.take_length]
                       try rw [hpl]
                       first
                         | (have e1 : mw op = 1 := (by unfold mw; rw [if_pos (by omega)])
                            rw [if_pos (show op = 44 ∨ op = 46 by omega), e1]
                            rw [e1] at hx
                            refine congrArg (fun z => Value.tuple #[.int .u64 z, .bool true]) (sx32 (.inl rfl) hx.1 hx.2))
                         | (have e1 : mw op = 2 := (by unfold mw; rw [if_neg (by omega), if_pos (by omega)])
                            rw [if_pos (show op = 44 ∨ op = 46 by omega), e1]
                            rw [e1] at hx
                            refine congrArg (fun z => Value.tuple #[.int .u64 z, .bool true]) (sx32 (.inr rfl) hx.1 hx.2))
                         | (have e1 : mw op = 1 := (by unfold mw; rw [if_pos (by omega)])
                            rw [if_neg (show ¬ (op = 44 ∨ op = 46) by omega), if_pos (show op = 48 ∨ op = 50 ∨ op = 52 by omega), e1]
                            rw [e1] at hx
                            refine congrArg (fun z => Value.tuple #[.int .u64 z, .bool true]) (sx64 (.inl rfl) hx.1 hx.2))
                         | (have e1 : mw op = 2 := (by unfold mw; rw [if_neg (by omega), if_pos (by omega)])
                            rw [if_neg (show ¬ (op = 44 ∨ op = 46) by omega), if_pos (show op = 48 ∨ op = 50 ∨ op = 52 by omega), e1]
                            rw [e1] at hx
                            refine congrArg (fun z => Value.tuple #[.int .u64 z, .bool true]) (sx64 (.inr (.inl rfl)) hx.1 hx.2))
                         | (have e1 : mw op = 4 := (by unfold mw; rw [if_neg (by omega), if_neg (by omega), if_pos (by omega)])
                            rw [if_neg (show ¬ (op = 44 ∨ op = 46) by omega), if_pos (show op = 48 ∨ op = 50 ∨ op = 52 by omega), e1]
                            rw [e1] at hx
                            refine congrArg (fun z => Value.tuple #[.int .u64 z, .bool true]) (sx64 (.inr (.inr rfl)) hx.1 hx.2))
                         | rw [if_neg (by omega), if_neg (by omega)])

set_option maxRecDepth 100000 in
set_option maxHeartbeats 4000000 in
theorem Load_nil {H : Heap} (op at_ off : Int) (r4 : InR .u8 op) (r2 : InR .u32 at_) (r3 : InR .u32 off) : Ct Try.prog 12 [.pointer none, .int .u8 op, .int .u32 at_, .int .u32 off] H (fun u H' => u = .tuple #[.int .u64 0, .bool false] ∧ Old H H') := by
  refine Ct.mk Try.func12 rfl Try.ntmps12 rfl ?_
  intro W0 hW0
  have o0 : Old H H := Old.refl H
  dsimp only [InR] at r2 r3 r4
  refine KC.seq ?_
  refine KC.region ?_
  refine KL.op (R.assign rfl rfl) rfl rfl rfl ?_
  refine KL.op (R.assign rfl rfl) rfl rfl rfl ?_
  refine KL.nil ?_
  refine KQ.seq ?_
  refine KC.seq ?_
  refine KC.region ?_
  refine KL.op (R.move rfl rfl) rfl rfl rfl ?_
  refine KL.op (R.move rfl rfl) rfl rfl rfl ?_
  refine KL.op (R.move rfl rfl) rfl rfl rfl ?_
  refine KL.op (R.move rfl rfl) rfl rfl rfl ?_
  refine KL.call rfl rfl rfl rfl Try.call28 rfl rfl rfl (access_nil _ _ _ _ _ r2 r3 r4) ?_
  rintro _ H1 ⟨rfl, oa⟩
  have o0 := o0.trans oa
  refine KL.op (R.move rfl rfl) rfl rfl rfl ?_
  refine KL.op (R.extract rfl rfl rfl) rfl rfl rfl ?_
  refine KL.op (R.extract rfl rfl rfl) rfl rfl rfl ?_
  refine KL.op (R.assign rfl rfl) rfl rfl rfl ?_
  refine KL.op (R.assign rfl rfl) rfl rfl rfl ?_
  refine KL.nil ?_
  refine KQ.seq ?_
  refine KC.seq ?_
  refine KC.seq ?_
  refine KC.region ?_
  refine KL.op (R.move rfl rfl) rfl rfl rfl ?_
  refine KL.op (R.not rfl rfl) rfl rfl rfl ?_
  refine KL.nil ?_
  refine KQ.seq ?_
  refine KC.condT rfl ?_
  refine KC.seq ?_
  refine KC.region ?_
  refine KL.op (R.assign rfl rfl) rfl rfl rfl ?_
  refine KL.op (R.assign rfl rfl) rfl rfl rfl ?_
  refine KL.nil ?_
  refine KQ.seq ?_
  refine KC.ret ?_
  refine KQ.retThen ?_
  refine KQ.ofRet ?_
  refine KQ.fin2 Try.results12 rfl rfl ?_
  exact ⟨rfl, o0⟩

end Go.Proofs.Ytdefjpakpgchhaa
