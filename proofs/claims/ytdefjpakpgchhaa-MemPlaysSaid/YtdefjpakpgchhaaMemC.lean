/- Memories: stores, and more. No condition. -/
import Derived.Test.YtdefjpakpgchhaaMemB
namespace Go.Proofs.Ytdefjpakpgchhaa
open Go Go.RowKit
set_option linter.unusedVariables false
set_option linter.unusedSimpArgs false
set_option linter.unnecessarySimpa false

theorem MAt.fr_self {t : TypeId} {k : IntKind} {H : Heap} {g : Nat} {v : Value} {bs : List Int} {most : Int} (h : MAt t k H g v bs most) {H' : Heap} (u : Upd (vblock v) H H') (hv : v ≠ .slice none 0 0) : H'[g]? = some (.cells [v, .int k most].toArray t (0, 0)) :=
  (u.2 g (fun e => (h.d.resolve_left hv) e.symm)).trans h.b

set_option maxRecDepth 100000 in
set_option maxHeartbeats 4000000 in
theorem Store_any {H : Heap} (g : Nat) (v : Value) (bs : List Int) (most : Int) (h : MAt 65 .u32 H g v bs most) (op at_ off : Int) (r4 : InR .u8 op) (r2 : InR .u32 at_) (r3 : InR .u32 off) (x : Int) (r5 : InR .u64 x) : Ct Try.prog 14 [.pointer (some ⟨g, 0, none⟩), .int .u8 op, .int .u32 at_, .int .u32 off, .int .u64 x] H (fun u H' => u = .bool (decide (inA bs 54 62 op (at_ + off))) ∧ MAt 65 .u32 H' g v (storeB bs op (at_ + off) x) most ∧ Fr g v H H') := by
  refine Ct.mk Try.func14 rfl Try.ntmps14 rfl ?_
  intro W0 hW0
  have o0 : OldB 0 H H := OldB.refl _ H
  dsimp only [InR] at r2 r3 r4 r5
  refine KC.seq ?_
  refine KC.region ?_
  refine KL.op (R.assign rfl rfl) rfl rfl rfl ?_
  refine KL.nil ?_
  refine KQ.seq ?_
  refine KC.seq ?_
  refine KC.region ?_
  refine KL.op (R.move rfl rfl) rfl rfl rfl ?_
  refine KL.op (R.move rfl rfl) rfl rfl rfl ?_
  refine KL.op (R.move rfl rfl) rfl rfl rfl ?_
  refine KL.op (R.move rfl rfl) rfl rfl rfl ?_
  refine KL.call rfl rfl rfl rfl Try.call28 rfl rfl rfl (access_any _ _ _ _ h _ _ _ _ _ r2 r3 r4) ?_
  rintro _ H1 ⟨rfl, oa⟩
  have o0 := o0.trans ((oa).b (by omega))
  have hm := h.old oa
  have hs0 := accS_sl hm 54 62 op (at_ + off) (by omega)
  have hml := mw_le op
  have hpl := prtA_length (bs := bs) (lo := 54) (hi := 62) (op := op) (p := at_ + off) (by omega)
  refine KL.op (R.move rfl rfl) rfl rfl rfl ?_
  refine KL.op (R.extract rfl rfl rfl) rfl rfl rfl ?_
  refine KL.op (R.extract rfl rfl rfl) rfl rfl rfl ?_
  refine KL.op (R.assign rfl rfl) rfl rfl rfl ?_
  refine KL.op (R.assign rfl rfl) rfl rfl rfl ?_
  refine KL.nil ?_
  refine KQ.seq ?_
  refine KC.seq ?_
  refine KC.seq ?_
  refine KC.region ?_
  refine KL.op (R.move rfl rfl) rfl rfl rfl ?_
  refine KL.op ((by first | exact R.lenS rfl Try.underlying22 rfl (by first | exact hs0 | assumption) | exact R.len (ty := 0) rfl Try.underlying22 rfl)) rfl rfl rfl ?_
  refine KL.op (R.move rfl rfl) rfl rfl rfl ?_
  refine KL.nil ?_
  refine KQ.seq ?_
  refine KC.block ?_
  refine KC.loopD (κ := Nat) [25, 26, 13, 27, 28, 29, 30, 31, 32, 33, 34, 35, 24] (fun k => [(24, .int .i64 (k : Nat))]) (fun k Hl => k ≤ (prtA bs 54 62 op (at_ + off)).length ∧ MAt 65 .u32 Hl g v (putAt bs (at_ + off).toNat (bytesOf x k)) most ∧ Fr g v H Hl ∧ (k = 0 ∨ inA bs 54 62 op (at_ + off))) (fun k => (prtA bs 54 62 op (at_ + off)).length - k) 0 ?_ ?_ ?_
  · exact (Sub.cons rfl (Ext.sub (Ext.refl _ _)))
  · exact ⟨Nat.zero_le _, by rw [show bytesOf x 0 = [] from rfl, putAt_nil]; exact hm, Fr.ofOld oa, .inl rfl⟩
  · rintro k H2 ⟨hk, hm, hf, hz⟩
    have o0 : OldB 0 H H2 := ⟨hf.1, fun k hk => absurd hk (by omega)⟩
    have hb := hm.b
    have hw := hm.w
    refine KC.seq ?_
    refine KC.region ?_
    refine KL.op (R.lss rfl rfl rfl) rfl rfl rfl ?_
    refine KL.nil ?_
    refine KQ.seq ?_
    refine KC.seq ?_
    refine KC.iteL rfl ?_ ?_
    · intro hc25
      try simp only [decide_eq_true_eq, decide_eq_false_iff_not, Bool.not_eq_true', Bool.not_eq_false', Bool.and_eq_true, Bool.or_eq_false_iff] at hc25
      have hA : inA bs 54 62 op (at_ + off) := (by
        apply Classical.byContradiction
        intro hN
        rw [if_neg hN] at hpl
        omega)
      rw [if_pos hA] at hpl
      have hkk : k < mw op := (by omega)
      have hpb : (at_ + off).toNat + k < bs.length := (by unfold inA at hA; omega)
      have hpl2 : (putAt bs (at_ + off).toNat (bytesOf x k)).length = bs.length := putAt_length (by rw [bytesOf_length]; omega)
      have hn2 := hm.n
      obtain ⟨g0, cap, hv0, hcap, hne, hgv, hvl⟩ := own_some hm (by omega)
      have hbase := accS_base h hA (by omega) k
      refine KC.skip ?_
      refine KQ.seq ?_
      refine KC.seq ?_
      refine KC.block ?_
      refine KC.seq ?_
      refine KC.region ?_
      refine KL.op (R.move rfl rfl) rfl rfl rfl ?_
      refine KL.op (R.assign rfl rfl) rfl rfl rfl ?_
      refine KL.nil ?_
      refine KQ.seq ?_
      refine KC.region ?_
      refine KL.op (R.move rfl rfl) rfl rfl rfl ?_
      refine KL.op (R.move rfl rfl) rfl rfl rfl ?_
      refine KL.op (R.move rfl rfl) rfl rfl rfl ?_
      refine KL.op (R.move rfl rfl) rfl rfl rfl ?_
      refine KL.op (R.mul rfl rfl rfl (by dsimp only [InR]; omega)) rfl rfl rfl ?_
      refine KL.op (R.shr rfl rfl rfl (by omega)) rfl rfl rfl ?_
      refine KL.op ((R.convW rfl Try.underlying28 Try.underlying5 rfl).val (congrArg (Value.int .u8) (shr8 (by omega)))) rfl rfl rfl ?_
      refine KL.op ((R.index1 (j := k) rfl Try.underlying22 sz5 rfl rfl hs0 rfl (by omega)).val (congrArg (fun a => Value.pointer (some a)) hbase)) rfl rfl rfl ?_
      refine KL.opS (S.own1 rfl sz5 rfl rfl rfl rfl hw (by omega) ⟨rfl, by dsimp only [InR]; omega⟩) rfl rfl ?_
      rintro H3 ⟨u3, w3⟩
      have o0 := o0.trans (OldB.upd u3 (by omega))
      have zu3 := u3.1
      have hb := ((u3).2 _ (by omega)).trans hb
      have hw := w3
      refine KL.nil ?_
      refine KQ.normBlock ?_
      refine KQ.seq ?_
      refine KC.region ?_
      refine KL.op (R.add rfl rfl rfl (by dsimp only [InR]; omega)) rfl rfl rfl ?_
      refine KL.op (R.move rfl rfl) rfl rfl rfl ?_
      refine KL.nil ?_
      refine KQ.again (k + 1) ?_ ?_ ?_
      · exact (Sub.cons rfl (Ext.sub (by repeat (first | exact Ext.refl _ _ | refine Ext.put rfl ?_ | refine Ext.drop rfl ?_))))
      · omega
      · exact by
          refine ⟨by omega, ⟨hb, ?_, hm.d, by rw [putAt_length (by rw [bytesOf_length]; unfold inA at hA; omega)]; rw [putAt_length (by rw [bytesOf_length]; unfold inA at hA; omega)] at hn2; exact hn2⟩, hf.trans (Fr.ofUpd hne (by assumption)), .inr hA⟩
          rw [bytesOf_succ, ← putAt_set (by unfold inA at hA; omega) (bytesOf_length x k)]
          exact hw
    · intro hc25
      try simp only [decide_eq_true_eq, decide_eq_false_iff_not, Bool.not_eq_true', Bool.not_eq_false', Bool.and_eq_true, Bool.or_eq_false_iff] at hc25
      refine KC.exit ?_
      refine KQ.exitThen ?_
      refine KQ.exitThen ?_
      refine KQ.hit ?_
      refine KQ.seq ?_
      refine KC.seq ?_
      refine KC.region ?_
      refine KL.op (R.move rfl rfl) rfl rfl rfl ?_
      refine KL.op (R.assign rfl rfl) rfl rfl rfl ?_
      refine KL.nil ?_
      refine KQ.seq ?_
      refine KC.ret ?_
      refine KQ.ofRet ?_
      refine KQ.fin1 Try.results14 rfl ?_
      refine ⟨rfl, ?_, hf⟩
      unfold storeB
      by_cases hA : inA bs 54 62 op (at_ + off)
      · rw [if_pos hA] at hpl ⊢
        rw [show mw op = k by omega]; exact hm
      · rw [if_neg hA] at hpl ⊢
        have ek : k = 0 := by omega
        subst ek
        rw [show bytesOf x 0 = [] from rfl, putAt_nil] at hm
        exact hm

set_option maxRecDepth 100000 in
set_option maxHeartbeats 4000000 in
theorem Store_nil {H : Heap} (op at_ off : Int) (r4 : InR .u8 op) (r2 : InR .u32 at_) (r3 : InR .u32 off) (x : Int) : Ct Try.prog 14 [.pointer none, .int .u8 op, .int .u32 at_, .int .u32 off, .int .u64 x] H (fun u H' => u = .bool false ∧ Old H H') := by
  refine Ct.mk Try.func14 rfl Try.ntmps14 rfl ?_
  intro W0 hW0
  have o0 : Old H H := Old.refl H
  refine KC.seq ?_
  refine KC.region ?_
  refine KL.op (R.assign rfl rfl) rfl rfl rfl ?_
  refine KL.nil ?_
  refine KQ.seq ?_
  refine KC.seq ?_
  refine KC.region ?_
  refine KL.op (R.move rfl rfl) rfl rfl rfl ?_
  refine KL.op (R.move rfl rfl) rfl rfl rfl ?_
  refine KL.op (R.move rfl rfl) rfl rfl rfl ?_
  refine KL.op (R.move rfl rfl) rfl rfl rfl ?_
  refine KL.call rfl rfl rfl rfl Try.call28 rfl rfl rfl (access_nil _ _ _ _ _ r2 r3 r4) ?_
  rintro _ H1 ⟨rfl, oa⟩
  have o0 := o0.trans oa
  refine KL.op (R.move rfl rfl) rfl rfl rfl ?_
  refine KL.op (R.extract rfl rfl rfl) rfl rfl rfl ?_
  refine KL.op (R.extract rfl rfl rfl) rfl rfl rfl ?_
  refine KL.op (R.assign rfl rfl) rfl rfl rfl ?_
  refine KL.op (R.assign rfl rfl) rfl rfl rfl ?_
  refine KL.nil ?_
  refine KQ.seq ?_
  refine KC.seq ?_
  refine KC.seq ?_
  refine KC.region ?_
  refine KL.op (R.move rfl rfl) rfl rfl rfl ?_
  refine KL.op (R.lenS (l := ([] : List Int)) (m := 1) (F := EInt .u8) (Hx := H) rfl Try.underlying22 rfl (Sl.nil _ _ _)) rfl rfl rfl ?_
  refine KL.op (R.move rfl rfl) rfl rfl rfl ?_
  refine KL.nil ?_
  refine KQ.seq ?_
  refine KC.block ?_
  refine KC.loopD (κ := Unit) [25, 26, 13, 27, 28, 29, 30, 31, 32, 33, 34, 35, 24] (fun k => [(24, .int .i64 (0 : Nat))]) (fun k Hl => Old H Hl) (fun k => 0) () ?_ ?_ ?_
  · exact (Sub.cons rfl (Ext.sub (Ext.refl _ _)))
  · exact o0
  · rintro _ H2 o0
    have zl_H2 := o0.1
    refine KC.seq ?_
    refine KC.region ?_
    refine KL.op (R.lss rfl rfl rfl) rfl rfl rfl ?_
    refine KL.nil ?_
    refine KQ.seq ?_
    refine KC.seq ?_
    refine KC.iteL rfl ?_ ?_
    · intro hc25
      try simp only [decide_eq_true_eq, decide_eq_false_iff_not, Bool.not_eq_true', Bool.not_eq_false', Bool.and_eq_true, Bool.or_eq_false_iff] at hc25
      exact absurd hc25 (by decide)
    · intro hc25
      try simp only [decide_eq_true_eq, decide_eq_false_iff_not, Bool.not_eq_true', Bool.not_eq_false', Bool.and_eq_true, Bool.or_eq_false_iff] at hc25
      refine KC.exit ?_
      refine KQ.exitThen ?_
      refine KQ.exitThen ?_
      refine KQ.hit ?_
      refine KQ.seq ?_
      refine KC.seq ?_
      refine KC.region ?_
      refine KL.op (R.move rfl rfl) rfl rfl rfl ?_
      refine KL.op (R.assign rfl rfl) rfl rfl rfl ?_
      refine KL.nil ?_
      refine KQ.seq ?_
      refine KC.ret ?_
      refine KQ.ofRet ?_
      refine KQ.fin1 Try.results14 rfl ?_
      exact ⟨rfl, o0⟩


theorem part_yes {H : Heap} (g : Nat) (v : Value) (bs : List Int) (most : Int) (h : MAt 65 .u32 H g v bs most) (a n : Int) (ha : 0 ≤ a) (ha2 : a ≤ 8589934592) (hn0 : 0 ≤ n) (hn2 : n ≤ 9223372036854775807) (hl : a + n ≤ bs.length) : Ct Try.prog 27 [.pointer (some ⟨g, 0, none⟩), .int .u64 a, .int .u64 n] H (fun u H' => u = .tuple #[subV 1 v a.toNat (a + n).toNat, .bool true] ∧ H = H') :=
  (part_any g v bs most h a n ha ha2 hn0 hn2).mono (by rintro _ _ ⟨rfl, rfl⟩; unfold partV partS; rw [if_pos hl, decide_eq_true hl]; exact ⟨rfl, rfl⟩)
theorem part_no {H : Heap} (g : Nat) (v : Value) (bs : List Int) (most : Int) (h : MAt 65 .u32 H g v bs most) (a n : Int) (ha : 0 ≤ a) (ha2 : a ≤ 8589934592) (hn0 : 0 ≤ n) (hn2 : n ≤ 9223372036854775807) (hl : ¬ a + n ≤ bs.length) : Ct Try.prog 27 [.pointer (some ⟨g, 0, none⟩), .int .u64 a, .int .u64 n] H (fun u H' => u = .tuple #[.slice none 0 0, .bool false] ∧ H = H') :=
  (part_any g v bs most h a n ha ha2 hn0 hn2).mono (by rintro _ _ ⟨rfl, rfl⟩; unfold partV partS; rw [if_neg hl, decide_eq_false hl]; exact ⟨rfl, rfl⟩)

set_option maxRecDepth 100000 in
set_option maxHeartbeats 4000000 in
theorem Put_yes {H : Heap} (g : Nat) (v : Value) (bs : List Int) (most : Int) (h : MAt 65 .u32 H g v bs most) (at_ : Int) (r2 : InR .u32 at_) (u : Value) (m : List Int) (hs : Sl 1 (EInt .u8) H u m) (hm0 : m.length ≤ 9223372036854775807) (hl : at_ + m.length ≤ bs.length) : Ct Try.prog 10 [.pointer (some ⟨g, 0, none⟩), .int .u32 at_, u] H (fun r H' => r = .bool true ∧ MAt 65 .u32 H' g v (putAt bs at_.toNat m) most ∧ Fr g v H H') := by
  refine Ct.mk Try.func10 rfl Try.ntmps10 rfl ?_
  intro W0 hW0
  have o0 : Old H H := Old.refl H
  dsimp only [InR] at r2
  have hn := h.n
  refine KC.seq ?_
  refine KC.region ?_
  refine KL.op (R.assign rfl rfl) rfl rfl rfl ?_
  refine KL.nil ?_
  refine KQ.seq ?_
  refine KC.seq ?_
  refine KC.region ?_
  refine KL.op (R.move rfl rfl) rfl rfl rfl ?_
  refine KL.op (R.move rfl rfl) rfl rfl rfl ?_
  refine KL.op (R.convI rfl Try.underlying23 Try.underlying28 rfl (by dsimp only [InR]; omega)) rfl rfl rfl ?_
  refine KL.op (R.move rfl rfl) rfl rfl rfl ?_
  refine KL.op ((by first | exact R.lenS rfl Try.underlying22 rfl (by first | exact hs | assumption) | exact R.len (ty := 0) rfl Try.underlying22 rfl)) rfl rfl rfl ?_
  refine KL.op (R.convI rfl Try.underlying3 Try.underlying28 rfl (by dsimp only [InR]; omega)) rfl rfl rfl ?_
  refine KL.call rfl rfl rfl rfl Try.call27 rfl rfl rfl (part_yes _ _ _ _ h _ _ (by omega) (by omega) (by omega) (by omega) (by omega)) ?_
  rintro _ _ ⟨rfl, rfl⟩
  refine KL.op (R.move rfl rfl) rfl rfl rfl ?_
  refine KL.op (R.extract rfl rfl rfl) rfl rfl rfl ?_
  refine KL.op (R.extract rfl rfl rfl) rfl rfl rfl ?_
  refine KL.op (R.assign rfl rfl) rfl rfl rfl ?_
  refine KL.op (R.assign rfl rfl) rfl rfl rfl ?_
  refine KL.nil ?_
  refine KQ.seq ?_
  refine KC.seq ?_
  refine KC.region ?_
  refine KL.op (R.move rfl rfl) rfl rfl rfl ?_
  refine KL.op (R.move rfl rfl) rfl rfl rfl ?_
  refine KL.opM (M.copy (v := v) (bs := bs) (m := m) (p := at_.toNat) rfl Try.underlying22 sz5 (by rw [show at_.toNat + m.length = (at_ + (m.length : Int)).toNat by omega]; rfl) rfl h.w hs (by omega)) rfl rfl rfl ?_
  rintro _ H1 ⟨rfl, w1, z1, cc⟩
  have hM : MAt 65 .u32 H1 g v (putAt bs at_.toNat m) most := ⟨(cc g (h.d.imp id (fun h e => h e.symm))).trans h.b, w1, h.d, by rw [putAt_length (by omega)]; exact h.n⟩
  have hF : Fr g v H H1 := ⟨by omega, fun k _ _ h2 => cc k h2⟩
  refine KL.nil ?_
  refine KQ.seq ?_
  refine KC.seq ?_
  refine KC.region ?_
  refine KL.op (R.move rfl rfl) rfl rfl rfl ?_
  refine KL.op (R.assign rfl rfl) rfl rfl rfl ?_
  refine KL.nil ?_
  refine KQ.seq ?_
  refine KC.ret ?_
  refine KQ.ofRet ?_
  refine KQ.fin1 Try.results10 rfl ?_
  exact ⟨rfl, hM, hF⟩

set_option maxRecDepth 100000 in
set_option maxHeartbeats 4000000 in
theorem Put_no {H : Heap} (g : Nat) (v : Value) (bs : List Int) (most : Int) (h : MAt 65 .u32 H g v bs most) (at_ : Int) (r2 : InR .u32 at_) (u : Value) (m : List Int) (hs : Sl 1 (EInt .u8) H u m) (hm0 : m.length ≤ 9223372036854775807) (hl : ¬ at_ + m.length ≤ bs.length) : Ct Try.prog 10 [.pointer (some ⟨g, 0, none⟩), .int .u32 at_, u] H (fun r H' => r = .bool false ∧ H = H') := by
  refine Ct.mk Try.func10 rfl Try.ntmps10 rfl ?_
  intro W0 hW0
  have o0 : Old H H := Old.refl H
  dsimp only [InR] at r2
  have hn := h.n
  refine KC.seq ?_
  refine KC.region ?_
  refine KL.op (R.assign rfl rfl) rfl rfl rfl ?_
  refine KL.nil ?_
  refine KQ.seq ?_
  refine KC.seq ?_
  refine KC.region ?_
  refine KL.op (R.move rfl rfl) rfl rfl rfl ?_
  refine KL.op (R.move rfl rfl) rfl rfl rfl ?_
  refine KL.op (R.convI rfl Try.underlying23 Try.underlying28 rfl (by dsimp only [InR]; omega)) rfl rfl rfl ?_
  refine KL.op (R.move rfl rfl) rfl rfl rfl ?_
  refine KL.op ((by first | exact R.lenS rfl Try.underlying22 rfl (by first | exact hs | assumption) | exact R.len (ty := 0) rfl Try.underlying22 rfl)) rfl rfl rfl ?_
  refine KL.op (R.convI rfl Try.underlying3 Try.underlying28 rfl (by dsimp only [InR]; omega)) rfl rfl rfl ?_
  refine KL.call rfl rfl rfl rfl Try.call27 rfl rfl rfl (part_no _ _ _ _ h _ _ (by omega) (by omega) (by omega) (by omega) (by omega)) ?_
  rintro _ _ ⟨rfl, rfl⟩
  refine KL.op (R.move rfl rfl) rfl rfl rfl ?_
  refine KL.op (R.extract rfl rfl rfl) rfl rfl rfl ?_
  refine KL.op (R.extract rfl rfl rfl) rfl rfl rfl ?_
  refine KL.op (R.assign rfl rfl) rfl rfl rfl ?_
  refine KL.op (R.assign rfl rfl) rfl rfl rfl ?_
  refine KL.nil ?_
  refine KQ.seq ?_
  refine KC.seq ?_
  refine KC.region ?_
  refine KL.op (R.move rfl rfl) rfl rfl rfl ?_
  refine KL.op (R.move rfl rfl) rfl rfl rfl ?_
  refine KL.op (R.copyNil rfl Try.underlying22 sz5 rfl rfl hs) rfl rfl rfl ?_
  refine KL.nil ?_
  refine KQ.seq ?_
  refine KC.seq ?_
  refine KC.region ?_
  refine KL.op (R.move rfl rfl) rfl rfl rfl ?_
  refine KL.op (R.assign rfl rfl) rfl rfl rfl ?_
  refine KL.nil ?_
  refine KQ.seq ?_
  refine KC.ret ?_
  refine KQ.ofRet ?_
  refine KQ.fin1 Try.results10 rfl ?_
  exact ⟨rfl, rfl⟩

set_option maxRecDepth 100000 in
set_option maxHeartbeats 4000000 in
theorem Put_nil {H : Heap} (at_ : Int) (r2 : InR .u32 at_) (u : Value) (m : List Int) (hs : Sl 1 (EInt .u8) H u m) (hm0 : m.length ≤ 9223372036854775807) : Ct Try.prog 10 [.pointer none, .int .u32 at_, u] H (fun r H' => r = .bool false ∧ H = H') := by
  refine Ct.mk Try.func10 rfl Try.ntmps10 rfl ?_
  intro W0 hW0
  have o0 : Old H H := Old.refl H
  dsimp only [InR] at r2
  refine KC.seq ?_
  refine KC.region ?_
  refine KL.op (R.assign rfl rfl) rfl rfl rfl ?_
  refine KL.nil ?_
  refine KQ.seq ?_
  refine KC.seq ?_
  refine KC.region ?_
  refine KL.op (R.move rfl rfl) rfl rfl rfl ?_
  refine KL.op (R.move rfl rfl) rfl rfl rfl ?_
  refine KL.op (R.convI rfl Try.underlying23 Try.underlying28 rfl (by dsimp only [InR]; omega)) rfl rfl rfl ?_
  refine KL.op (R.move rfl rfl) rfl rfl rfl ?_
  refine KL.op ((by first | exact R.lenS rfl Try.underlying22 rfl (by first | exact hs | assumption) | exact R.len (ty := 0) rfl Try.underlying22 rfl)) rfl rfl rfl ?_
  refine KL.op (R.convI rfl Try.underlying3 Try.underlying28 rfl (by dsimp only [InR]; omega)) rfl rfl rfl ?_
  refine KL.call rfl rfl rfl rfl Try.call27 rfl rfl rfl (part_nil _ _) ?_
  rintro _ _ ⟨rfl, rfl⟩
  refine KL.op (R.move rfl rfl) rfl rfl rfl ?_
  refine KL.op (R.extract rfl rfl rfl) rfl rfl rfl ?_
  refine KL.op (R.extract rfl rfl rfl) rfl rfl rfl ?_
  refine KL.op (R.assign rfl rfl) rfl rfl rfl ?_
  refine KL.op (R.assign rfl rfl) rfl rfl rfl ?_
  refine KL.nil ?_
  refine KQ.seq ?_
  refine KC.seq ?_
  refine KC.region ?_
  refine KL.op (R.move rfl rfl) rfl rfl rfl ?_
  refine KL.op (R.move rfl rfl) rfl rfl rfl ?_
  refine KL.op (R.copyNil rfl Try.underlying22 sz5 rfl rfl hs) rfl rfl rfl ?_
  refine KL.nil ?_
  refine KQ.seq ?_
  refine KC.seq ?_
  refine KC.region ?_
  refine KL.op (R.move rfl rfl) rfl rfl rfl ?_
  refine KL.op (R.assign rfl rfl) rfl rfl rfl ?_
  refine KL.nil ?_
  refine KQ.seq ?_
  refine KC.ret ?_
  refine KQ.ofRet ?_
  refine KQ.fin1 Try.results10 rfl ?_
  exact ⟨rfl, rfl⟩


def putB (bs : List Int) (a : Int) (m : List Int) : List Int := if a + m.length ≤ bs.length then putAt bs a.toNat m else bs
theorem Put_any {H : Heap} (g : Nat) (v : Value) (bs : List Int) (most : Int) (h : MAt 65 .u32 H g v bs most) (at_ : Int) (r2 : InR .u32 at_) (u : Value) (m : List Int) (hs : Sl 1 (EInt .u8) H u m) (hm0 : m.length ≤ 9223372036854775807) : Ct Try.prog 10 [.pointer (some ⟨g, 0, none⟩), .int .u32 at_, u] H (fun r H' => r = .bool (decide (at_ + m.length ≤ bs.length)) ∧ MAt 65 .u32 H' g v (putB bs at_ m) most ∧ Fr g v H H') := by
  unfold putB
  by_cases hl : at_ + m.length ≤ bs.length
  · rw [if_pos hl, decide_eq_true hl]
    exact Put_yes g v bs most h at_ r2 u m hs hm0 hl
  · rw [if_neg hl, decide_eq_false hl]
    exact (Put_no g v bs most h at_ r2 u m hs hm0 hl).mono (by rintro _ _ ⟨rfl, rfl⟩; exact ⟨rfl, h, Fr.refl _ _ _⟩)


theorem Sl.nilOf {α : Type} {n : Nat} {E : El α} {H : Heap} {k c : Nat} {l : List α} (h : Sl n E H (.slice none k c) l) : l = [] := by
  obtain ⟨a, cap, hv, h1, h2, h3, -⟩ := h
  injection hv with e1 e2 e3
  have := h3 e1.symm
  exact List.eq_nil_of_length_eq_zero (by omega)

set_option maxRecDepth 100000 in
set_option maxHeartbeats 4000000 in
theorem Clone_any {H : Heap} (u : Value) (l : List Int) (hs : Sl 1 (EInt .u8) H u l) (hl : l.length ≤ 1048576) : Ct Try.prog 29 [u] H (fun r H' => Own 1 (EInt .u8) 5 #[] H.size H' r l ∧ Old H H') := by
  refine Ct.mk Try.func29 rfl Try.ntmps29 rfl ?_
  intro W0 hW0
  have o0 : Old H H := Old.refl H
  obtain ⟨a, c, rfl⟩ := hs.val
  refine KC.seq ?_
  refine KC.region ?_
  refine KL.op (R.assign rfl rfl) rfl rfl rfl ?_
  refine KL.nil ?_
  refine KQ.seq ?_
  refine KC.seq ?_
  refine KC.seq ?_
  refine KC.region ?_
  refine KL.op (R.move rfl rfl) rfl rfl rfl ?_
  refine KL.op (R.eqlS rfl Try.underlying22 rfl rfl) rfl rfl rfl ?_
  refine KL.nil ?_
  refine KQ.seq ?_
  refine KC.iteL rfl ?_ ?_
  · intro hc4
    try simp only [decide_eq_true_eq, decide_eq_false_iff_not, Bool.not_eq_true', Bool.not_eq_false', Bool.and_eq_true, Bool.or_eq_false_iff] at hc4
    have ea : a = none := by simpa using hc4
    subst ea
    obtain rfl := hs.nilOf
    refine KC.seq ?_
    refine KC.region ?_
    refine KL.op (R.assign rfl rfl) rfl rfl rfl ?_
    refine KL.nil ?_
    refine KQ.seq ?_
    refine KC.ret ?_
    refine KQ.retThen ?_
    refine KQ.ofRet ?_
    refine KQ.fin1 Try.results29 rfl ?_
    first
      | exact ⟨Own.nil _ _ _ _ _ _, o0⟩
      | exact ⟨by simpa using wv, o0⟩
  · intro hc4
    try simp only [decide_eq_true_eq, decide_eq_false_iff_not, Bool.not_eq_true', Bool.not_eq_false', Bool.and_eq_true, Bool.or_eq_false_iff] at hc4
    refine KC.skip ?_
    refine KQ.seq ?_
    refine KC.seq ?_
    refine KC.region ?_
    refine KL.opM (M.lit rfl Try.underlying22 zs5 (by decide) rfl rfl rfl) rfl rfl rfl ?_
    rintro _ H1 ⟨rfl, n1⟩
    have z1 := n1.2.1
    have o0 := o0.trans n1.1
    have b1 := n1.2.2
    have wv : Own 1 (EInt .u8) 5 #[] H.size H1 _ ([] : List Int) := Own.lit (l := ([] : List Int)) n1 (Nat.le_refl _) rfl (by unfold maxLen; simp) rfl (by simp [nth])
    refine KL.op (R.move rfl rfl) rfl rfl rfl ?_
    have lt2 := wv.lt
    refine KL.opM (M.append rfl Try.underlying22 inf5 rfl (by decide) rfl rfl wv (by exact hs.old n1.1) (fun _ _ h _ => h) (by omega) (by simp; omega) (by unfold maxLen; simp; omega)) rfl rfl rfl ?_
    rintro v2 H2 ⟨w2, g2⟩
    have ob2 := g2.oldB wv (by omega)
    have o0 := o0.then ob2 (by omega)
    have z2 := ob2.1
    have wv := w2
    refine KL.op (R.assign rfl rfl) rfl rfl rfl ?_
    refine KL.nil ?_
    refine KQ.seq ?_
    refine KC.ret ?_
    refine KQ.ofRet ?_
    refine KQ.fin1 Try.results29 rfl ?_
    first
      | exact ⟨Own.nil _ _ _ _ _ _, o0⟩
      | exact ⟨by simpa using wv, o0⟩


theorem prtP_le {bs : List Int} {a n : Int} {M : Nat} (ha : 0 ≤ a) (hn : 0 ≤ n) (h : bs.length ≤ M) : (prtP bs a n).length ≤ M := by
  unfold prtP
  split
  · rw [prt_length (by omega)]; omega
  · simp

set_option maxRecDepth 100000 in
set_option maxHeartbeats 4000000 in
theorem Get_any {H : Heap} (g : Nat) (v : Value) (bs : List Int) (most : Int) (h : MAt 65 .u32 H g v bs most) (at_ n : Int) (r2 : InR .u32 at_) (r3 : InR .u32 n) : Ct Try.prog 13 [.pointer (some ⟨g, 0, none⟩), .int .u32 at_, .int .u32 n] H (fun r H' => ∃ x, r = .tuple #[x, .bool (decide (at_ + n ≤ bs.length))] ∧ Own 1 (EInt .u8) 5 #[] H.size H' x (prtP bs at_ n) ∧ Old H H') := by
  refine Ct.mk Try.func13 rfl Try.ntmps13 rfl ?_
  intro W0 hW0
  have o0 : Old H H := Old.refl H
  dsimp only [InR] at r2 r3
  have hn := h.n
  refine KC.seq ?_
  refine KC.region ?_
  refine KL.op (R.assign rfl rfl) rfl rfl rfl ?_
  refine KL.op (R.assign rfl rfl) rfl rfl rfl ?_
  refine KL.nil ?_
  refine KQ.seq ?_
  refine KC.seq ?_
  refine KC.region ?_
  refine KL.op (R.move rfl rfl) rfl rfl rfl ?_
  refine KL.op (R.move rfl rfl) rfl rfl rfl ?_
  refine KL.op (R.convI rfl Try.underlying23 Try.underlying28 rfl (by dsimp only [InR]; omega)) rfl rfl rfl ?_
  refine KL.op (R.move rfl rfl) rfl rfl rfl ?_
  refine KL.op (R.convI rfl Try.underlying23 Try.underlying28 rfl (by dsimp only [InR]; omega)) rfl rfl rfl ?_
  refine KL.call rfl rfl rfl rfl Try.call27 rfl rfl rfl (part_any _ _ _ _ h _ _ (by omega) (by omega) (by omega) (by omega)) ?_
  rintro _ _ ⟨rfl, rfl⟩
  refine KL.op (R.move rfl rfl) rfl rfl rfl ?_
  refine KL.op (R.extract rfl rfl rfl) rfl rfl rfl ?_
  refine KL.op (R.extract rfl rfl rfl) rfl rfl rfl ?_
  refine KL.op (R.assign rfl rfl) rfl rfl rfl ?_
  refine KL.op (R.assign rfl rfl) rfl rfl rfl ?_
  refine KL.nil ?_
  refine KQ.seq ?_
  refine KC.seq ?_
  refine KC.region ?_
  refine KL.op (R.move rfl rfl) rfl rfl rfl ?_
  refine KL.call rfl rfl rfl rfl Try.call29 rfl rfl rfl (Clone_any _ _ (partS_sl h at_ n (by omega) (by omega)) (prtP_le (by omega) (by omega) (by omega))) ?_
  rintro x H1 ⟨wx, ox⟩
  have o0 := o0.trans ox
  refine KL.op (R.move rfl rfl) rfl rfl rfl ?_
  refine KL.op (R.assign rfl rfl) rfl rfl rfl ?_
  refine KL.op (R.assign rfl rfl) rfl rfl rfl ?_
  refine KL.nil ?_
  refine KQ.seq ?_
  refine KC.ret ?_
  refine KQ.ofRet ?_
  refine KQ.fin2 Try.results13 rfl rfl ?_
  exact ⟨_, rfl, wx, o0⟩

set_option maxRecDepth 100000 in
set_option maxHeartbeats 4000000 in
theorem Get_nil {H : Heap} (at_ n : Int) (r2 : InR .u32 at_) (r3 : InR .u32 n) : Ct Try.prog 13 [.pointer none, .int .u32 at_, .int .u32 n] H (fun r H' => ∃ x, r = .tuple #[x, .bool false] ∧ Old H H') := by
  refine Ct.mk Try.func13 rfl Try.ntmps13 rfl ?_
  intro W0 hW0
  have o0 : Old H H := Old.refl H
  dsimp only [InR] at r2 r3
  refine KC.seq ?_
  refine KC.region ?_
  refine KL.op (R.assign rfl rfl) rfl rfl rfl ?_
  refine KL.op (R.assign rfl rfl) rfl rfl rfl ?_
  refine KL.nil ?_
  refine KQ.seq ?_
  refine KC.seq ?_
  refine KC.region ?_
  refine KL.op (R.move rfl rfl) rfl rfl rfl ?_
  refine KL.op (R.move rfl rfl) rfl rfl rfl ?_
  refine KL.op (R.convI rfl Try.underlying23 Try.underlying28 rfl (by dsimp only [InR]; omega)) rfl rfl rfl ?_
  refine KL.op (R.move rfl rfl) rfl rfl rfl ?_
  refine KL.op (R.convI rfl Try.underlying23 Try.underlying28 rfl (by dsimp only [InR]; omega)) rfl rfl rfl ?_
  refine KL.call rfl rfl rfl rfl Try.call27 rfl rfl rfl (part_nil _ _) ?_
  rintro _ _ ⟨rfl, rfl⟩
  refine KL.op (R.move rfl rfl) rfl rfl rfl ?_
  refine KL.op (R.extract rfl rfl rfl) rfl rfl rfl ?_
  refine KL.op (R.extract rfl rfl rfl) rfl rfl rfl ?_
  refine KL.op (R.assign rfl rfl) rfl rfl rfl ?_
  refine KL.op (R.assign rfl rfl) rfl rfl rfl ?_
  refine KL.nil ?_
  refine KQ.seq ?_
  refine KC.seq ?_
  refine KC.region ?_
  refine KL.op (R.move rfl rfl) rfl rfl rfl ?_
  refine KL.call rfl rfl rfl rfl Try.call29 rfl rfl rfl (Clone_any _ _ (Sl.nil _ _ _) (by simp)) ?_
  rintro x H1 ⟨wx, ox⟩
  have o0 := o0.trans ox
  refine KL.op (R.move rfl rfl) rfl rfl rfl ?_
  refine KL.op (R.assign rfl rfl) rfl rfl rfl ?_
  refine KL.op (R.assign rfl rfl) rfl rfl rfl ?_
  refine KL.nil ?_
  refine KQ.seq ?_
  refine KC.ret ?_
  refine KQ.ofRet ?_
  refine KQ.fin2 Try.results13 rfl rfl ?_
  exact ⟨_, rfl, o0⟩

end Go.Proofs.Ytdefjpakpgchhaa
