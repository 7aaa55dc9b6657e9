/- Functions of packages math/bits and sum: turned words, a block's words. No condition. -/
import Derived.Test.YtgpbdimccbimnaaShaP
import Derived.Test.YtgpbdimccbimnaaKAny
namespace Go.Proofs.Ytgpbdimccbimnaa
open Go Go.RowKit
set_option linter.unusedVariables false
set_option linter.unusedSimpArgs false
set_option linter.unnecessarySimpa false

namespace Sha
theorem rot_and : ∀ j : Fin 32, 0 < j.1 → bits .and .u64 (IntKind.u64.wrap (-(j.1 : Int))) 31 = 32 - (j.1 : Int) := by decide +kernel
theorem neg64 {a : Int} (h : 0 < a ∧ a < 32) : IntKind.i64.wrap (0 - a) = -a := by simp [IntKind.wrap, IntKind.bits, IntKind.signed]; omega
theorem put_all {cs us : List Value} (h : us.length = cs.length) : cs.take 0 ++ us ++ cs.drop (0 + us.length) = us := by simp [h]
theorem z64_length : ((List.replicate 64 (0 : Int)).map (Value.int .u32)).length = 64 := by simp
theorem orc (a b : Int) : bits .or .u32 a b = bits .or .u32 b a := by simp only [bits, BitVec.or_comm]
end Sha

set_option maxRecDepth 100000 in
set_option maxHeartbeats 4000000 in
theorem rot_any {H : Heap} (x n : Int) (hn : 0 < n ∧ n < 32) : Ct Try.prog 25 [.int .u32 x, .int .i64 (-n)] H (fun u H' => u = .int .u32 (Sha.td x n) ∧ H = H') := by
  refine Ct.mk Try.func25 rfl Try.ntmps25 rfl ?_
  intro W0 hW0
  have o0 : Old H H := Old.refl H
  have ha : bits .and .u64 (IntKind.u64.wrap (-n)) 31 = 32 - n := by
    have := Sha.rot_and ⟨n.toNat, by omega⟩ (by show 0 < n.toNat; omega)
    simp only [Int.toNat_of_nonneg (show 0 ≤ n by omega)] at this
    exact this
  refine KC.seq ?_
  refine KC.region ?_
  refine KL.op (R.assign rfl rfl) rfl rfl rfl ?_
  refine KL.nil ?_
  refine KQ.seq ?_
  refine KC.seq ?_
  refine KC.region ?_
  refine KL.op (R.move rfl rfl) rfl rfl rfl ?_
  refine KL.op (R.convW rfl Try.underlying3 Try.underlying52 rfl) rfl rfl rfl ?_
  refine KL.op ((R.bits rfl rfl rfl rfl).val (congrArg (Value.int .u64) ha)) rfl rfl rfl ?_
  refine KL.op (R.assign rfl rfl) rfl rfl rfl ?_
  refine KL.nil ?_
  refine KQ.seq ?_
  refine KC.seq ?_
  refine KC.region ?_
  refine KL.op (R.move rfl rfl) rfl rfl rfl ?_
  refine KL.op (R.move rfl rfl) rfl rfl rfl ?_
  refine KL.op (R.shl rfl rfl rfl (by omega)) rfl rfl rfl ?_
  refine KL.op (R.move rfl rfl) rfl rfl rfl ?_
  refine KL.op (R.move rfl rfl) rfl rfl rfl ?_
  refine KL.op ((R.sub rfl rfl rfl (by dsimp only [InR]; omega)).val (congrArg (Value.int .u64) (show 32 - (32 - n) = n by omega))) rfl rfl rfl ?_
  refine KL.op (R.shr rfl rfl rfl (by omega)) rfl rfl rfl ?_
  refine KL.op (R.bits rfl rfl rfl rfl) rfl rfl rfl ?_
  refine KL.op (R.assign rfl rfl) rfl rfl rfl ?_
  refine KL.nil ?_
  refine KQ.seq ?_
  refine KC.ret ?_
  refine KQ.ofRet ?_
  refine KQ.fin1 Try.results25 rfl ?_
  exact ⟨congrArg (Value.int .u32) (Sha.orc _ _), rfl⟩

set_option maxRecDepth 100000 in
set_option maxHeartbeats 4000000 in
theorem turns_any {H : Heap} (x a b c : Int) (ha : 0 < a ∧ a < 32) (hb : 0 < b ∧ b < 32) (hc : 0 < c ∧ c < 32) : Ct Try.prog 24 [.int .u32 x, .int .i64 a, .int .i64 b, .int .i64 c] H (fun u H' => u = .int .u32 (Sha.sg x a b c) ∧ H = H') := by
  refine Ct.mk Try.func24 rfl Try.ntmps24 rfl ?_
  intro W0 hW0
  have o0 : Old H H := Old.refl H
  refine KC.seq ?_
  refine KC.region ?_
  refine KL.op (R.assign rfl rfl) rfl rfl rfl ?_
  refine KL.nil ?_
  refine KQ.seq ?_
  refine KC.seq ?_
  refine KC.region ?_
  refine KL.op (R.move rfl rfl) rfl rfl rfl ?_
  refine KL.op (R.move rfl rfl) rfl rfl rfl ?_
  refine KL.op ((R.neg rfl rfl).val (congrArg (Value.int .i64) (Sha.neg64 ha))) rfl rfl rfl ?_
  refine KL.call rfl rfl rfl rfl Try.call25 rfl rfl rfl (rot_any _ _ ha) ?_
  rintro _ _ ⟨rfl, rfl⟩
  refine KL.op (R.move rfl rfl) rfl rfl rfl ?_
  refine KL.op (R.move rfl rfl) rfl rfl rfl ?_
  refine KL.op ((R.neg rfl rfl).val (congrArg (Value.int .i64) (Sha.neg64 hb))) rfl rfl rfl ?_
  refine KL.call rfl rfl rfl rfl Try.call25 rfl rfl rfl (rot_any _ _ hb) ?_
  rintro _ _ ⟨rfl, rfl⟩
  refine KL.op (R.bits rfl rfl rfl rfl) rfl rfl rfl ?_
  refine KL.op (R.move rfl rfl) rfl rfl rfl ?_
  refine KL.op (R.move rfl rfl) rfl rfl rfl ?_
  refine KL.op ((R.neg rfl rfl).val (congrArg (Value.int .i64) (Sha.neg64 hc))) rfl rfl rfl ?_
  refine KL.call rfl rfl rfl rfl Try.call25 rfl rfl rfl (rot_any _ _ hc) ?_
  rintro _ _ ⟨rfl, rfl⟩
  refine KL.op (R.bits rfl rfl rfl rfl) rfl rfl rfl ?_
  refine KL.op (R.assign rfl rfl) rfl rfl rfl ?_
  refine KL.nil ?_
  refine KQ.seq ?_
  refine KC.ret ?_
  refine KQ.ofRet ?_
  refine KQ.fin1 Try.results24 rfl ?_
  exact ⟨rfl, rfl⟩

set_option maxRecDepth 100000 in
set_option maxHeartbeats 4000000 in
theorem moves_any {H : Heap} (x a b c : Int) (ha : 0 < a ∧ a < 32) (hb : 0 < b ∧ b < 32) (hc : 0 < c ∧ c < 32) : Ct Try.prog 23 [.int .u32 x, .int .i64 a, .int .i64 b, .int .i64 c] H (fun u H' => u = .int .u32 (Sha.sm x a b c) ∧ H = H') := by
  refine Ct.mk Try.func23 rfl Try.ntmps23 rfl ?_
  intro W0 hW0
  have o0 : Old H H := Old.refl H
  refine KC.seq ?_
  refine KC.region ?_
  refine KL.op (R.assign rfl rfl) rfl rfl rfl ?_
  refine KL.nil ?_
  refine KQ.seq ?_
  refine KC.seq ?_
  refine KC.quiet (by kernel_rfl) (by kernel_rfl) ?_
  refine KD.op (R.move rfl rfl) rfl rfl rfl ?_
  refine KD.op (R.move rfl rfl) rfl rfl rfl ?_
  refine KD.op ((R.neg rfl rfl).val (congrArg (Value.int .i64) (Sha.neg64 ha))) rfl rfl rfl ?_
  refine KD.call rfl rfl rfl rfl Try.call25 rfl rfl rfl (rot_any _ _ ha) ?_
  refine KD.op (R.move rfl rfl) rfl rfl rfl ?_
  refine KD.op (R.move rfl rfl) rfl rfl rfl ?_
  refine KD.op ((R.neg rfl rfl).val (congrArg (Value.int .i64) (Sha.neg64 hb))) rfl rfl rfl ?_
  refine KD.call rfl rfl rfl rfl Try.call25 rfl rfl rfl (rot_any _ _ hb) ?_
  refine KD.op (R.bits rfl rfl rfl rfl) rfl rfl rfl ?_
  refine KD.op (R.move rfl rfl) rfl rfl rfl ?_
  refine KD.op (R.move rfl rfl) rfl rfl rfl ?_
  refine KD.op (R.shr rfl rfl rfl (by omega)) rfl rfl rfl ?_
  refine KD.op (R.bits rfl rfl rfl rfl) rfl rfl rfl ?_
  refine KD.op (R.assign rfl rfl) rfl rfl rfl ?_
  refine KD.nil ?_
  refine KQ.seq ?_
  refine KC.ret ?_
  refine KQ.ofRet ?_
  refine KQ.fin1 Try.results23 rfl ?_
  exact ⟨rfl, rfl⟩


namespace Sha
theorem wpad_set {b : List Int} {k : Nat} (h : k < 64) {x : Int} (hx : x = nw b (ws b k) k) : (ws b k ++ List.replicate (64 - k) 0).set k x = ws b (k + 1) ++ List.replicate (64 - (k + 1)) 0 := by
  subst hx
  rw [List.set_append_right _ _ (by rw [ws_length]; omega), ws_length, Nat.sub_self, show 64 - k = (64 - (k + 1)) + 1 by omega, List.replicate_succ, List.set_cons_zero, ws, List.append_assoc]
  rfl
theorem wpad_getD {b : List Int} {k j : Nat} (h : j < k) : (ws b k ++ List.replicate (64 - k) 0).getD j default = (ws b k).getD j default := by
  rw [List.getD_eq_getElem?_getD, List.getElem?_append_left (by rw [ws_length]; exact h), ← List.getD_eq_getElem?_getD]
theorem wpad_length (b : List Int) {k : Nat} (h : k ≤ 64) : (ws b k ++ List.replicate (64 - k) 0).length = 64 := by rw [List.length_append, ws_length, List.length_replicate]; omega
theorem set_getD {l : List Int} {i j : Nat} {x : Int} (h : j ≠ i) : (l.set i x).getD j default = l.getD j default := by rw [List.getD_eq_getElem?_getD, List.getD_eq_getElem?_getD, List.getElem?_set_ne (fun e => h e.symm)]
theorem nw_hi {b w : List Int} {k : Nat} (h : ¬ k < 16) : nw b w k = W (W (W (w.getD (k - 16) default + sm (w.getD (k - 15) default) 7 18 3) + w.getD (k - 7) default) + sm (w.getD (k - 2) default) 17 19 10) := by unfold nw; rw [if_neg h]
theorem nw_lo {b w : List Int} {k : Nat} (h : k < 16) : nw b w k = wd b k := by unfold nw; rw [if_pos h]
end Sha

set_option maxRecDepth 100000 in
set_option maxHeartbeats 4000000 in
theorem words_any {H : Heap} (v : Value) (b : List Int) (hb : Sl 1 (EInt .u8) H v b) (hl : b.length = 64) : Ct Try.prog 18 [v] H (fun u H' => u = .agg ((Sha.ws b 64).map (Value.int .u32)).toArray ∧ Old H H') := by
  refine Ct.mk Try.func18 rfl Try.ntmps18 rfl ?_
  intro W0 hW0
  have o0 : Old H H := Old.refl H
  refine KC.seq ?_
  refine KC.region ?_
  refine KL.opM (M.alloc (cs := ((List.replicate 64 (0 : Int)).map (Value.int .u32))) rfl zr55 rfl) rfl rfl rfl ?_
  rintro _ H1 ⟨rfl, n1⟩
  have z1 := n1.2.1
  have o0 := o0.trans n1.1
  have b1 := n1.2.2
  have br := b1
  refine KL.nil ?_
  refine KQ.seq ?_
  refine KC.seq ?_
  refine KC.region ?_
  have b0x := br
  refine KL.opM (M.alloc (cs := ((List.replicate 64 (0 : Int)).map (Value.int .u32))) rfl zr55 rfl) rfl rfl rfl ?_
  rintro _ H2 ⟨rfl, n2⟩
  have z2 := n2.2.1
  have o0 := o0.trans n2.1
  have br := (n2.1).blk br
  have b2 := n2.2.2
  have bw := b2
  refine KL.nil ?_
  refine KQ.seq ?_
  refine KC.seq ?_
  refine KC.seq ?_
  refine KC.region ?_
  refine KL.op (R.move rfl rfl) rfl rfl rfl ?_
  refine KL.nil ?_
  refine KQ.seq ?_
  refine KC.block ?_
  refine KC.loopD (κ := Nat) [7, 8, 4, 9, 10, 11, 12, 13, 14, 15, 16, 17, 18, 19, 20, 21, 22, 23, 24, 25, 26, 27, 28, 29, 30, 31, 32, 33, 34, 35, 36, 37, 38, 39, 40, 41, 42, 43, 44, 6] (fun k => [(6, .int .i64 (k : Nat))]) (fun k Hl => 0 ≤ k ∧ k ≤ 16 ∧ Old H Hl ∧ Hl[H.size]? = some (.cells ((List.replicate 64 (0 : Int)).map (Value.int .u32)).toArray 55 (0, 0)) ∧ Hl[Array.size H1]? = some (.cells ((Sha.ws b k ++ List.replicate (64 - k) 0).map (Value.int .u32)).toArray 55 (0, 0))) (fun k => 16 - k) 0 ?_ ?_ ?_
  · exact (Sub.cons rfl (Ext.sub (Ext.refl _ _)))
  · exact ⟨by omega, by omega, o0, br, bw⟩
  · rintro k H3 ⟨hk1, hk, o0, br, bw⟩
    have zl_H3 := o0.1
    have hw0 : H.size < Array.size H1 := by have := blk_lt b0x; omega
    have hll := Sha.wpad_length b (k := k) (by omega)
    refine KC.seq ?_
    refine KC.region ?_
    refine KL.op (R.lss rfl rfl rfl) rfl rfl rfl ?_
    refine KL.nil ?_
    refine KQ.seq ?_
    refine KC.seq ?_
    refine KC.iteL rfl ?_ ?_
    · intro hc7
      try simp only [decide_eq_true_eq, decide_eq_false_iff_not, Bool.not_eq_true', Bool.not_eq_false', Bool.and_eq_true, Bool.or_eq_false_iff] at hc7
      have q0 := (hb.int (4 * k + 0) (by omega)).2
      have q1 := (hb.int (4 * k + 1) (by omega)).2
      have q2 := (hb.int (4 * k + 2) (by omega)).2
      have q3 := (hb.int (4 * k + 3) (by omega)).2
      dsimp only [InR] at q0 q1 q2 q3
      refine KC.skip ?_
      refine KQ.seq ?_
      refine KC.seq ?_
      refine KC.block ?_
      refine KC.seq ?_
      refine KC.region ?_
      refine KL.op (R.move rfl rfl) rfl rfl rfl ?_
      refine KL.op (R.assign rfl rfl) rfl rfl rfl ?_
      refine KL.nil ?_
      refine KQ.seq ?_
      refine KC.text (clOf [(5, 1), (13, 1), (22, 1), (31, 1), (35, 2)]) (fun _ _ => True) (by kernel_rfl) (by kernel_rfl) (fun _ => trivial) ?_
      refine KP.op rfl (fun Hg hg => R.move rfl rfl) rfl rfl rfl ?_
      refine KP.op rfl (fun Hg hg => R.move rfl rfl) rfl rfl rfl ?_
      refine KP.op rfl (fun Hg hg => R.move rfl rfl) rfl rfl rfl ?_
      refine KP.op rfl (fun Hg hg => R.mul rfl rfl rfl (by dsimp only [InR]; omega)) rfl rfl rfl ?_
      refine KP.op rfl (fun Hg hg => R.index1 (j := 4 * k + 0) rfl Try.underlying24 sz5 rfl rfl (hb.old o0) (by omega) (by omega)) rfl rfl rfl ?_
      refine KP.now rfl (R.load rfl Try.underlying5 rfl rfl (by first | exact cell_of br rfl | exact cell_of bw rfl | exact ((hb.old o0).int (4 * k + 0) (by omega)).1 | exact ((hb.old o0).int (4 * k + 1) (by omega)).1 | exact ((hb.old o0).int (4 * k + 2) (by omega)).1 | exact ((hb.old o0).int (4 * k + 3) (by omega)).1 | exact hg _ (by omega) | exact cell_ints bw (by omega) | assumption)) rfl rfl rfl ?_
      refine KP.op rfl (fun Hg hg => R.convI rfl Try.underlying5 Try.underlying46 rfl (by dsimp only [InR]; omega)) rfl rfl rfl ?_
      refine KP.op rfl (fun Hg hg => R.shl rfl rfl rfl (by omega)) rfl rfl rfl ?_
      refine KP.op rfl (fun Hg hg => R.move rfl rfl) rfl rfl rfl ?_
      refine KP.op rfl (fun Hg hg => R.move rfl rfl) rfl rfl rfl ?_
      refine KP.op rfl (fun Hg hg => R.mul rfl rfl rfl (by dsimp only [InR]; omega)) rfl rfl rfl ?_
      refine KP.op rfl (fun Hg hg => R.add rfl rfl rfl (by dsimp only [InR]; omega)) rfl rfl rfl ?_
      refine KP.op rfl (fun Hg hg => R.index1 (j := 4 * k + 1) rfl Try.underlying24 sz5 rfl rfl (hb.old o0) (by omega) (by omega)) rfl rfl rfl ?_
      refine KP.now rfl (R.load rfl Try.underlying5 rfl rfl (by first | exact cell_of br rfl | exact cell_of bw rfl | exact ((hb.old o0).int (4 * k + 0) (by omega)).1 | exact ((hb.old o0).int (4 * k + 1) (by omega)).1 | exact ((hb.old o0).int (4 * k + 2) (by omega)).1 | exact ((hb.old o0).int (4 * k + 3) (by omega)).1 | exact hg _ (by omega) | exact cell_ints bw (by omega) | assumption)) rfl rfl rfl ?_
      refine KP.op rfl (fun Hg hg => R.convI rfl Try.underlying5 Try.underlying46 rfl (by dsimp only [InR]; omega)) rfl rfl rfl ?_
      refine KP.op rfl (fun Hg hg => R.shl rfl rfl rfl (by omega)) rfl rfl rfl ?_
      refine KP.op rfl (fun Hg hg => R.bits rfl rfl rfl rfl) rfl rfl rfl ?_
      refine KP.op rfl (fun Hg hg => R.move rfl rfl) rfl rfl rfl ?_
      refine KP.op rfl (fun Hg hg => R.move rfl rfl) rfl rfl rfl ?_
      refine KP.op rfl (fun Hg hg => R.mul rfl rfl rfl (by dsimp only [InR]; omega)) rfl rfl rfl ?_
      refine KP.op rfl (fun Hg hg => R.add rfl rfl rfl (by dsimp only [InR]; omega)) rfl rfl rfl ?_
      refine KP.op rfl (fun Hg hg => R.index1 (j := 4 * k + 2) rfl Try.underlying24 sz5 rfl rfl (hb.old o0) (by omega) (by omega)) rfl rfl rfl ?_
      refine KP.now rfl (R.load rfl Try.underlying5 rfl rfl (by first | exact cell_of br rfl | exact cell_of bw rfl | exact ((hb.old o0).int (4 * k + 0) (by omega)).1 | exact ((hb.old o0).int (4 * k + 1) (by omega)).1 | exact ((hb.old o0).int (4 * k + 2) (by omega)).1 | exact ((hb.old o0).int (4 * k + 3) (by omega)).1 | exact hg _ (by omega) | exact cell_ints bw (by omega) | assumption)) rfl rfl rfl ?_
      refine KP.op rfl (fun Hg hg => R.convI rfl Try.underlying5 Try.underlying46 rfl (by dsimp only [InR]; omega)) rfl rfl rfl ?_
      refine KP.op rfl (fun Hg hg => R.shl rfl rfl rfl (by omega)) rfl rfl rfl ?_
      refine KP.op rfl (fun Hg hg => R.bits rfl rfl rfl rfl) rfl rfl rfl ?_
      refine KP.op rfl (fun Hg hg => R.move rfl rfl) rfl rfl rfl ?_
      refine KP.op rfl (fun Hg hg => R.move rfl rfl) rfl rfl rfl ?_
      refine KP.op rfl (fun Hg hg => R.mul rfl rfl rfl (by dsimp only [InR]; omega)) rfl rfl rfl ?_
      refine KP.op rfl (fun Hg hg => R.add rfl rfl rfl (by dsimp only [InR]; omega)) rfl rfl rfl ?_
      refine KP.op rfl (fun Hg hg => R.index1 (j := 4 * k + 3) rfl Try.underlying24 sz5 rfl rfl (hb.old o0) (by omega) (by omega)) rfl rfl rfl ?_
      refine KP.now rfl (R.load rfl Try.underlying5 rfl rfl (by first | exact cell_of br rfl | exact cell_of bw rfl | exact ((hb.old o0).int (4 * k + 0) (by omega)).1 | exact ((hb.old o0).int (4 * k + 1) (by omega)).1 | exact ((hb.old o0).int (4 * k + 2) (by omega)).1 | exact ((hb.old o0).int (4 * k + 3) (by omega)).1 | exact hg _ (by omega) | exact cell_ints bw (by omega) | assumption)) rfl rfl rfl ?_
      refine KP.op rfl (fun Hg hg => R.convI rfl Try.underlying5 Try.underlying46 rfl (by dsimp only [InR]; omega)) rfl rfl rfl ?_
      refine KP.op rfl (fun Hg hg => (R.bits rfl rfl rfl rfl).val (congrArg (Value.int .u32) (Sha.word_or (a := b.getD (4 * k + 0) default) (b := b.getD (4 * k + 1) default) (c := b.getD (4 * k + 2) default) (d := b.getD (4 * k + 3) default) ⟨by omega, by omega⟩ ⟨by omega, by omega⟩ ⟨by omega, by omega⟩ ⟨by omega, by omega⟩))) rfl rfl rfl ?_
      refine KP.op rfl (fun Hg hg => R.at1 (j := k) rfl Try.underlying55 sz46 rfl rfl (by omega) (by omega)) rfl rfl rfl ?_
      refine KP.opS rfl (S.storeInt rfl sz46 rfl rfl bw (by omega)) rfl rfl (fun _ _ _ _ _ => trivial) ?_
      rintro H4 ⟨u4, b4⟩
      have o0 := o0.upd u4 (by omega)
      have zu4 := u4.1
      have br := ((u4).2 _ (by omega)).trans br
      have bw := b4
      have hx : _ = Sha.nw b (Sha.ws b k) k := (Sha.nw_lo (by omega)).symm
      refine KP.nil ?_
      refine KQ.normBlock ?_
      refine KQ.seq ?_
      refine KC.region ?_
      refine KL.op (R.add rfl rfl rfl (by dsimp only [InR]; omega)) rfl rfl rfl ?_
      refine KL.op (R.move rfl rfl) rfl rfl rfl ?_
      refine KL.nil ?_
      refine KQ.again (k + 1) ?_ ?_ ?_
      · exact (Sub.cons rfl (Ext.sub (by repeat (first | exact Ext.refl _ _ | refine Ext.put rfl ?_ | refine Ext.drop rfl ?_))))
      · omega
      · exact ⟨by omega, by omega, o0, br, by rw [← Sha.wpad_set (b := b) (k := k) (by omega) hx]; exact bw⟩
    · intro hc7
      try simp only [decide_eq_true_eq, decide_eq_false_iff_not, Bool.not_eq_true', Bool.not_eq_false', Bool.and_eq_true, Bool.or_eq_false_iff] at hc7
      refine KC.exit ?_
      refine KQ.exitThen ?_
      refine KQ.exitThen ?_
      refine KQ.hit ?_
      refine KQ.seq ?_
      refine KC.seq ?_
      refine KC.seq ?_
      refine KC.region ?_
      refine KL.op (R.assign rfl rfl) rfl rfl rfl ?_
      refine KL.nil ?_
      refine KQ.seq ?_
      refine KC.block ?_
      refine KC.loopD (κ := Nat) [45, 46, 49, 50, 51, 52, 53, 54, 55, 56, 57, 58, 59, 60, 61, 62, 63, 64, 65, 66, 67, 68, 69, 70, 71, 47, 48, 5] (fun k => [(5, .int .i64 (k : Nat))]) (fun k Hl => 16 ≤ k ∧ k ≤ 64 ∧ Old H Hl ∧ Hl[H.size]? = some (.cells ((List.replicate 64 (0 : Int)).map (Value.int .u32)).toArray 55 (0, 0)) ∧ Hl[Array.size H1]? = some (.cells ((Sha.ws b k ++ List.replicate (64 - k) 0).map (Value.int .u32)).toArray 55 (0, 0))) (fun k => 64 - k) 16 ?_ ?_ ?_
      · exact (Sub.cons rfl (Ext.sub (Ext.refl _ _)))
      · exact ⟨by omega, by omega, o0, br, by have e : k = 16 := (by omega); subst e; exact bw⟩
      · rintro k H5 ⟨hk1, hk, o0, br, bw⟩
        have zl_H5 := o0.1
        have hw0 : H.size < Array.size H1 := by have := blk_lt b0x; omega
        have hll := Sha.wpad_length b (k := k) (by omega)
        refine KC.seq ?_
        refine KC.seq ?_
        refine KC.region ?_
        refine KL.op (R.move rfl rfl) rfl rfl rfl ?_
        refine KL.op (R.lss rfl rfl rfl) rfl rfl rfl ?_
        refine KL.nil ?_
        refine KQ.seq ?_
        refine KC.iteL rfl ?_ ?_
        · intro hc46
          try simp only [decide_eq_true_eq, decide_eq_false_iff_not, Bool.not_eq_true', Bool.not_eq_false', Bool.and_eq_true, Bool.or_eq_false_iff] at hc46
          refine KC.skip ?_
          refine KQ.seq ?_
          refine KC.seq ?_
          refine KC.block ?_
          have cw0 : ∀ j, j < k → cellH H5 ⟨Array.size H1, j, none⟩ = some (.int .u32 ((Sha.ws b k).getD j default)) := fun j hj => by rw [← Sha.wpad_getD hj]; exact cell_ints bw (by omega)
          refine KC.text (clOf [(9, 2), (20, 2), (23, 2)]) (fun _ Hc => ∀ j, j < k → cellH Hc ⟨Array.size H1, j, none⟩ = some (.int .u32 ((Sha.ws b k).getD j default))) (by kernel_rfl) (by kernel_rfl) (fun _ => cw0) ?_
          refine KP.op rfl (fun Hg hg => R.move rfl rfl) rfl rfl rfl ?_
          refine KP.op rfl (fun Hg hg => R.move rfl rfl) rfl rfl rfl ?_
          refine KP.op rfl (fun Hg hg => R.sub rfl rfl rfl (by dsimp only [InR]; omega)) rfl rfl rfl ?_
          refine KP.op rfl (fun Hg hg => R.at1 (j := k - 16) rfl Try.underlying55 sz46 rfl rfl (by omega) (by omega)) rfl rfl rfl ?_
          refine KP.op rfl (fun Hg hg => R.load rfl Try.underlying46 rfl rfl (by first | exact cell_of br rfl | exact cell_of bw rfl | exact ((hb.old o0).int (4 * k + 0) (by omega)).1 | exact ((hb.old o0).int (4 * k + 1) (by omega)).1 | exact ((hb.old o0).int (4 * k + 2) (by omega)).1 | exact ((hb.old o0).int (4 * k + 3) (by omega)).1 | exact hg _ (by omega) | exact cell_ints bw (by omega) | assumption)) rfl rfl rfl ?_
          refine KP.op rfl (fun Hg hg => R.move rfl rfl) rfl rfl rfl ?_
          refine KP.op rfl (fun Hg hg => R.sub rfl rfl rfl (by dsimp only [InR]; omega)) rfl rfl rfl ?_
          refine KP.op rfl (fun Hg hg => R.at1 (j := k - 15) rfl Try.underlying55 sz46 rfl rfl (by omega) (by omega)) rfl rfl rfl ?_
          refine KP.op rfl (fun Hg hg => R.load rfl Try.underlying46 rfl rfl (by first | exact cell_of br rfl | exact cell_of bw rfl | exact ((hb.old o0).int (4 * k + 0) (by omega)).1 | exact ((hb.old o0).int (4 * k + 1) (by omega)).1 | exact ((hb.old o0).int (4 * k + 2) (by omega)).1 | exact ((hb.old o0).int (4 * k + 3) (by omega)).1 | exact hg _ (by omega) | exact cell_ints bw (by omega) | assumption)) rfl rfl rfl ?_
          refine KP.call rfl rfl rfl rfl rfl Try.call23 rfl rfl rfl (moves_any _ 7 18 3 (by omega) (by omega) (by omega)) (fun _ _ h => h.2 ▸ fun _ _ _ => cw0) ?_
          rintro _ _ ⟨rfl, rfl⟩
          refine KP.op rfl (fun Hg hg => R.addW rfl rfl rfl) rfl rfl rfl ?_
          refine KP.op rfl (fun Hg hg => R.move rfl rfl) rfl rfl rfl ?_
          refine KP.op rfl (fun Hg hg => R.sub rfl rfl rfl (by dsimp only [InR]; omega)) rfl rfl rfl ?_
          refine KP.op rfl (fun Hg hg => R.at1 (j := k - 7) rfl Try.underlying55 sz46 rfl rfl (by omega) (by omega)) rfl rfl rfl ?_
          refine KP.op rfl (fun Hg hg => R.load rfl Try.underlying46 rfl rfl (by first | exact cell_of br rfl | exact cell_of bw rfl | exact ((hb.old o0).int (4 * k + 0) (by omega)).1 | exact ((hb.old o0).int (4 * k + 1) (by omega)).1 | exact ((hb.old o0).int (4 * k + 2) (by omega)).1 | exact ((hb.old o0).int (4 * k + 3) (by omega)).1 | exact hg _ (by omega) | exact cell_ints bw (by omega) | assumption)) rfl rfl rfl ?_
          refine KP.op rfl (fun Hg hg => R.addW rfl rfl rfl) rfl rfl rfl ?_
          refine KP.op rfl (fun Hg hg => R.move rfl rfl) rfl rfl rfl ?_
          refine KP.op rfl (fun Hg hg => R.sub rfl rfl rfl (by dsimp only [InR]; omega)) rfl rfl rfl ?_
          refine KP.op rfl (fun Hg hg => R.at1 (j := k - 2) rfl Try.underlying55 sz46 rfl rfl (by omega) (by omega)) rfl rfl rfl ?_
          refine KP.op rfl (fun Hg hg => R.load rfl Try.underlying46 rfl rfl (by first | exact cell_of br rfl | exact cell_of bw rfl | exact ((hb.old o0).int (4 * k + 0) (by omega)).1 | exact ((hb.old o0).int (4 * k + 1) (by omega)).1 | exact ((hb.old o0).int (4 * k + 2) (by omega)).1 | exact ((hb.old o0).int (4 * k + 3) (by omega)).1 | exact hg _ (by omega) | exact cell_ints bw (by omega) | assumption)) rfl rfl rfl ?_
          refine KP.call rfl rfl rfl rfl rfl Try.call23 rfl rfl rfl (moves_any _ 17 19 10 (by omega) (by omega) (by omega)) (fun _ _ h => h.2 ▸ fun _ _ _ => cw0) ?_
          rintro _ _ ⟨rfl, rfl⟩
          refine KP.op rfl (fun Hg hg => R.addW rfl rfl rfl) rfl rfl rfl ?_
          refine KP.op rfl (fun Hg hg => R.at1 (j := k) rfl Try.underlying55 sz46 rfl rfl (by omega) (by omega)) rfl rfl rfl ?_
          refine KP.opS rfl (S.storeInt rfl sz46 rfl rfl bw (by omega)) rfl rfl (fun _ h _ _ _ j hj => by have h2 := cell_ints (j := j) h.2 (by rw [List.length_set]; omega); rw [Sha.set_getD (by omega), Sha.wpad_getD hj] at h2; exact h2) ?_
          rintro H6 ⟨u6, b6⟩
          have o0 := o0.upd u6 (by omega)
          have zu6 := u6.1
          have br := ((u6).2 _ (by omega)).trans br
          have bw := b6
          have hx := (Sha.nw_hi (b := b) (w := Sha.ws b k) (k := k) (by omega)).symm
          refine KP.nil ?_
          refine KQ.normBlock ?_
          refine KQ.seq ?_
          refine KC.region ?_
          refine KL.op (R.move rfl rfl) rfl rfl rfl ?_
          refine KL.op (R.add rfl rfl rfl (by dsimp only [InR]; omega)) rfl rfl rfl ?_
          refine KL.op (R.assign rfl rfl) rfl rfl rfl ?_
          refine KL.nil ?_
          refine KQ.again (k + 1) ?_ ?_ ?_
          · exact (Sub.cons rfl (Ext.sub (by repeat (first | exact Ext.refl _ _ | refine Ext.put rfl ?_ | refine Ext.drop rfl ?_))))
          · omega
          · exact ⟨by omega, by omega, o0, br, by rw [← Sha.wpad_set (b := b) (k := k) (by omega) hx]; exact bw⟩
        · intro hc46
          try simp only [decide_eq_true_eq, decide_eq_false_iff_not, Bool.not_eq_true', Bool.not_eq_false', Bool.and_eq_true, Bool.or_eq_false_iff] at hc46
          have e : k = 64 := (by omega)
          subst e
          rw [show Sha.ws b 64 ++ List.replicate (64 - 64) 0 = Sha.ws b 64 by simp] at bw
          refine KC.exit ?_
          refine KQ.exitThen ?_
          refine KQ.exitThen ?_
          refine KQ.hit ?_
          refine KQ.seq ?_
          refine KC.seq ?_
          refine KC.region ?_
          refine KL.op (R.loadAgg rfl Try.underlying55 rfl sz55 rfl (cells_of bw) (by simp [Sha.ws_length])) rfl rfl rfl ?_
          refine KL.opS (S.storeAgg (us := ((Sha.ws b 64).map (Value.int .u32))) rfl sz55 rfl rfl (by simp [Sha.ws_length]) (by intro u hu; simp only [List.mem_map] at hu; obtain ⟨x, _, rfl⟩ := hu; rfl) br (by rw [Sha.z64_length, List.length_map, Sha.ws_length]; omega)) rfl rfl ?_
          rintro H7 ⟨u7, b7⟩
          have o0 := o0.upd u7 (by omega)
          have zu7 := u7.1
          have bw := ((u7).2 _ (by omega)).trans bw
          have br := b7
          rw [Sha.put_all (by rw [Sha.z64_length, List.length_map, Sha.ws_length])] at br
          refine KL.nil ?_
          refine KQ.seq ?_
          refine KC.ret ?_
          refine KQ.ofRet ?_
          refine KQ.finCell Try.results18 rfl Try.underlying55 rfl sz55 (cells_of br) (by simp [Sha.ws_length]) ?_
          exact ⟨rfl, o0⟩

set_option maxRecDepth 100000 in
set_option maxHeartbeats 4000000 in
theorem consts_any {H : Heap} : Ct Try.prog 19 [] H (fun u H' => u = .agg (Sha.K.map (Value.int .u32)).toArray ∧ Old H H') := by
  refine Ct.mk Try.func19 rfl Try.ntmps19 rfl ?_
  intro W0 hW0
  have o0 : Old H H := Old.refl H
  refine KC.seq ?_
  refine KC.region ?_
  refine KL.opM (M.alloc (cs := ((List.replicate 64 (0 : Int)).map (Value.int .u32))) rfl zr55 rfl) rfl rfl rfl ?_
  rintro _ H1 ⟨rfl, n1⟩
  have z1 := n1.2.1
  have o0 := o0.trans n1.1
  have b1 := n1.2.2
  have br := b1
  refine KL.nil ?_
  refine KQ.seq ?_
  refine KC.seq ?_
  refine KC.region ?_
  refine KL.op (R.buildArr (cs := #[(.int .u32 1116352408), (.int .u32 1899447441), (.int .u32 3049323471), (.int .u32 3921009573), (.int .u32 961987163), (.int .u32 1508970993), (.int .u32 2453635748), (.int .u32 2870763221), (.int .u32 3624381080), (.int .u32 310598401), (.int .u32 607225278), (.int .u32 1426881987), (.int .u32 1925078388), (.int .u32 2162078206), (.int .u32 2614888103), (.int .u32 3248222580), (.int .u32 3835390401), (.int .u32 4022224774), (.int .u32 264347078), (.int .u32 604807628), (.int .u32 770255983), (.int .u32 1249150122), (.int .u32 1555081692), (.int .u32 1996064986), (.int .u32 2554220882), (.int .u32 2821834349), (.int .u32 2952996808), (.int .u32 3210313671), (.int .u32 3336571891), (.int .u32 3584528711), (.int .u32 113926993), (.int .u32 338241895), (.int .u32 666307205), (.int .u32 773529912), (.int .u32 1294757372), (.int .u32 1396182291), (.int .u32 1695183700), (.int .u32 1986661051), (.int .u32 2177026350), (.int .u32 2456956037), (.int .u32 2730485921), (.int .u32 2820302411), (.int .u32 3259730800), (.int .u32 3345764771), (.int .u32 3516065817), (.int .u32 3600352804), (.int .u32 4094571909), (.int .u32 275423344), (.int .u32 430227734), (.int .u32 506948616), (.int .u32 659060556), (.int .u32 883997877), (.int .u32 958139571), (.int .u32 1322822218), (.int .u32 1537002063), (.int .u32 1747873779), (.int .u32 1955562222), (.int .u32 2024104815), (.int .u32 2227730452), (.int .u32 2361852424), (.int .u32 2428436474), (.int .u32 2756734187), (.int .u32 3204031479), (.int .u32 3329325298)]) rfl Try.underlying55 zr55 sz46 rfl (by kernel_rfl)) rfl rfl rfl ?_
  refine KL.opS (S.storeAgg (us := (Sha.K.map (Value.int .u32))) rfl sz55 rfl rfl (rfl) (by intro u hu; simp only [List.mem_map] at hu; obtain ⟨x, _, rfl⟩ := hu; rfl) br (by rw [Sha.z64_length, List.length_map, Sha.K_length]; omega)) rfl rfl ?_
  rintro H2 ⟨u2, b2⟩
  have o0 := o0.upd u2 (by omega)
  have zu2 := u2.1
  have br := b2
  rw [Sha.put_all (by rw [Sha.z64_length, List.length_map, Sha.K_length])] at br
  refine KL.nil ?_
  refine KQ.seq ?_
  refine KC.ret ?_
  refine KQ.ofRet ?_
  refine KQ.finCell Try.results19 rfl Try.underlying55 rfl sz55 (cells_of br) (rfl) ?_
  exact ⟨rfl, o0⟩

end Go.Proofs.Ytgpbdimccbimnaa
