/- slices.Repeat of one value. No condition but sizes. -/
import Derived.Test.YticnkojpfmkjeaaIstB
import Derived.Test.YticnkojpfmkjeaaKCopy
namespace Go.Proofs.Yticnkojpfmkjeaa
open Go Go.RowKit
set_option linter.unusedVariables false
set_option linter.unusedSimpArgs false
set_option linter.unnecessarySimpa false

theorem and32_1 : bits .and .u64 1 4294967295 = 1 := by decide +kernel
theorem and32_0 : bits .and .u64 0 4294967295 = 0 := by decide +kernel
theorem and32_n : ∀ j : Fin 1025, bits .and .u64 (j.1 : Int) 4294967295 = (j.1 : Int) := by decide +kernel
theorem shr32 {x : Int} (h0 : 0 ≤ x) (h1 : x < 4294967296) : x / 2 ^ (min (32 : Int).toNat IntKind.u64.bits) = 0 := by
  rw [show (2 : Int) ^ (min (32 : Int).toNat IntKind.u64.bits) = 4294967296 by decide +kernel]; omega
theorem rep_put {n k q : Nat} (x : Int) (h : k + q ≤ n) : putAt (List.replicate k x ++ List.replicate (n - k) 0) k (List.replicate q x) = List.replicate (k + q) x ++ List.replicate (n - (k + q)) 0 := by
  unfold putAt
  rw [List.take_left' (by simp), List.length_replicate, ← List.replicate_append_replicate, List.drop_append, List.length_replicate, List.drop_eq_nil_of_le (by simp), List.nil_append, List.drop_replicate]
  congr 2; omega
theorem rep0 {n : Nat} {x : Int} : List.replicate (min n 1) x ++ List.replicate (n - min n 1) 0 = putAt (List.replicate n 0) 0 (List.replicate (min n 1) x) := by
  unfold putAt
  rw [List.take_zero, List.nil_append, List.length_replicate, List.drop_replicate, Nat.zero_add]
theorem subV_all {g n c : Nat} (q : Nat) (h : q = n) : subV 1 (.slice (some ⟨g, 0, none⟩) n c) 0 (0 + q) = .slice (some ⟨g, 0, none⟩) n c := by
  subst h
  unfold subV Addr.add
  simp

set_option maxRecDepth 100000 in
set_option maxHeartbeats 4000000 in
theorem Mul64_1 {H : Heap} (n : Nat) (hn : n ≤ 1024) : Ct Try.prog 33 [.int .u64 1, .int .u64 (n : Nat)] H (fun u H' => u = .tuple #[.int .u64 0, .int .u64 (n : Nat)] ∧ H = H') := by
  refine Ct.mk Try.func33 rfl Try.ntmps33 rfl ?_
  intro W0 hW0
  have o0 : Old H H := Old.refl H
  refine KC.seq ?_
  refine KC.region ?_
  refine KL.op (R.assign rfl rfl) rfl rfl rfl ?_
  refine KL.op (R.assign rfl rfl) rfl rfl rfl ?_
  refine KL.nil ?_
  refine KQ.seq ?_
  refine KC.seq ?_
  refine KC.region ?_
  refine KL.op (R.move rfl rfl) rfl rfl rfl ?_
  refine KL.op ((R.bits rfl rfl rfl rfl).val (congrArg (Value.int .u64) (and32_1))) rfl rfl rfl ?_
  refine KL.op (R.assign rfl rfl) rfl rfl rfl ?_
  refine KL.nil ?_
  refine KQ.seq ?_
  refine KC.seq ?_
  refine KC.region ?_
  refine KL.op (R.move rfl rfl) rfl rfl rfl ?_
  refine KL.op ((R.shr rfl rfl rfl (by omega)).val (congrArg (Value.int .u64) (shr32 (by decide) (by decide)))) rfl rfl rfl ?_
  refine KL.op (R.assign rfl rfl) rfl rfl rfl ?_
  refine KL.nil ?_
  refine KQ.seq ?_
  refine KC.seq ?_
  refine KC.region ?_
  refine KL.op (R.move rfl rfl) rfl rfl rfl ?_
  refine KL.op ((R.bits rfl rfl rfl rfl).val (congrArg (Value.int .u64) (and32_n ⟨n, by omega⟩))) rfl rfl rfl ?_
  refine KL.op (R.assign rfl rfl) rfl rfl rfl ?_
  refine KL.nil ?_
  refine KQ.seq ?_
  refine KC.seq ?_
  refine KC.region ?_
  refine KL.op (R.move rfl rfl) rfl rfl rfl ?_
  refine KL.op ((R.shr rfl rfl rfl (by omega)).val (congrArg (Value.int .u64) (shr32 (by omega) (by omega)))) rfl rfl rfl ?_
  refine KL.op (R.assign rfl rfl) rfl rfl rfl ?_
  refine KL.nil ?_
  refine KQ.seq ?_
  refine KC.seq ?_
  refine KC.region ?_
  refine KL.op (R.move rfl rfl) rfl rfl rfl ?_
  refine KL.op (R.move rfl rfl) rfl rfl rfl ?_
  refine KL.op ((R.mul rfl rfl rfl (by dsimp only [InR]; omega)).val (congrArg (Value.int .u64) (show 1 * (n : Int) = (n : Int) by omega))) rfl rfl rfl ?_
  refine KL.op (R.assign rfl rfl) rfl rfl rfl ?_
  refine KL.nil ?_
  refine KQ.seq ?_
  refine KC.seq ?_
  refine KC.region ?_
  refine KL.op (R.move rfl rfl) rfl rfl rfl ?_
  refine KL.op (R.move rfl rfl) rfl rfl rfl ?_
  refine KL.op ((R.mul rfl rfl rfl (by dsimp only [InR]; omega)).val (congrArg (Value.int .u64) (show 0 * (n : Int) = 0 by omega))) rfl rfl rfl ?_
  refine KL.op (R.move rfl rfl) rfl rfl rfl ?_
  refine KL.op ((R.shr rfl rfl rfl (by omega)).val (congrArg (Value.int .u64) (shr32 (by omega) (by omega)))) rfl rfl rfl ?_
  refine KL.op ((R.add rfl rfl rfl (by dsimp only [InR]; omega)).val (congrArg (Value.int .u64) (show (0 : Int) + 0 = 0 by omega))) rfl rfl rfl ?_
  refine KL.op (R.assign rfl rfl) rfl rfl rfl ?_
  refine KL.nil ?_
  refine KQ.seq ?_
  refine KC.seq ?_
  refine KC.region ?_
  refine KL.op (R.move rfl rfl) rfl rfl rfl ?_
  refine KL.op ((R.bits rfl rfl rfl rfl).val (congrArg (Value.int .u64) (and32_0))) rfl rfl rfl ?_
  refine KL.op (R.assign rfl rfl) rfl rfl rfl ?_
  refine KL.nil ?_
  refine KQ.seq ?_
  refine KC.seq ?_
  refine KC.region ?_
  refine KL.op (R.move rfl rfl) rfl rfl rfl ?_
  refine KL.op ((R.shr rfl rfl rfl (by omega)).val (congrArg (Value.int .u64) (shr32 (by decide) (by decide)))) rfl rfl rfl ?_
  refine KL.op (R.assign rfl rfl) rfl rfl rfl ?_
  refine KL.nil ?_
  refine KQ.seq ?_
  refine KC.seq ?_
  refine KC.region ?_
  refine KL.op (R.move rfl rfl) rfl rfl rfl ?_
  refine KL.op (R.move rfl rfl) rfl rfl rfl ?_
  refine KL.op (R.move rfl rfl) rfl rfl rfl ?_
  refine KL.op ((R.mul rfl rfl rfl (by dsimp only [InR]; omega)).val (congrArg (Value.int .u64) (show (1 : Int) * 0 = 0 by omega))) rfl rfl rfl ?_
  refine KL.op ((R.add rfl rfl rfl (by dsimp only [InR]; omega)).val (congrArg (Value.int .u64) (show (0 : Int) + 0 = 0 by omega))) rfl rfl rfl ?_
  refine KL.op (R.assign rfl rfl) rfl rfl rfl ?_
  refine KL.nil ?_
  refine KQ.seq ?_
  refine KC.seq ?_
  refine KC.region ?_
  refine KL.op (R.move rfl rfl) rfl rfl rfl ?_
  refine KL.op (R.move rfl rfl) rfl rfl rfl ?_
  refine KL.op ((R.mul rfl rfl rfl (by dsimp only [InR]; omega)).val (congrArg (Value.int .u64) (show (0 : Int) * 0 = 0 by omega))) rfl rfl rfl ?_
  refine KL.op (R.move rfl rfl) rfl rfl rfl ?_
  refine KL.op ((R.add rfl rfl rfl (by dsimp only [InR]; omega)).val (congrArg (Value.int .u64) (show (0 : Int) + 0 = 0 by omega))) rfl rfl rfl ?_
  refine KL.op (R.move rfl rfl) rfl rfl rfl ?_
  refine KL.op ((R.shr rfl rfl rfl (by omega)).val (congrArg (Value.int .u64) (shr32 (by decide) (by decide)))) rfl rfl rfl ?_
  refine KL.op ((R.add rfl rfl rfl (by dsimp only [InR]; omega)).val (congrArg (Value.int .u64) (show (0 : Int) + 0 = 0 by omega))) rfl rfl rfl ?_
  refine KL.op (R.assign rfl rfl) rfl rfl rfl ?_
  refine KL.nil ?_
  refine KQ.seq ?_
  refine KC.seq ?_
  refine KC.region ?_
  refine KL.op (R.move rfl rfl) rfl rfl rfl ?_
  refine KL.op (R.move rfl rfl) rfl rfl rfl ?_
  refine KL.op ((R.mul rfl rfl rfl (by dsimp only [InR]; omega)).val (congrArg (Value.int .u64) (show 1 * (n : Int) = (n : Int) by omega))) rfl rfl rfl ?_
  refine KL.op (R.assign rfl rfl) rfl rfl rfl ?_
  refine KL.nil ?_
  refine KQ.seq ?_
  refine KC.ret ?_
  refine KQ.ofRet ?_
  refine KQ.fin2 Try.results33 rfl rfl ?_
  exact ⟨rfl, rfl⟩

set_option maxRecDepth 100000 in
set_option maxHeartbeats 4000000 in
theorem Mul_1 {H : Heap} (n : Nat) (hn : n ≤ 1024) : Ct Try.prog 31 [.int .u64 1, .int .u64 (n : Nat)] H (fun u H' => u = .tuple #[.int .u64 0, .int .u64 (n : Nat)] ∧ H = H') := by
  refine Ct.mk Try.func31 rfl Try.ntmps31 rfl ?_
  intro W0 hW0
  have o0 : Old H H := Old.refl H
  refine KC.seq ?_
  refine KC.region ?_
  refine KL.op (R.assign rfl rfl) rfl rfl rfl ?_
  refine KL.op (R.assign rfl rfl) rfl rfl rfl ?_
  refine KL.nil ?_
  refine KQ.seq ?_
  refine KC.seq ?_
  refine KC.condF rfl ?_
  refine KC.skip ?_
  refine KQ.seq ?_
  refine KC.seq ?_
  refine KC.region ?_
  refine KL.op (R.move rfl rfl) rfl rfl rfl ?_
  refine KL.op (R.move rfl rfl) rfl rfl rfl ?_
  refine KL.call rfl rfl rfl rfl Try.call33 rfl rfl rfl (Mul64_1 n hn) ?_
  rintro _ _ ⟨rfl, rfl⟩
  refine KL.op (R.move rfl rfl) rfl rfl rfl ?_
  refine KL.op (R.extract rfl rfl rfl) rfl rfl rfl ?_
  refine KL.op (R.extract rfl rfl rfl) rfl rfl rfl ?_
  refine KL.op (R.assign rfl rfl) rfl rfl rfl ?_
  refine KL.op (R.assign rfl rfl) rfl rfl rfl ?_
  refine KL.nil ?_
  refine KQ.seq ?_
  refine KC.seq ?_
  refine KC.region ?_
  refine KL.op (R.move rfl rfl) rfl rfl rfl ?_
  refine KL.op (R.move rfl rfl) rfl rfl rfl ?_
  refine KL.op (R.assign rfl rfl) rfl rfl rfl ?_
  refine KL.op (R.assign rfl rfl) rfl rfl rfl ?_
  refine KL.nil ?_
  refine KQ.seq ?_
  refine KC.ret ?_
  refine KQ.ofRet ?_
  refine KQ.fin2 Try.results31 rfl rfl ?_
  exact ⟨rfl, rfl⟩

set_option maxRecDepth 100000 in
set_option maxHeartbeats 4000000 in
theorem Repeat_any {H : Heap} (x : Int) (n : Nat) (hn : n ≤ 1024) (v : Value) (hs : Sl 1 (EInt .i64) H v [x]) : Ct Try.prog 26 [v, .int .i64 (n : Nat)] H (fun u H' => Own 1 (EInt .i64) 2 #[] H.size H' u (List.replicate n x) ∧ Old H H') := by
  refine Ct.mk Try.func26 rfl Try.ntmps26 rfl ?_
  intro W0 hW0
  have o0 : Old H H := Old.refl H
  refine KC.seq ?_
  refine KC.region ?_
  refine KL.op (R.assign rfl rfl) rfl rfl rfl ?_
  refine KL.nil ?_
  refine KQ.seq ?_
  refine KC.seq ?_
  refine KC.seq ?_
  refine KC.region ?_
  refine KL.op (R.move rfl rfl) rfl rfl rfl ?_
  refine KL.op ((R.lss rfl rfl rfl).val (congrArg Value.bool (decide_eq_false (by omega)))) rfl rfl rfl ?_
  refine KL.nil ?_
  refine KQ.seq ?_
  refine KC.condF rfl ?_
  refine KC.skip ?_
  refine KQ.seq ?_
  refine KC.seq ?_
  refine KC.region ?_
  refine KL.op (R.move rfl rfl) rfl rfl rfl ?_
  refine KL.op ((R.lenS rfl Try.underlying42 rfl hs).val (congrArg (Value.int .i64) (show (([x].length : Nat) : Int) = 1 from rfl))) rfl rfl rfl ?_
  refine KL.op (R.convI rfl Try.underlying3 Try.underlying88 rfl (by dsimp only [InR]; omega)) rfl rfl rfl ?_
  refine KL.op (R.move rfl rfl) rfl rfl rfl ?_
  refine KL.op (R.convI rfl Try.underlying3 Try.underlying88 rfl (by dsimp only [InR]; omega)) rfl rfl rfl ?_
  refine KL.call rfl rfl rfl rfl Try.call31 rfl rfl rfl (Mul_1 n hn) ?_
  rintro _ _ ⟨rfl, rfl⟩
  refine KL.op (R.move rfl rfl) rfl rfl rfl ?_
  refine KL.op (R.extract rfl rfl rfl) rfl rfl rfl ?_
  refine KL.op (R.extract rfl rfl rfl) rfl rfl rfl ?_
  refine KL.op (R.assign rfl rfl) rfl rfl rfl ?_
  refine KL.op (R.assign rfl rfl) rfl rfl rfl ?_
  refine KL.nil ?_
  refine KQ.seq ?_
  refine KC.seq ?_
  refine KC.seq ?_
  refine KC.region ?_
  refine KL.op (R.move rfl rfl) rfl rfl rfl ?_
  refine KL.op ((R.gtr rfl rfl rfl).val (congrArg Value.bool (decide_eq_false (by decide)))) rfl rfl rfl ?_
  refine KL.op (R.move rfl rfl) rfl rfl rfl ?_
  refine KL.op (R.move rfl rfl) rfl rfl rfl ?_
  refine KL.op ((R.gtr rfl rfl rfl).val (congrArg Value.bool (decide_eq_false (by omega)))) rfl rfl rfl ?_
  refine KL.op (R.pick rfl rfl rfl) rfl rfl rfl ?_
  refine KL.nil ?_
  refine KQ.seq ?_
  refine KC.condF rfl ?_
  refine KC.skip ?_
  refine KQ.seq ?_
  refine KC.seq ?_
  refine KC.region ?_
  refine KL.op (R.move rfl rfl) rfl rfl rfl ?_
  refine KL.op (R.convI rfl Try.underlying88 Try.underlying3 rfl (by dsimp only [InR]; omega)) rfl rfl rfl ?_
  refine KL.opM (M.make rfl Try.underlying42 inf2 rfl rfl rfl (by omega) (by omega) (by omega) (by omega)) rfl rfl rfl ?_
  rintro _ H1 ⟨rfl, n1⟩
  have z1 := n1.2.1
  have o0 := o0.trans n1.1
  have b1 := n1.2.2
  have bz := b1
  have wv : Own 1 (EInt .i64) 2 #[] H.size H1 _ (List.replicate n 0) := Own.made (m := n) (x := (0 : Int)) n1 (Nat.le_refl _) (by unfold maxLen; omega) ⟨rfl, by dsimp only [InR]; omega⟩
  refine KL.op (R.assign rfl rfl) rfl rfl rfl ?_
  refine KL.nil ?_
  refine KQ.seq ?_
  refine KC.seq ?_
  refine KC.region ?_
  refine KL.op (R.move rfl rfl) rfl rfl rfl ?_
  refine KL.op (R.move rfl rfl) rfl rfl rfl ?_
  have hvb : vblock (Value.slice (some ⟨Array.size H, 0, none⟩) n n) = Array.size H := rfl
  refine KL.opM (M.copyMin (m := List.replicate (min n 1) x) (s := [x]) (p := 0) (d := n) (by cases n with | zero => rfl | succ n => simp [show min (n + 1) 1 = 1 by omega]) rfl Try.underlying42 sz2 (by rw [subV_all n rfl]; rfl) rfl wv (by exact hs.old o0) (by simp)) rfl rfl rfl ?_
  rintro _ H2 ⟨rfl, w2, z2, cc2⟩
  have u2 : Upd (vblock (.slice (some ⟨H.size, 0, none⟩) n n)) H1 H2 := ⟨z2, fun i hi => cc2 i (.inr hi)⟩
  have o0 := o0.upd u2 (by omega)
  have zu2 := u2.1
  have wv := w2
  refine KL.op (R.assign rfl rfl) rfl rfl rfl ?_
  refine KL.nil ?_
  refine KQ.seq ?_
  refine KC.seq ?_
  refine KC.block ?_
  refine KC.loopD (κ := Nat) [34, 35, 36, 37, 38, 39, 40, 41, 42, 43, 44, 45, 46, 8] (fun k => [(8, .int .i64 (k : Nat))]) (fun k Hl => k ≤ n ∧ (n = 0 ∨ 1 ≤ k) ∧ Own 1 (EInt .i64) 2 #[] H.size Hl (.slice (some ⟨H.size, 0, none⟩) n n) (List.replicate k x ++ List.replicate (n - k) 0) ∧ Old H Hl) (fun k => n - k) (min n 1) ?_ ?_ ?_
  · exact (Sub.cons (congrArg (fun z => some (Value.int .i64 z)) (show ((List.replicate (min n 1) x).length : Int) = ((min n 1 : Nat) : Int) by simp)) (Ext.sub (Ext.refl _ _)))
  · exact ⟨by omega, by omega, by rw [rep0]; exact wv, o0⟩
  · rintro k H3 ⟨hk, hk1, wv, o0⟩
    have zl_H3 := o0.1
    refine KC.seq ?_
    refine KC.seq ?_
    refine KC.region ?_
    refine KL.op (R.move rfl rfl) rfl rfl rfl ?_
    refine KL.op (R.move rfl rfl) rfl rfl rfl ?_
    refine KL.op ((R.lenO rfl Try.underlying42 rfl wv).val (congrArg (Value.int .i64) (show (((List.replicate k x ++ List.replicate (n - k) 0).length : Nat) : Int) = (n : Int) by simp; omega))) rfl rfl rfl ?_
    refine KL.op (R.lss rfl rfl rfl) rfl rfl rfl ?_
    refine KL.nil ?_
    refine KQ.seq ?_
    refine KC.iteL rfl ?_ ?_
    · intro hc37
      try simp only [decide_eq_true_eq, decide_eq_false_iff_not, Bool.not_eq_true', Bool.not_eq_false', Bool.and_eq_true, Bool.or_eq_false_iff] at hc37
      have hk3 : 1 ≤ k ∧ k < n := by omega
      refine KC.skip ?_
      refine KQ.seq ?_
      refine KC.block ?_
      have hLl : (List.replicate k x ++ List.replicate (n - k) 0).length = n := by simp; omega
      have wvs := wv.sl (emptyOld _) (by decide)
      have hsrc : Sl 1 (EInt .i64) H3 (subV 1 (.slice (some ⟨Array.size H, 0, none⟩) n n) 0 k) (List.replicate k x) := by
        have h := wvs.sub (lo := 0) (hi := k) (Nat.zero_le _) (by omega)
        rw [List.drop_zero, List.take_left' (by simp)] at h
        exact h
      refine KC.text (clOf [(7, 2)]) (fun _ _ => True) (by kernel_rfl) (by kernel_rfl) (fun _ => trivial) ?_
      refine KP.op rfl (fun Hg hg => R.move rfl rfl) rfl rfl rfl ?_
      refine KP.op rfl (fun Hg hg => R.move rfl rfl) rfl rfl rfl ?_
      refine KP.op rfl (fun Hg hg => R.move rfl rfl) rfl rfl rfl ?_
      refine KP.op rfl (fun Hg hg => R.slice (i := k) (j := n) rfl Try.underlying42 sz2 rfl wvs (bnd.mk rfl rfl) (by rw [hLl]; exact bnd.no) (by omega) (by omega)) rfl rfl rfl ?_
      refine KP.op rfl (fun Hg hg => R.move rfl rfl) rfl rfl rfl ?_
      refine KP.op rfl (fun Hg hg => R.move rfl rfl) rfl rfl rfl ?_
      refine KP.op rfl (fun Hg hg => R.slice (i := 0) (j := k) rfl Try.underlying42 sz2 rfl wvs bnd.no (bnd.mk rfl rfl) (by omega) (by omega)) rfl rfl rfl ?_
      have hvb : vblock (Value.slice (some ⟨Array.size H, 0, none⟩) n n) = Array.size H := rfl
      refine KP.opM rfl (M.copyMin (m := List.replicate (min k (n - k)) x) (s := List.replicate k x) (p := k) (d := n - k) (by rw [List.take_replicate, Nat.min_comm]) rfl Try.underlying42 sz2 (by show _ = some (subV 1 _ k (k + (n - k))); rw [show k + (n - k) = n by omega]; rfl) rfl wv (by exact hsrc) (by omega)) rfl rfl rfl (fun _ _ _ _ _ _ => trivial) ?_
      rintro _ H4 ⟨rfl, w4, z4, cc4⟩
      have u4 : Upd (vblock (.slice (some ⟨H.size, 0, none⟩) n n)) H3 H4 := ⟨z4, fun i hi => cc4 i (.inr hi)⟩
      have o0 := o0.upd u4 (by omega)
      have zu4 := u4.1
      have wv := w4
      refine KP.op rfl (fun Hg hg => (R.add rfl rfl rfl (by dsimp only [InR]; simp only [List.length_replicate]; omega)).val (congrArg (Value.int .i64) (show (k : Int) + ((List.replicate (min k (n - k)) x).length : Nat) = ((k + min k (n - k) : Nat) : Int) by simp only [List.length_replicate]; omega))) rfl rfl rfl ?_
      refine KP.op rfl (fun Hg hg => R.assign rfl rfl) rfl rfl rfl ?_
      refine KP.nil ?_
      refine KQ.normBlock ?_
      refine KQ.again (k + min k (n - k)) ?_ ?_ ?_
      · exact (Sub.cons rfl (Ext.sub (by repeat (first | exact Ext.refl _ _ | refine Ext.put rfl ?_ | refine Ext.drop rfl ?_))))
      · omega
      · exact ⟨by omega, by omega, by rw [← rep_put x (by omega)]; exact wv, o0⟩
    · intro hc37
      try simp only [decide_eq_true_eq, decide_eq_false_iff_not, Bool.not_eq_true', Bool.not_eq_false', Bool.and_eq_true, Bool.or_eq_false_iff] at hc37
      have hkn : k = n := by omega
      subst hkn
      rw [Nat.sub_self, List.replicate_zero, List.append_nil] at wv
      refine KC.exit ?_
      refine KQ.exitThen ?_
      refine KQ.exitThen ?_
      refine KQ.hit ?_
      refine KQ.seq ?_
      refine KC.seq ?_
      refine KC.region ?_
      refine KL.op (R.move rfl rfl) rfl rfl rfl ?_
      refine KL.op (R.assign rfl rfl) rfl rfl rfl ?_
      refine KL.nil ?_
      refine KQ.seq ?_
      refine KC.ret ?_
      refine KQ.ofRet ?_
      refine KQ.fin1 Try.results26 rfl ?_
      exact ⟨wv, o0⟩

end Go.Proofs.Yticnkojpfmkjeaa
