/- The document's Bits. No condition but sizes. -/
import Derived.Test.YtkkhjaiaicmpaaaDoorWordU
namespace Go.Proofs.YtkkhjaiaicmpaaaDoor
open Go Go.RowKit
set_option linter.unusedVariables false
set_option linter.unusedSimpArgs false
set_option linter.unnecessarySimpa false

namespace Wr
/-- the document's i-th bit -/
def bitF (kd a b n i : Nat) : Nat :=
  if kd = 0 then bit a i * bit b i else if kd = 1 then (if 0 < bit a i + bit b i then 1 else 0) else if kd = 2 then (if bit a i = bit b i then 0 else 1)
  else if kd = 3 then (if b % n ≤ i then bit a (i - b % n) else 0) else if kd = 4 then (if i + b % n < n then bit a (i + b % n) else bit a (n - 1)) else if kd = 5 then (if i + b % n < n then bit a (i + b % n) else 0)
  else if kd = 6 then bit a ((i + n - b % n) % n) else bit a ((i + b % n) % n)
def rows (kd a b n k : Nat) : List Int := (List.range k).map fun i => ((bitF kd a b n i : Nat) : Int)
theorem rows_len (kd a b n k : Nat) : (rows kd a b n k).length = k := by simp [rows]
theorem rows_succ (kd a b n k : Nat) : rows kd a b n (k + 1) = rows kd a b n k ++ [((bitF kd a b n k : Nat) : Int)] := by
  unfold rows
  rw [List.range_succ, List.map_append]; rfl
theorem bitF_lt (kd a b n i : Nat) : bitF kd a b n i ≤ 1 := by
  have h : ∀ x j, bit x j ≤ 1 := fun x j => by have := bit_lt x j; omega
  unfold bitF
  repeat' split
  all_goals first
    | exact h _ _
    | omega
    | (have h1 := h a i; have h2 := h b i; rcases Nat.le_one_iff_eq_zero_or_eq_one.1 h1 with e | e <;> rw [e] <;> omega)
theorem rows_R (kd a b n k : Nat) : ∀ x ∈ rows kd a b n k, 0 ≤ x ∧ x ≤ 1 := by
  intro x hx
  unfold rows at hx
  obtain ⟨i, _, rfl⟩ := List.mem_map.1 hx
  have := bitF_lt kd a b n i
  exact ⟨Int.natCast_nonneg _, by omega⟩
theorem mulbit (a b i : Nat) : ((bit a i : Nat) : Int) * ((bit b i : Nat) : Int) = ((bit a i * bit b i : Nat) : Int) := (Int.natCast_mul _ _).symm
end Wr

set_option maxRecDepth 100000 in
set_option maxHeartbeats 4000000 in
theorem Bits32_0 {H : Heap} (a b : Nat) (ha : a < 4294967296) (hb : b < 4294967296) : Ct Tryd.prog 27 [.int .i64 0, .int .u64 (a : Nat), .int .u64 (b : Nat), .int .i64 32] H (fun u H' => u = .int .u64 (Wr.with_ (Wr.rows 0 a b 32 32)) ∧ Old H H') := by
  refine Ct.mk Tryd.func27 rfl Tryd.ntmps27 rfl ?_
  intro W0 hW0
  have o0 : Old H H := Old.refl H
  have ha2 : a < 18446744073709551616 := by omega
  have hb2 : b < 18446744073709551616 := by omega
  refine KC.seq (KC.region (KL.op (R.assign rfl rfl) rfl rfl rfl (KL.nil (KQ.seq (KC.seq (KC.region (KL.op (R.move rfl rfl) rfl rfl rfl (KL.op (R.move rfl rfl) rfl rfl rfl ?_))))))))
  refine KL.op (R.convI rfl Tryd.underlying3 Tryd.underlying22 rfl (by dsimp only [InR]; omega)) rfl rfl rfl ?_
  refine KL.op ((R.rem rfl rfl rfl (Int.natCast_nonneg _) (by decide)).val (congrArg (Value.int .u64) (show ((b : Nat) : Int) % 32 = ((b % 32 : Nat) : Int) by omega))) rfl rfl rfl ?_
  refine KL.op (R.convI rfl Tryd.underlying22 Tryd.underlying3 rfl (by dsimp only [InR]; omega)) rfl rfl rfl ?_
  refine KL.op (R.assign rfl rfl) rfl rfl rfl (KL.nil (KQ.seq (KC.seq (KC.region (KL.op (R.assign rfl rfl) rfl rfl rfl (KL.nil (KQ.seq (KC.seq (KC.seq ?_)))))))))
  refine KC.region (KL.op (R.assign rfl rfl) rfl rfl rfl (KL.nil (KQ.seq (KC.block ?_))))
  refine KC.loopD (κ := Nat × Value) [20, 21, 22, 25, 26, 27, 28, 29, 30, 12, 13, 14, 31, 33, 32, 34, 35, 36, 38, 37, 39, 40, 41, 42, 43, 45, 44, 46, 47, 48, 49, 51, 50, 52, 53, 54, 55, 56, 57, 58, 59, 61, 60, 62, 63, 64, 65, 66, 67, 68, 69, 70, 71, 72, 73, 74, 75, 76, 77, 78, 80, 79, 81, 82, 83, 84, 85, 86, 87, 88, 89, 91, 90, 92, 93, 94, 95, 96, 97, 98, 99, 100, 101, 102, 10, 23, 24, 11] (fun k => [(11, .int .i64 (k.1 : Nat)), (10, k.2)]) (fun k Hl => k.1 ≤ 32 ∧ Old H Hl ∧ Own 1 (EInt .u64) 22 #[] H.size Hl k.2 (Wr.rows 0 a b 32 k.1)) (fun k => 32 - k.1) (0, .slice none 0 0) ?_ ?_ ?_
  · exact (Sub.cons rfl (Sub.cons rfl (Ext.sub (Ext.refl _ _))))
  · exact ⟨Nat.zero_le _, o0, Own.nil _ _ _ _ _ _⟩
  · rintro ⟨k, v⟩ H1 ⟨hk, o0, wv⟩
    have zl_H1 := o0.1
    dsimp only at hk wv
    have zl := o0.1
    have hrl := Wr.rows_len 0 a b 32 k
    refine KC.seq (KC.seq (KC.region (KL.op (R.move rfl rfl) rfl rfl rfl (KL.op (R.move rfl rfl) rfl rfl rfl ?_))))
    refine KL.op (R.lss rfl rfl rfl) rfl rfl rfl ?_
    refine KL.nil (KQ.seq ?_)
    refine KC.iteL rfl ?_ ?_
    · intro hc22
      try simp only [decide_eq_true_eq, decide_eq_false_iff_not, Bool.not_eq_true', Bool.not_eq_false', Bool.and_eq_true, Bool.or_eq_false_iff] at hc22
      refine KC.skip ?_
      refine KQ.seq (KC.seq (KC.block (KC.seq (KC.region (KL.op (R.move rfl rfl) rfl rfl rfl (KL.op (R.move rfl rfl) rfl rfl rfl ?_))))))
      refine KL.call rfl rfl rfl rfl Tryd.call55 rfl rfl rfl (bit_k a k ha2 (by omega)) ?_
      rintro _ _ ⟨rfl, rfl⟩
      refine KL.op (R.move rfl rfl) rfl rfl rfl (KL.op (R.move rfl rfl) rfl rfl rfl ?_)
      refine KL.call rfl rfl rfl rfl Tryd.call55 rfl rfl rfl (bit_k b k hb2 (by omega)) ?_
      rintro _ _ ⟨rfl, rfl⟩
      refine KL.op (R.assign rfl rfl) rfl rfl rfl (KL.op (R.assign rfl rfl) rfl rfl rfl (KL.nil (KQ.seq (KC.seq (KC.region (KL.op (R.assign rfl rfl) rfl rfl rfl (KL.nil (KQ.seq (KC.seq ?_)))))))))
      refine KC.seq (KC.region (KL.op (R.move rfl rfl) rfl rfl rfl (KL.nil (KQ.seq (KC.block (KC.seq (KC.region ?_)))))))
      refine KL.op ((R.eql rfl rfl rfl).val (congrArg Value.bool (decide_eq_true (by decide)))) rfl rfl rfl ?_
      refine KL.op (R.assign rfl rfl) rfl rfl rfl (KL.nil (KQ.seq (KC.condT rfl (KC.region (KL.op (R.move rfl rfl) rfl rfl rfl (KL.op (R.move rfl rfl) rfl rfl rfl ?_))))))
      have hba := Wr.bit_lt a k
      have hbb := Wr.bit_lt b k
      have hmm : Wr.bit a k * Wr.bit b k ≤ 1 := Wr.bitF_lt 0 a b 32 k
      refine KL.op ((R.mul rfl rfl rfl (by rw [Wr.mulbit]; dsimp only [InR]; omega)).val (congrArg (Value.int .u64) (Wr.mulbit a b k))) rfl rfl rfl ?_
      refine KL.op (R.assign rfl rfl) rfl rfl rfl (KL.nil (KQ.normBlock (KQ.seq ?_)))
      have hbf : Wr.bitF 0 a b 32 k = Wr.bit a k * Wr.bit b k := rfl
      have hb1 := Wr.bitF_lt 0 a b 32 k
      have zv := wv.lt
      refine KC.region (KL.op (R.move rfl rfl) rfl rfl rfl (KL.op (R.move rfl rfl) rfl rfl rfl ?_))
      refine KL.opM (M.lit rfl Tryd.underlying61 zs22 (by decide) rfl rfl rfl) rfl rfl rfl ?_
      rintro _ H2 ⟨rfl, n2⟩
      have z2 := n2.2.1
      have o0 := o0.trans n2.1
      have wv := wv.old n2.1
      have b2 := n2.2.2
      have h1 : Sl 1 (EInt .u64) H2 _ [((Wr.bit a k * Wr.bit b k : Nat) : Int)] := Sl.lits (l := [((Wr.bit a k * Wr.bit b k : Nat) : Int)]) n2 rfl (by simp) (by intro x hx; simp only [List.mem_cons, List.not_mem_nil, or_false] at hx; subst hx; rw [← hbf]; dsimp only [InR]; omega)
      have lt3 := wv.lt
      refine KL.opM (M.append rfl Tryd.underlying61 inf22 rfl (by decide) rfl rfl wv (by exact h1) (fun _ _ h _ => h) (by omega) (by simp only [List.length_singleton]; omega) (by unfold maxLen; simp only [List.length_singleton]; omega)) rfl rfl rfl ?_
      rintro vn H3 ⟨w3, g3⟩
      try dsimp only at g3
      have ob3 := g3.oldB wv (by omega)
      have o0 := o0.then ob3 (by omega)
      have z3 := ob3.1
      have wv := w3
      refine KL.op (R.assign rfl rfl) rfl rfl rfl (KL.nil (KQ.normBlock (KQ.seq (KC.region (KL.op (R.move rfl rfl) rfl rfl rfl ?_)))))
      refine KL.op ((R.add rfl rfl rfl (by dsimp only [InR]; omega)).val (congrArg (Value.int .i64) (show (k : Int) + 1 = ((k + 1 : Nat) : Int) by omega))) rfl rfl rfl ?_
      refine KL.op (R.assign rfl rfl) rfl rfl rfl (KL.nil ?_)
      refine KQ.again ((k + 1, vn)) ?_ ?_ ?_
      · exact (Sub.cons rfl (Sub.cons rfl (Ext.sub (by repeat (first | exact Ext.refl _ _ | refine Ext.put rfl ?_ | refine Ext.drop rfl ?_)))))
      · show 32 - (k + 1) < 32 - k; omega
      · exact ⟨by show k + 1 ≤ _; omega, o0, by dsimp only; rw [Wr.rows_succ, hbf]; exact wv⟩
    · intro hc22
      try simp only [decide_eq_true_eq, decide_eq_false_iff_not, Bool.not_eq_true', Bool.not_eq_false', Bool.and_eq_true, Bool.or_eq_false_iff] at hc22
      have hkn : k = 32 := by omega
      subst hkn
      refine KC.exit ?_
      refine KQ.exitThen ?_
      refine KQ.exitThen ?_
      refine KQ.hit ?_
      refine KQ.seq (KC.seq (KC.region (KL.op (R.move rfl rfl) rfl rfl rfl ?_)))
      refine KL.call rfl rfl rfl rfl Tryd.call56 rfl rfl rfl (with_k (wv.sl (emptyOld _) (by decide)) (Wr.rows_R _ _ _ _ _) (by rw [Wr.rows_len]; omega)) ?_
      rintro _ _ ⟨rfl, rfl⟩
      refine KL.op (R.assign rfl rfl) rfl rfl rfl (KL.nil (KQ.seq (KC.ret (KQ.ofRet ?_))))
      refine KQ.fin1 Tryd.results27 rfl ?_
      exact ⟨rfl, o0⟩

set_option maxRecDepth 100000 in
set_option maxHeartbeats 4000000 in
theorem Bits32_1 {H : Heap} (a b : Nat) (ha : a < 4294967296) (hb : b < 4294967296) : Ct Tryd.prog 27 [.int .i64 1, .int .u64 (a : Nat), .int .u64 (b : Nat), .int .i64 32] H (fun u H' => u = .int .u64 (Wr.with_ (Wr.rows 1 a b 32 32)) ∧ Old H H') := by
  refine Ct.mk Tryd.func27 rfl Tryd.ntmps27 rfl ?_
  intro W0 hW0
  have o0 : Old H H := Old.refl H
  have ha2 : a < 18446744073709551616 := by omega
  have hb2 : b < 18446744073709551616 := by omega
  refine KC.seq (KC.region (KL.op (R.assign rfl rfl) rfl rfl rfl (KL.nil (KQ.seq (KC.seq (KC.region (KL.op (R.move rfl rfl) rfl rfl rfl (KL.op (R.move rfl rfl) rfl rfl rfl ?_))))))))
  refine KL.op (R.convI rfl Tryd.underlying3 Tryd.underlying22 rfl (by dsimp only [InR]; omega)) rfl rfl rfl ?_
  refine KL.op ((R.rem rfl rfl rfl (Int.natCast_nonneg _) (by decide)).val (congrArg (Value.int .u64) (show ((b : Nat) : Int) % 32 = ((b % 32 : Nat) : Int) by omega))) rfl rfl rfl ?_
  refine KL.op (R.convI rfl Tryd.underlying22 Tryd.underlying3 rfl (by dsimp only [InR]; omega)) rfl rfl rfl ?_
  refine KL.op (R.assign rfl rfl) rfl rfl rfl (KL.nil (KQ.seq (KC.seq (KC.region (KL.op (R.assign rfl rfl) rfl rfl rfl (KL.nil (KQ.seq (KC.seq (KC.seq ?_)))))))))
  refine KC.region (KL.op (R.assign rfl rfl) rfl rfl rfl (KL.nil (KQ.seq (KC.block ?_))))
  refine KC.loopD (κ := Nat × Value) [20, 21, 22, 25, 26, 27, 28, 29, 30, 12, 13, 14, 31, 33, 32, 34, 35, 36, 38, 37, 39, 40, 41, 42, 43, 45, 44, 46, 47, 48, 49, 51, 50, 52, 53, 54, 55, 56, 57, 58, 59, 61, 60, 62, 63, 64, 65, 66, 67, 68, 69, 70, 71, 72, 73, 74, 75, 76, 77, 78, 80, 79, 81, 82, 83, 84, 85, 86, 87, 88, 89, 91, 90, 92, 93, 94, 95, 96, 97, 98, 99, 100, 101, 102, 10, 23, 24, 11] (fun k => [(11, .int .i64 (k.1 : Nat)), (10, k.2)]) (fun k Hl => k.1 ≤ 32 ∧ Old H Hl ∧ Own 1 (EInt .u64) 22 #[] H.size Hl k.2 (Wr.rows 1 a b 32 k.1)) (fun k => 32 - k.1) (0, .slice none 0 0) ?_ ?_ ?_
  · exact (Sub.cons rfl (Sub.cons rfl (Ext.sub (Ext.refl _ _))))
  · exact ⟨Nat.zero_le _, o0, Own.nil _ _ _ _ _ _⟩
  · rintro ⟨k, v⟩ H1 ⟨hk, o0, wv⟩
    have zl_H1 := o0.1
    dsimp only at hk wv
    have zl := o0.1
    have hrl := Wr.rows_len 1 a b 32 k
    refine KC.seq (KC.seq (KC.region (KL.op (R.move rfl rfl) rfl rfl rfl (KL.op (R.move rfl rfl) rfl rfl rfl ?_))))
    refine KL.op (R.lss rfl rfl rfl) rfl rfl rfl ?_
    refine KL.nil (KQ.seq ?_)
    refine KC.iteL rfl ?_ ?_
    · intro hc22
      try simp only [decide_eq_true_eq, decide_eq_false_iff_not, Bool.not_eq_true', Bool.not_eq_false', Bool.and_eq_true, Bool.or_eq_false_iff] at hc22
      refine KC.skip ?_
      refine KQ.seq (KC.seq (KC.block (KC.seq (KC.region (KL.op (R.move rfl rfl) rfl rfl rfl (KL.op (R.move rfl rfl) rfl rfl rfl ?_))))))
      refine KL.call rfl rfl rfl rfl Tryd.call55 rfl rfl rfl (bit_k a k ha2 (by omega)) ?_
      rintro _ _ ⟨rfl, rfl⟩
      refine KL.op (R.move rfl rfl) rfl rfl rfl (KL.op (R.move rfl rfl) rfl rfl rfl ?_)
      refine KL.call rfl rfl rfl rfl Tryd.call55 rfl rfl rfl (bit_k b k hb2 (by omega)) ?_
      rintro _ _ ⟨rfl, rfl⟩
      refine KL.op (R.assign rfl rfl) rfl rfl rfl (KL.op (R.assign rfl rfl) rfl rfl rfl (KL.nil (KQ.seq (KC.seq (KC.region (KL.op (R.assign rfl rfl) rfl rfl rfl (KL.nil (KQ.seq (KC.seq ?_)))))))))
      refine KC.seq (KC.region (KL.op (R.move rfl rfl) rfl rfl rfl (KL.nil (KQ.seq (KC.block (KC.seq (KC.region ?_)))))))
      refine KL.op ((R.eql rfl rfl rfl).val (congrArg Value.bool (decide_eq_false (by decide)))) rfl rfl rfl ?_
      refine KL.op (R.assign rfl rfl) rfl rfl rfl (KL.nil (KQ.seq (KC.condF rfl (KC.seq (KC.region ?_)))))
      refine KL.op ((R.eql rfl rfl rfl).val (congrArg Value.bool (decide_eq_true (by decide)))) rfl rfl rfl ?_
      refine KL.op (R.assign rfl rfl) rfl rfl rfl (KL.nil (KQ.seq (KC.condT rfl (KC.region (KL.op (R.move rfl rfl) rfl rfl rfl (KL.op (R.move rfl rfl) rfl rfl rfl ?_))))))
      have hba := Wr.bit_lt a k
      have hbb := Wr.bit_lt b k
      refine KL.op (R.add rfl rfl rfl (by dsimp only [InR]; omega)) rfl rfl rfl ?_
      refine KL.op (R.gtr rfl rfl rfl) rfl rfl rfl ?_
      refine KL.call rfl rfl rfl rfl Tryd.call24 rfl rfl rfl (rone_k _) ?_
      rintro _ _ ⟨rfl, rfl⟩
      rw [show Wd.one (decide ((0 : Int) < (Wr.bit a k : Nat) + (Wr.bit b k : Nat))) = ((if 0 < Wr.bit a k + Wr.bit b k then 1 else 0 : Nat) : Int) by unfold Wd.one; by_cases h : 0 < Wr.bit a k + Wr.bit b k <;> simp [h] <;> omega]
      refine KL.op (R.assign rfl rfl) rfl rfl rfl (KL.nil (KQ.normBlock (KQ.seq ?_)))
      have hbf : Wr.bitF 1 a b 32 k = (if 0 < Wr.bit a k + Wr.bit b k then 1 else 0) := rfl
      have hb1 := Wr.bitF_lt 1 a b 32 k
      have zv := wv.lt
      refine KC.region (KL.op (R.move rfl rfl) rfl rfl rfl (KL.op (R.move rfl rfl) rfl rfl rfl ?_))
      refine KL.opM (M.lit rfl Tryd.underlying61 zs22 (by decide) rfl rfl rfl) rfl rfl rfl ?_
      rintro _ H2 ⟨rfl, n2⟩
      have z2 := n2.2.1
      have o0 := o0.trans n2.1
      have wv := wv.old n2.1
      have b2 := n2.2.2
      have h1 : Sl 1 (EInt .u64) H2 _ [(((if 0 < Wr.bit a k + Wr.bit b k then 1 else 0) : Nat) : Int)] := Sl.lits (l := [(((if 0 < Wr.bit a k + Wr.bit b k then 1 else 0) : Nat) : Int)]) n2 rfl (by simp) (by intro x hx; simp only [List.mem_cons, List.not_mem_nil, or_false] at hx; subst hx; rw [← hbf]; dsimp only [InR]; omega)
      have lt3 := wv.lt
      refine KL.opM (M.append rfl Tryd.underlying61 inf22 rfl (by decide) rfl rfl wv (by exact h1) (fun _ _ h _ => h) (by omega) (by simp only [List.length_singleton]; omega) (by unfold maxLen; simp only [List.length_singleton]; omega)) rfl rfl rfl ?_
      rintro vn H3 ⟨w3, g3⟩
      try dsimp only at g3
      have ob3 := g3.oldB wv (by omega)
      have o0 := o0.then ob3 (by omega)
      have z3 := ob3.1
      have wv := w3
      refine KL.op (R.assign rfl rfl) rfl rfl rfl (KL.nil (KQ.normBlock (KQ.seq (KC.region (KL.op (R.move rfl rfl) rfl rfl rfl ?_)))))
      refine KL.op ((R.add rfl rfl rfl (by dsimp only [InR]; omega)).val (congrArg (Value.int .i64) (show (k : Int) + 1 = ((k + 1 : Nat) : Int) by omega))) rfl rfl rfl ?_
      refine KL.op (R.assign rfl rfl) rfl rfl rfl (KL.nil ?_)
      refine KQ.again ((k + 1, vn)) ?_ ?_ ?_
      · exact (Sub.cons rfl (Sub.cons rfl (Ext.sub (by repeat (first | exact Ext.refl _ _ | refine Ext.put rfl ?_ | refine Ext.drop rfl ?_)))))
      · show 32 - (k + 1) < 32 - k; omega
      · exact ⟨by show k + 1 ≤ _; omega, o0, by dsimp only; rw [Wr.rows_succ, hbf]; exact wv⟩
    · intro hc22
      try simp only [decide_eq_true_eq, decide_eq_false_iff_not, Bool.not_eq_true', Bool.not_eq_false', Bool.and_eq_true, Bool.or_eq_false_iff] at hc22
      have hkn : k = 32 := by omega
      subst hkn
      refine KC.exit ?_
      refine KQ.exitThen ?_
      refine KQ.exitThen ?_
      refine KQ.hit ?_
      refine KQ.seq (KC.seq (KC.region (KL.op (R.move rfl rfl) rfl rfl rfl ?_)))
      refine KL.call rfl rfl rfl rfl Tryd.call56 rfl rfl rfl (with_k (wv.sl (emptyOld _) (by decide)) (Wr.rows_R _ _ _ _ _) (by rw [Wr.rows_len]; omega)) ?_
      rintro _ _ ⟨rfl, rfl⟩
      refine KL.op (R.assign rfl rfl) rfl rfl rfl (KL.nil (KQ.seq (KC.ret (KQ.ofRet ?_))))
      refine KQ.fin1 Tryd.results27 rfl ?_
      exact ⟨rfl, o0⟩

set_option maxRecDepth 100000 in
set_option maxHeartbeats 4000000 in
theorem Bits32_2 {H : Heap} (a b : Nat) (ha : a < 4294967296) (hb : b < 4294967296) : Ct Tryd.prog 27 [.int .i64 2, .int .u64 (a : Nat), .int .u64 (b : Nat), .int .i64 32] H (fun u H' => u = .int .u64 (Wr.with_ (Wr.rows 2 a b 32 32)) ∧ Old H H') := by
  refine Ct.mk Tryd.func27 rfl Tryd.ntmps27 rfl ?_
  intro W0 hW0
  have o0 : Old H H := Old.refl H
  have ha2 : a < 18446744073709551616 := by omega
  have hb2 : b < 18446744073709551616 := by omega
  refine KC.seq (KC.region (KL.op (R.assign rfl rfl) rfl rfl rfl (KL.nil (KQ.seq (KC.seq (KC.region (KL.op (R.move rfl rfl) rfl rfl rfl (KL.op (R.move rfl rfl) rfl rfl rfl ?_))))))))
  refine KL.op (R.convI rfl Tryd.underlying3 Tryd.underlying22 rfl (by dsimp only [InR]; omega)) rfl rfl rfl ?_
  refine KL.op ((R.rem rfl rfl rfl (Int.natCast_nonneg _) (by decide)).val (congrArg (Value.int .u64) (show ((b : Nat) : Int) % 32 = ((b % 32 : Nat) : Int) by omega))) rfl rfl rfl ?_
  refine KL.op (R.convI rfl Tryd.underlying22 Tryd.underlying3 rfl (by dsimp only [InR]; omega)) rfl rfl rfl ?_
  refine KL.op (R.assign rfl rfl) rfl rfl rfl (KL.nil (KQ.seq (KC.seq (KC.region (KL.op (R.assign rfl rfl) rfl rfl rfl (KL.nil (KQ.seq (KC.seq (KC.seq ?_)))))))))
  refine KC.region (KL.op (R.assign rfl rfl) rfl rfl rfl (KL.nil (KQ.seq (KC.block ?_))))
  refine KC.loopD (κ := Nat × Value) [20, 21, 22, 25, 26, 27, 28, 29, 30, 12, 13, 14, 31, 33, 32, 34, 35, 36, 38, 37, 39, 40, 41, 42, 43, 45, 44, 46, 47, 48, 49, 51, 50, 52, 53, 54, 55, 56, 57, 58, 59, 61, 60, 62, 63, 64, 65, 66, 67, 68, 69, 70, 71, 72, 73, 74, 75, 76, 77, 78, 80, 79, 81, 82, 83, 84, 85, 86, 87, 88, 89, 91, 90, 92, 93, 94, 95, 96, 97, 98, 99, 100, 101, 102, 10, 23, 24, 11] (fun k => [(11, .int .i64 (k.1 : Nat)), (10, k.2)]) (fun k Hl => k.1 ≤ 32 ∧ Old H Hl ∧ Own 1 (EInt .u64) 22 #[] H.size Hl k.2 (Wr.rows 2 a b 32 k.1)) (fun k => 32 - k.1) (0, .slice none 0 0) ?_ ?_ ?_
  · exact (Sub.cons rfl (Sub.cons rfl (Ext.sub (Ext.refl _ _))))
  · exact ⟨Nat.zero_le _, o0, Own.nil _ _ _ _ _ _⟩
  · rintro ⟨k, v⟩ H1 ⟨hk, o0, wv⟩
    have zl_H1 := o0.1
    dsimp only at hk wv
    have zl := o0.1
    have hrl := Wr.rows_len 2 a b 32 k
    refine KC.seq (KC.seq (KC.region (KL.op (R.move rfl rfl) rfl rfl rfl (KL.op (R.move rfl rfl) rfl rfl rfl ?_))))
    refine KL.op (R.lss rfl rfl rfl) rfl rfl rfl ?_
    refine KL.nil (KQ.seq ?_)
    refine KC.iteL rfl ?_ ?_
    · intro hc22
      try simp only [decide_eq_true_eq, decide_eq_false_iff_not, Bool.not_eq_true', Bool.not_eq_false', Bool.and_eq_true, Bool.or_eq_false_iff] at hc22
      refine KC.skip ?_
      refine KQ.seq (KC.seq (KC.block (KC.seq (KC.region (KL.op (R.move rfl rfl) rfl rfl rfl (KL.op (R.move rfl rfl) rfl rfl rfl ?_))))))
      refine KL.call rfl rfl rfl rfl Tryd.call55 rfl rfl rfl (bit_k a k ha2 (by omega)) ?_
      rintro _ _ ⟨rfl, rfl⟩
      refine KL.op (R.move rfl rfl) rfl rfl rfl (KL.op (R.move rfl rfl) rfl rfl rfl ?_)
      refine KL.call rfl rfl rfl rfl Tryd.call55 rfl rfl rfl (bit_k b k hb2 (by omega)) ?_
      rintro _ _ ⟨rfl, rfl⟩
      refine KL.op (R.assign rfl rfl) rfl rfl rfl (KL.op (R.assign rfl rfl) rfl rfl rfl (KL.nil (KQ.seq (KC.seq (KC.region (KL.op (R.assign rfl rfl) rfl rfl rfl (KL.nil (KQ.seq (KC.seq ?_)))))))))
      refine KC.seq (KC.region (KL.op (R.move rfl rfl) rfl rfl rfl (KL.nil (KQ.seq (KC.block (KC.seq (KC.region ?_)))))))
      refine KL.op ((R.eql rfl rfl rfl).val (congrArg Value.bool (decide_eq_false (by decide)))) rfl rfl rfl ?_
      refine KL.op (R.assign rfl rfl) rfl rfl rfl (KL.nil (KQ.seq (KC.condF rfl (KC.seq (KC.region ?_)))))
      refine KL.op ((R.eql rfl rfl rfl).val (congrArg Value.bool (decide_eq_false (by decide)))) rfl rfl rfl ?_
      refine KL.op (R.assign rfl rfl) rfl rfl rfl (KL.nil (KQ.seq (KC.condF rfl (KC.seq (KC.region ?_)))))
      refine KL.op ((R.eql rfl rfl rfl).val (congrArg Value.bool (decide_eq_true (by decide)))) rfl rfl rfl ?_
      refine KL.op (R.assign rfl rfl) rfl rfl rfl (KL.nil (KQ.seq (KC.condT rfl (KC.region (KL.op (R.move rfl rfl) rfl rfl rfl (KL.op (R.move rfl rfl) rfl rfl rfl ?_))))))
      refine KL.op (R.neq rfl rfl rfl) rfl rfl rfl ?_
      refine KL.call rfl rfl rfl rfl Tryd.call24 rfl rfl rfl (rone_k _) ?_
      rintro _ _ ⟨rfl, rfl⟩
      rw [show Wd.one (!decide (((Wr.bit a k : Nat) : Int) = (Wr.bit b k : Nat))) = ((if Wr.bit a k = Wr.bit b k then 0 else 1 : Nat) : Int) by unfold Wd.one; by_cases h : Wr.bit a k = Wr.bit b k <;> simp [h] <;> omega]
      refine KL.op (R.assign rfl rfl) rfl rfl rfl (KL.nil (KQ.normBlock (KQ.seq ?_)))
      have hbf : Wr.bitF 2 a b 32 k = (if Wr.bit a k = Wr.bit b k then 0 else 1) := rfl
      have hb1 := Wr.bitF_lt 2 a b 32 k
      have zv := wv.lt
      refine KC.region (KL.op (R.move rfl rfl) rfl rfl rfl (KL.op (R.move rfl rfl) rfl rfl rfl ?_))
      refine KL.opM (M.lit rfl Tryd.underlying61 zs22 (by decide) rfl rfl rfl) rfl rfl rfl ?_
      rintro _ H2 ⟨rfl, n2⟩
      have z2 := n2.2.1
      have o0 := o0.trans n2.1
      have wv := wv.old n2.1
      have b2 := n2.2.2
      have h1 : Sl 1 (EInt .u64) H2 _ [(((if Wr.bit a k = Wr.bit b k then 0 else 1) : Nat) : Int)] := Sl.lits (l := [(((if Wr.bit a k = Wr.bit b k then 0 else 1) : Nat) : Int)]) n2 rfl (by simp) (by intro x hx; simp only [List.mem_cons, List.not_mem_nil, or_false] at hx; subst hx; rw [← hbf]; dsimp only [InR]; omega)
      have lt3 := wv.lt
      refine KL.opM (M.append rfl Tryd.underlying61 inf22 rfl (by decide) rfl rfl wv (by exact h1) (fun _ _ h _ => h) (by omega) (by simp only [List.length_singleton]; omega) (by unfold maxLen; simp only [List.length_singleton]; omega)) rfl rfl rfl ?_
      rintro vn H3 ⟨w3, g3⟩
      try dsimp only at g3
      have ob3 := g3.oldB wv (by omega)
      have o0 := o0.then ob3 (by omega)
      have z3 := ob3.1
      have wv := w3
      refine KL.op (R.assign rfl rfl) rfl rfl rfl (KL.nil (KQ.normBlock (KQ.seq (KC.region (KL.op (R.move rfl rfl) rfl rfl rfl ?_)))))
      refine KL.op ((R.add rfl rfl rfl (by dsimp only [InR]; omega)).val (congrArg (Value.int .i64) (show (k : Int) + 1 = ((k + 1 : Nat) : Int) by omega))) rfl rfl rfl ?_
      refine KL.op (R.assign rfl rfl) rfl rfl rfl (KL.nil ?_)
      refine KQ.again ((k + 1, vn)) ?_ ?_ ?_
      · exact (Sub.cons rfl (Sub.cons rfl (Ext.sub (by repeat (first | exact Ext.refl _ _ | refine Ext.put rfl ?_ | refine Ext.drop rfl ?_)))))
      · show 32 - (k + 1) < 32 - k; omega
      · exact ⟨by show k + 1 ≤ _; omega, o0, by dsimp only; rw [Wr.rows_succ, hbf]; exact wv⟩
    · intro hc22
      try simp only [decide_eq_true_eq, decide_eq_false_iff_not, Bool.not_eq_true', Bool.not_eq_false', Bool.and_eq_true, Bool.or_eq_false_iff] at hc22
      have hkn : k = 32 := by omega
      subst hkn
      refine KC.exit ?_
      refine KQ.exitThen ?_
      refine KQ.exitThen ?_
      refine KQ.hit ?_
      refine KQ.seq (KC.seq (KC.region (KL.op (R.move rfl rfl) rfl rfl rfl ?_)))
      refine KL.call rfl rfl rfl rfl Tryd.call56 rfl rfl rfl (with_k (wv.sl (emptyOld _) (by decide)) (Wr.rows_R _ _ _ _ _) (by rw [Wr.rows_len]; omega)) ?_
      rintro _ _ ⟨rfl, rfl⟩
      refine KL.op (R.assign rfl rfl) rfl rfl rfl (KL.nil (KQ.seq (KC.ret (KQ.ofRet ?_))))
      refine KQ.fin1 Tryd.results27 rfl ?_
      exact ⟨rfl, o0⟩

set_option maxRecDepth 100000 in
set_option maxHeartbeats 4000000 in
theorem Bits32_3 {H : Heap} (a b : Nat) (ha : a < 4294967296) (hb : b < 4294967296) : Ct Tryd.prog 27 [.int .i64 3, .int .u64 (a : Nat), .int .u64 (b : Nat), .int .i64 32] H (fun u H' => u = .int .u64 (Wr.with_ (Wr.rows 3 a b 32 32)) ∧ Old H H') := by
  refine Ct.mk Tryd.func27 rfl Tryd.ntmps27 rfl ?_
  intro W0 hW0
  have o0 : Old H H := Old.refl H
  have ha2 : a < 18446744073709551616 := by omega
  have hb2 : b < 18446744073709551616 := by omega
  refine KC.seq (KC.region (KL.op (R.assign rfl rfl) rfl rfl rfl (KL.nil (KQ.seq (KC.seq (KC.region (KL.op (R.move rfl rfl) rfl rfl rfl (KL.op (R.move rfl rfl) rfl rfl rfl ?_))))))))
  refine KL.op (R.convI rfl Tryd.underlying3 Tryd.underlying22 rfl (by dsimp only [InR]; omega)) rfl rfl rfl ?_
  refine KL.op ((R.rem rfl rfl rfl (Int.natCast_nonneg _) (by decide)).val (congrArg (Value.int .u64) (show ((b : Nat) : Int) % 32 = ((b % 32 : Nat) : Int) by omega))) rfl rfl rfl ?_
  refine KL.op (R.convI rfl Tryd.underlying22 Tryd.underlying3 rfl (by dsimp only [InR]; omega)) rfl rfl rfl ?_
  refine KL.op (R.assign rfl rfl) rfl rfl rfl (KL.nil (KQ.seq (KC.seq (KC.region (KL.op (R.assign rfl rfl) rfl rfl rfl (KL.nil (KQ.seq (KC.seq (KC.seq ?_)))))))))
  refine KC.region (KL.op (R.assign rfl rfl) rfl rfl rfl (KL.nil (KQ.seq (KC.block ?_))))
  refine KC.loopD (κ := Nat × Value) [20, 21, 22, 25, 26, 27, 28, 29, 30, 12, 13, 14, 31, 33, 32, 34, 35, 36, 38, 37, 39, 40, 41, 42, 43, 45, 44, 46, 47, 48, 49, 51, 50, 52, 53, 54, 55, 56, 57, 58, 59, 61, 60, 62, 63, 64, 65, 66, 67, 68, 69, 70, 71, 72, 73, 74, 75, 76, 77, 78, 80, 79, 81, 82, 83, 84, 85, 86, 87, 88, 89, 91, 90, 92, 93, 94, 95, 96, 97, 98, 99, 100, 101, 102, 10, 23, 24, 11] (fun k => [(11, .int .i64 (k.1 : Nat)), (10, k.2)]) (fun k Hl => k.1 ≤ 32 ∧ Old H Hl ∧ Own 1 (EInt .u64) 22 #[] H.size Hl k.2 (Wr.rows 3 a b 32 k.1)) (fun k => 32 - k.1) (0, .slice none 0 0) ?_ ?_ ?_
  · exact (Sub.cons rfl (Sub.cons rfl (Ext.sub (Ext.refl _ _))))
  · exact ⟨Nat.zero_le _, o0, Own.nil _ _ _ _ _ _⟩
  · rintro ⟨k, v⟩ H1 ⟨hk, o0, wv⟩
    have zl_H1 := o0.1
    dsimp only at hk wv
    have zl := o0.1
    have hrl := Wr.rows_len 3 a b 32 k
    refine KC.seq (KC.seq (KC.region (KL.op (R.move rfl rfl) rfl rfl rfl (KL.op (R.move rfl rfl) rfl rfl rfl ?_))))
    refine KL.op (R.lss rfl rfl rfl) rfl rfl rfl ?_
    refine KL.nil (KQ.seq ?_)
    refine KC.iteL rfl ?_ ?_
    · intro hc22
      try simp only [decide_eq_true_eq, decide_eq_false_iff_not, Bool.not_eq_true', Bool.not_eq_false', Bool.and_eq_true, Bool.or_eq_false_iff] at hc22
      refine KC.skip ?_
      refine KQ.seq (KC.seq (KC.block (KC.seq (KC.region (KL.op (R.move rfl rfl) rfl rfl rfl (KL.op (R.move rfl rfl) rfl rfl rfl ?_))))))
      refine KL.call rfl rfl rfl rfl Tryd.call55 rfl rfl rfl (bit_k a k ha2 (by omega)) ?_
      rintro _ _ ⟨rfl, rfl⟩
      refine KL.op (R.move rfl rfl) rfl rfl rfl (KL.op (R.move rfl rfl) rfl rfl rfl ?_)
      refine KL.call rfl rfl rfl rfl Tryd.call55 rfl rfl rfl (bit_k b k hb2 (by omega)) ?_
      rintro _ _ ⟨rfl, rfl⟩
      refine KL.op (R.assign rfl rfl) rfl rfl rfl (KL.op (R.assign rfl rfl) rfl rfl rfl (KL.nil (KQ.seq (KC.seq (KC.region (KL.op (R.assign rfl rfl) rfl rfl rfl (KL.nil (KQ.seq (KC.seq ?_)))))))))
      refine KC.seq (KC.region (KL.op (R.move rfl rfl) rfl rfl rfl (KL.nil (KQ.seq (KC.block (KC.seq (KC.region ?_)))))))
      refine KL.op ((R.eql rfl rfl rfl).val (congrArg Value.bool (decide_eq_false (by decide)))) rfl rfl rfl ?_
      refine KL.op (R.assign rfl rfl) rfl rfl rfl (KL.nil (KQ.seq (KC.condF rfl (KC.seq (KC.region ?_)))))
      refine KL.op ((R.eql rfl rfl rfl).val (congrArg Value.bool (decide_eq_false (by decide)))) rfl rfl rfl ?_
      refine KL.op (R.assign rfl rfl) rfl rfl rfl (KL.nil (KQ.seq (KC.condF rfl (KC.seq (KC.region ?_)))))
      refine KL.op ((R.eql rfl rfl rfl).val (congrArg Value.bool (decide_eq_false (by decide)))) rfl rfl rfl ?_
      refine KL.op (R.assign rfl rfl) rfl rfl rfl (KL.nil (KQ.seq (KC.condF rfl (KC.seq (KC.region ?_)))))
      refine KL.op ((R.eql rfl rfl rfl).val (congrArg Value.bool (decide_eq_true (by decide)))) rfl rfl rfl ?_
      refine KL.op (R.assign rfl rfl) rfl rfl rfl (KL.nil (KQ.seq (KC.condT rfl (KC.seq (KC.region (KL.op (R.move rfl rfl) rfl rfl rfl (KL.op (R.move rfl rfl) rfl rfl rfl ?_)))))))
      refine KL.op (R.geq rfl rfl rfl) rfl rfl rfl ?_
      refine KL.nil (KQ.seq ?_)
      refine KC.iteL rfl ?_ ?_
      · intro hc54
        try simp only [decide_eq_true_eq, decide_eq_false_iff_not, Bool.not_eq_true', Bool.not_eq_false', Bool.and_eq_true, Bool.or_eq_false_iff] at hc54
        refine KC.region (KL.op (R.move rfl rfl) rfl rfl rfl (KL.op (R.move rfl rfl) rfl rfl rfl (KL.op (R.move rfl rfl) rfl rfl rfl ?_)))
        refine KL.op ((R.sub rfl rfl rfl (by dsimp only [InR]; omega)).val (congrArg (Value.int .i64) (show (k : Int) - (b % 32 : Nat) = ((k - b % 32 : Nat) : Int) by omega))) rfl rfl rfl ?_
        refine KL.call rfl rfl rfl rfl Tryd.call55 rfl rfl rfl (bit_k a (k - (b % 32)) ha2 (by omega)) ?_
        rintro _ _ ⟨rfl, rfl⟩
        refine KL.op (R.assign rfl rfl) rfl rfl rfl (KL.nil (KQ.normBlock (KQ.seq ?_)))
        have hbf : Wr.bitF 3 a b 32 k = Wr.bit a (k - (b % 32)) := (show Wr.bitF 3 a b 32 k = (if b % 32 ≤ k then Wr.bit a (k - b % 32) else 0) from rfl).trans (if_pos (by omega))
        have hb1 := Wr.bitF_lt 3 a b 32 k
        have zv := wv.lt
        refine KC.region (KL.op (R.move rfl rfl) rfl rfl rfl (KL.op (R.move rfl rfl) rfl rfl rfl ?_))
        refine KL.opM (M.lit rfl Tryd.underlying61 zs22 (by decide) rfl rfl rfl) rfl rfl rfl ?_
        rintro _ H2 ⟨rfl, n2⟩
        have z2 := n2.2.1
        have o0 := o0.trans n2.1
        have wv := wv.old n2.1
        have b2 := n2.2.2
        have h1 : Sl 1 (EInt .u64) H2 _ [((Wr.bit a (k - (b % 32)) : Nat) : Int)] := Sl.lits (l := [((Wr.bit a (k - (b % 32)) : Nat) : Int)]) n2 rfl (by simp) (by intro x hx; simp only [List.mem_cons, List.not_mem_nil, or_false] at hx; subst hx; rw [← hbf]; dsimp only [InR]; omega)
        have lt3 := wv.lt
        refine KL.opM (M.append rfl Tryd.underlying61 inf22 rfl (by decide) rfl rfl wv (by exact h1) (fun _ _ h _ => h) (by omega) (by simp only [List.length_singleton]; omega) (by unfold maxLen; simp only [List.length_singleton]; omega)) rfl rfl rfl ?_
        rintro vn H3 ⟨w3, g3⟩
        try dsimp only at g3
        have ob3 := g3.oldB wv (by omega)
        have o0 := o0.then ob3 (by omega)
        have z3 := ob3.1
        have wv := w3
        refine KL.op (R.assign rfl rfl) rfl rfl rfl (KL.nil (KQ.normBlock (KQ.seq (KC.region (KL.op (R.move rfl rfl) rfl rfl rfl ?_)))))
        refine KL.op ((R.add rfl rfl rfl (by dsimp only [InR]; omega)).val (congrArg (Value.int .i64) (show (k : Int) + 1 = ((k + 1 : Nat) : Int) by omega))) rfl rfl rfl ?_
        refine KL.op (R.assign rfl rfl) rfl rfl rfl (KL.nil ?_)
        refine KQ.again ((k + 1, vn)) ?_ ?_ ?_
        · exact (Sub.cons rfl (Sub.cons rfl (Ext.sub (by repeat (first | exact Ext.refl _ _ | refine Ext.put rfl ?_ | refine Ext.drop rfl ?_)))))
        · show 32 - (k + 1) < 32 - k; omega
        · exact ⟨by show k + 1 ≤ _; omega, o0, by dsimp only; rw [Wr.rows_succ, hbf]; exact wv⟩
      · intro hc54
        try simp only [decide_eq_true_eq, decide_eq_false_iff_not, Bool.not_eq_true', Bool.not_eq_false', Bool.and_eq_true, Bool.or_eq_false_iff] at hc54
        refine KC.skip ?_
        refine KQ.normBlock (KQ.seq ?_)
        have hbf : Wr.bitF 3 a b 32 k = 0 := (show Wr.bitF 3 a b 32 k = (if b % 32 ≤ k then Wr.bit a (k - b % 32) else 0) from rfl).trans (if_neg (by omega))
        have hb1 := Wr.bitF_lt 3 a b 32 k
        have zv := wv.lt
        refine KC.region (KL.op (R.move rfl rfl) rfl rfl rfl (KL.op (R.move rfl rfl) rfl rfl rfl ?_))
        refine KL.opM (M.lit rfl Tryd.underlying61 zs22 (by decide) rfl rfl rfl) rfl rfl rfl ?_
        rintro _ H4 ⟨rfl, n4⟩
        have z4 := n4.2.1
        have o0 := o0.trans n4.1
        have wv := wv.old n4.1
        have b4 := n4.2.2
        have h1 : Sl 1 (EInt .u64) H4 _ [((0 : Nat) : Int)] := Sl.lits (l := [((0 : Nat) : Int)]) n4 rfl (by simp) (by intro x hx; simp only [List.mem_cons, List.not_mem_nil, or_false] at hx; subst hx; rw [← hbf]; dsimp only [InR]; omega)
        have lt5 := wv.lt
        refine KL.opM (M.append rfl Tryd.underlying61 inf22 rfl (by decide) rfl rfl wv (by exact h1) (fun _ _ h _ => h) (by omega) (by simp only [List.length_singleton]; omega) (by unfold maxLen; simp only [List.length_singleton]; omega)) rfl rfl rfl ?_
        rintro vn H5 ⟨w5, g5⟩
        try dsimp only at g5
        have ob5 := g5.oldB wv (by omega)
        have o0 := o0.then ob5 (by omega)
        have z5 := ob5.1
        have wv := w5
        refine KL.op (R.assign rfl rfl) rfl rfl rfl (KL.nil (KQ.normBlock (KQ.seq (KC.region (KL.op (R.move rfl rfl) rfl rfl rfl ?_)))))
        refine KL.op ((R.add rfl rfl rfl (by dsimp only [InR]; omega)).val (congrArg (Value.int .i64) (show (k : Int) + 1 = ((k + 1 : Nat) : Int) by omega))) rfl rfl rfl ?_
        refine KL.op (R.assign rfl rfl) rfl rfl rfl (KL.nil ?_)
        refine KQ.again ((k + 1, vn)) ?_ ?_ ?_
        · exact (Sub.cons rfl (Sub.cons rfl (Ext.sub (by repeat (first | exact Ext.refl _ _ | refine Ext.put rfl ?_ | refine Ext.drop rfl ?_)))))
        · show 32 - (k + 1) < 32 - k; omega
        · exact ⟨by show k + 1 ≤ _; omega, o0, by dsimp only; rw [Wr.rows_succ, hbf]; exact wv⟩
    · intro hc22
      try simp only [decide_eq_true_eq, decide_eq_false_iff_not, Bool.not_eq_true', Bool.not_eq_false', Bool.and_eq_true, Bool.or_eq_false_iff] at hc22
      have hkn : k = 32 := by omega
      subst hkn
      refine KC.exit ?_
      refine KQ.exitThen ?_
      refine KQ.exitThen ?_
      refine KQ.hit ?_
      refine KQ.seq (KC.seq (KC.region (KL.op (R.move rfl rfl) rfl rfl rfl ?_)))
      refine KL.call rfl rfl rfl rfl Tryd.call56 rfl rfl rfl (with_k (wv.sl (emptyOld _) (by decide)) (Wr.rows_R _ _ _ _ _) (by rw [Wr.rows_len]; omega)) ?_
      rintro _ _ ⟨rfl, rfl⟩
      refine KL.op (R.assign rfl rfl) rfl rfl rfl (KL.nil (KQ.seq (KC.ret (KQ.ofRet ?_))))
      refine KQ.fin1 Tryd.results27 rfl ?_
      exact ⟨rfl, o0⟩

set_option maxRecDepth 100000 in
set_option maxHeartbeats 4000000 in
theorem Bits32_4 {H : Heap} (a b : Nat) (ha : a < 4294967296) (hb : b < 4294967296) : Ct Tryd.prog 27 [.int .i64 4, .int .u64 (a : Nat), .int .u64 (b : Nat), .int .i64 32] H (fun u H' => u = .int .u64 (Wr.with_ (Wr.rows 4 a b 32 32)) ∧ Old H H') := by
  refine Ct.mk Tryd.func27 rfl Tryd.ntmps27 rfl ?_
  intro W0 hW0
  have o0 : Old H H := Old.refl H
  have ha2 : a < 18446744073709551616 := by omega
  have hb2 : b < 18446744073709551616 := by omega
  refine KC.seq (KC.region (KL.op (R.assign rfl rfl) rfl rfl rfl (KL.nil (KQ.seq (KC.seq (KC.region (KL.op (R.move rfl rfl) rfl rfl rfl (KL.op (R.move rfl rfl) rfl rfl rfl ?_))))))))
  refine KL.op (R.convI rfl Tryd.underlying3 Tryd.underlying22 rfl (by dsimp only [InR]; omega)) rfl rfl rfl ?_
  refine KL.op ((R.rem rfl rfl rfl (Int.natCast_nonneg _) (by decide)).val (congrArg (Value.int .u64) (show ((b : Nat) : Int) % 32 = ((b % 32 : Nat) : Int) by omega))) rfl rfl rfl ?_
  refine KL.op (R.convI rfl Tryd.underlying22 Tryd.underlying3 rfl (by dsimp only [InR]; omega)) rfl rfl rfl ?_
  refine KL.op (R.assign rfl rfl) rfl rfl rfl (KL.nil (KQ.seq (KC.seq (KC.region (KL.op (R.assign rfl rfl) rfl rfl rfl (KL.nil (KQ.seq (KC.seq (KC.seq ?_)))))))))
  refine KC.region (KL.op (R.assign rfl rfl) rfl rfl rfl (KL.nil (KQ.seq (KC.block ?_))))
  refine KC.loopD (κ := Nat × Value) [20, 21, 22, 25, 26, 27, 28, 29, 30, 12, 13, 14, 31, 33, 32, 34, 35, 36, 38, 37, 39, 40, 41, 42, 43, 45, 44, 46, 47, 48, 49, 51, 50, 52, 53, 54, 55, 56, 57, 58, 59, 61, 60, 62, 63, 64, 65, 66, 67, 68, 69, 70, 71, 72, 73, 74, 75, 76, 77, 78, 80, 79, 81, 82, 83, 84, 85, 86, 87, 88, 89, 91, 90, 92, 93, 94, 95, 96, 97, 98, 99, 100, 101, 102, 10, 23, 24, 11] (fun k => [(11, .int .i64 (k.1 : Nat)), (10, k.2)]) (fun k Hl => k.1 ≤ 32 ∧ Old H Hl ∧ Own 1 (EInt .u64) 22 #[] H.size Hl k.2 (Wr.rows 4 a b 32 k.1)) (fun k => 32 - k.1) (0, .slice none 0 0) ?_ ?_ ?_
  · exact (Sub.cons rfl (Sub.cons rfl (Ext.sub (Ext.refl _ _))))
  · exact ⟨Nat.zero_le _, o0, Own.nil _ _ _ _ _ _⟩
  · rintro ⟨k, v⟩ H1 ⟨hk, o0, wv⟩
    have zl_H1 := o0.1
    dsimp only at hk wv
    have zl := o0.1
    have hrl := Wr.rows_len 4 a b 32 k
    refine KC.seq (KC.seq (KC.region (KL.op (R.move rfl rfl) rfl rfl rfl (KL.op (R.move rfl rfl) rfl rfl rfl ?_))))
    refine KL.op (R.lss rfl rfl rfl) rfl rfl rfl ?_
    refine KL.nil (KQ.seq ?_)
    refine KC.iteL rfl ?_ ?_
    · intro hc22
      try simp only [decide_eq_true_eq, decide_eq_false_iff_not, Bool.not_eq_true', Bool.not_eq_false', Bool.and_eq_true, Bool.or_eq_false_iff] at hc22
      refine KC.skip ?_
      refine KQ.seq (KC.seq (KC.block (KC.seq (KC.region (KL.op (R.move rfl rfl) rfl rfl rfl (KL.op (R.move rfl rfl) rfl rfl rfl ?_))))))
      refine KL.call rfl rfl rfl rfl Tryd.call55 rfl rfl rfl (bit_k a k ha2 (by omega)) ?_
      rintro _ _ ⟨rfl, rfl⟩
      refine KL.op (R.move rfl rfl) rfl rfl rfl (KL.op (R.move rfl rfl) rfl rfl rfl ?_)
      refine KL.call rfl rfl rfl rfl Tryd.call55 rfl rfl rfl (bit_k b k hb2 (by omega)) ?_
      rintro _ _ ⟨rfl, rfl⟩
      refine KL.op (R.assign rfl rfl) rfl rfl rfl (KL.op (R.assign rfl rfl) rfl rfl rfl (KL.nil (KQ.seq (KC.seq (KC.region (KL.op (R.assign rfl rfl) rfl rfl rfl (KL.nil (KQ.seq (KC.seq ?_)))))))))
      refine KC.seq (KC.region (KL.op (R.move rfl rfl) rfl rfl rfl (KL.nil (KQ.seq (KC.block (KC.seq (KC.region ?_)))))))
      refine KL.op ((R.eql rfl rfl rfl).val (congrArg Value.bool (decide_eq_false (by decide)))) rfl rfl rfl ?_
      refine KL.op (R.assign rfl rfl) rfl rfl rfl (KL.nil (KQ.seq (KC.condF rfl (KC.seq (KC.region ?_)))))
      refine KL.op ((R.eql rfl rfl rfl).val (congrArg Value.bool (decide_eq_false (by decide)))) rfl rfl rfl ?_
      refine KL.op (R.assign rfl rfl) rfl rfl rfl (KL.nil (KQ.seq (KC.condF rfl (KC.seq (KC.region ?_)))))
      refine KL.op ((R.eql rfl rfl rfl).val (congrArg Value.bool (decide_eq_false (by decide)))) rfl rfl rfl ?_
      refine KL.op (R.assign rfl rfl) rfl rfl rfl (KL.nil (KQ.seq (KC.condF rfl (KC.seq (KC.region ?_)))))
      refine KL.op ((R.eql rfl rfl rfl).val (congrArg Value.bool (decide_eq_false (by decide)))) rfl rfl rfl ?_
      refine KL.op (R.assign rfl rfl) rfl rfl rfl (KL.nil (KQ.seq (KC.condF rfl (KC.seq (KC.seq (KC.region ?_))))))
      refine KL.op ((R.eql rfl rfl rfl).val (congrArg Value.bool (decide_eq_true (by decide)))) rfl rfl rfl ?_
      refine KL.op (R.assign rfl rfl) rfl rfl rfl (KL.nil (KQ.seq (KC.condT rfl ?_)))
      refine KC.skip ?_
      refine KQ.seq (KC.condT rfl (KC.seq (KC.region (KL.op (R.move rfl rfl) rfl rfl rfl (KL.op (R.move rfl rfl) rfl rfl rfl ?_)))))
      refine KL.op ((R.add rfl rfl rfl (by dsimp only [InR]; omega)).val (congrArg (Value.int .i64) (show (k : Int) + (b % 32 : Nat) = ((k + b % 32 : Nat) : Int) by omega))) rfl rfl rfl ?_
      refine KL.op (R.move rfl rfl) rfl rfl rfl ?_
      refine KL.op (R.lss rfl rfl rfl) rfl rfl rfl ?_
      refine KL.nil (KQ.seq ?_)
      refine KC.iteL rfl ?_ ?_
      · intro hc67
        try simp only [decide_eq_true_eq, decide_eq_false_iff_not, Bool.not_eq_true', Bool.not_eq_false', Bool.and_eq_true, Bool.or_eq_false_iff] at hc67
        refine KC.region (KL.op (R.move rfl rfl) rfl rfl rfl (KL.op (R.move rfl rfl) rfl rfl rfl (KL.op (R.move rfl rfl) rfl rfl rfl ?_)))
        refine KL.op ((R.add rfl rfl rfl (by dsimp only [InR]; omega)).val (congrArg (Value.int .i64) (show (k : Int) + (b % 32 : Nat) = ((k + b % 32 : Nat) : Int) by omega))) rfl rfl rfl ?_
        refine KL.call rfl rfl rfl rfl Tryd.call55 rfl rfl rfl (bit_k a (k + (b % 32)) ha2 (by omega)) ?_
        rintro _ _ ⟨rfl, rfl⟩
        refine KL.op (R.assign rfl rfl) rfl rfl rfl (KL.nil (KQ.normBlock (KQ.seq ?_)))
        have hbf : Wr.bitF 4 a b 32 k = Wr.bit a (k + (b % 32)) := (show Wr.bitF 4 a b 32 k = (if k + b % 32 < 32 then Wr.bit a (k + b % 32) else Wr.bit a (32 - 1)) from rfl).trans (if_pos (by omega))
        have hb1 := Wr.bitF_lt 4 a b 32 k
        have zv := wv.lt
        refine KC.region (KL.op (R.move rfl rfl) rfl rfl rfl (KL.op (R.move rfl rfl) rfl rfl rfl ?_))
        refine KL.opM (M.lit rfl Tryd.underlying61 zs22 (by decide) rfl rfl rfl) rfl rfl rfl ?_
        rintro _ H2 ⟨rfl, n2⟩
        have z2 := n2.2.1
        have o0 := o0.trans n2.1
        have wv := wv.old n2.1
        have b2 := n2.2.2
        have h1 : Sl 1 (EInt .u64) H2 _ [((Wr.bit a (k + (b % 32)) : Nat) : Int)] := Sl.lits (l := [((Wr.bit a (k + (b % 32)) : Nat) : Int)]) n2 rfl (by simp) (by intro x hx; simp only [List.mem_cons, List.not_mem_nil, or_false] at hx; subst hx; rw [← hbf]; dsimp only [InR]; omega)
        have lt3 := wv.lt
        refine KL.opM (M.append rfl Tryd.underlying61 inf22 rfl (by decide) rfl rfl wv (by exact h1) (fun _ _ h _ => h) (by omega) (by simp only [List.length_singleton]; omega) (by unfold maxLen; simp only [List.length_singleton]; omega)) rfl rfl rfl ?_
        rintro vn H3 ⟨w3, g3⟩
        try dsimp only at g3
        have ob3 := g3.oldB wv (by omega)
        have o0 := o0.then ob3 (by omega)
        have z3 := ob3.1
        have wv := w3
        refine KL.op (R.assign rfl rfl) rfl rfl rfl (KL.nil (KQ.normBlock (KQ.seq (KC.region (KL.op (R.move rfl rfl) rfl rfl rfl ?_)))))
        refine KL.op ((R.add rfl rfl rfl (by dsimp only [InR]; omega)).val (congrArg (Value.int .i64) (show (k : Int) + 1 = ((k + 1 : Nat) : Int) by omega))) rfl rfl rfl ?_
        refine KL.op (R.assign rfl rfl) rfl rfl rfl (KL.nil ?_)
        refine KQ.again ((k + 1, vn)) ?_ ?_ ?_
        · exact (Sub.cons rfl (Sub.cons rfl (Ext.sub (by repeat (first | exact Ext.refl _ _ | refine Ext.put rfl ?_ | refine Ext.drop rfl ?_)))))
        · show 32 - (k + 1) < 32 - k; omega
        · exact ⟨by show k + 1 ≤ _; omega, o0, by dsimp only; rw [Wr.rows_succ, hbf]; exact wv⟩
      · intro hc67
        try simp only [decide_eq_true_eq, decide_eq_false_iff_not, Bool.not_eq_true', Bool.not_eq_false', Bool.and_eq_true, Bool.or_eq_false_iff] at hc67
        refine KC.seq (KC.region (KL.op (R.move rfl rfl) rfl rfl rfl ?_))
        refine KL.op ((R.eql rfl rfl rfl).val (congrArg Value.bool (decide_eq_true (by decide)))) rfl rfl rfl ?_
        refine KL.nil (KQ.seq (KC.condT rfl (KC.region (KL.op (R.move rfl rfl) rfl rfl rfl (KL.op (R.move rfl rfl) rfl rfl rfl ?_)))))
        refine KL.op ((R.sub rfl rfl rfl (by dsimp only [InR]; omega)).val (congrArg (Value.int .i64) (show (32 : Int) - 1 = ((32 - 1 : Nat) : Int) by omega))) rfl rfl rfl ?_
        refine KL.call rfl rfl rfl rfl Tryd.call55 rfl rfl rfl (bit_k a (32 - 1) ha2 (by omega)) ?_
        rintro _ _ ⟨rfl, rfl⟩
        refine KL.op (R.assign rfl rfl) rfl rfl rfl (KL.nil (KQ.normBlock (KQ.seq ?_)))
        have hbf : Wr.bitF 4 a b 32 k = Wr.bit a (32 - 1) := (show Wr.bitF 4 a b 32 k = (if k + b % 32 < 32 then Wr.bit a (k + b % 32) else Wr.bit a (32 - 1)) from rfl).trans (if_neg (by omega))
        have hb1 := Wr.bitF_lt 4 a b 32 k
        have zv := wv.lt
        refine KC.region (KL.op (R.move rfl rfl) rfl rfl rfl (KL.op (R.move rfl rfl) rfl rfl rfl ?_))
        refine KL.opM (M.lit rfl Tryd.underlying61 zs22 (by decide) rfl rfl rfl) rfl rfl rfl ?_
        rintro _ H4 ⟨rfl, n4⟩
        have z4 := n4.2.1
        have o0 := o0.trans n4.1
        have wv := wv.old n4.1
        have b4 := n4.2.2
        have h1 : Sl 1 (EInt .u64) H4 _ [((Wr.bit a (32 - 1) : Nat) : Int)] := Sl.lits (l := [((Wr.bit a (32 - 1) : Nat) : Int)]) n4 rfl (by simp) (by intro x hx; simp only [List.mem_cons, List.not_mem_nil, or_false] at hx; subst hx; rw [← hbf]; dsimp only [InR]; omega)
        have lt5 := wv.lt
        refine KL.opM (M.append rfl Tryd.underlying61 inf22 rfl (by decide) rfl rfl wv (by exact h1) (fun _ _ h _ => h) (by omega) (by simp only [List.length_singleton]; omega) (by unfold maxLen; simp only [List.length_singleton]; omega)) rfl rfl rfl ?_
        rintro vn H5 ⟨w5, g5⟩
        try dsimp only at g5
        have ob5 := g5.oldB wv (by omega)
        have o0 := o0.then ob5 (by omega)
        have z5 := ob5.1
        have wv := w5
        refine KL.op (R.assign rfl rfl) rfl rfl rfl (KL.nil (KQ.normBlock (KQ.seq (KC.region (KL.op (R.move rfl rfl) rfl rfl rfl ?_)))))
        refine KL.op ((R.add rfl rfl rfl (by dsimp only [InR]; omega)).val (congrArg (Value.int .i64) (show (k : Int) + 1 = ((k + 1 : Nat) : Int) by omega))) rfl rfl rfl ?_
        refine KL.op (R.assign rfl rfl) rfl rfl rfl (KL.nil ?_)
        refine KQ.again ((k + 1, vn)) ?_ ?_ ?_
        · exact (Sub.cons rfl (Sub.cons rfl (Ext.sub (by repeat (first | exact Ext.refl _ _ | refine Ext.put rfl ?_ | refine Ext.drop rfl ?_)))))
        · show 32 - (k + 1) < 32 - k; omega
        · exact ⟨by show k + 1 ≤ _; omega, o0, by dsimp only; rw [Wr.rows_succ, hbf]; exact wv⟩
    · intro hc22
      try simp only [decide_eq_true_eq, decide_eq_false_iff_not, Bool.not_eq_true', Bool.not_eq_false', Bool.and_eq_true, Bool.or_eq_false_iff] at hc22
      have hkn : k = 32 := by omega
      subst hkn
      refine KC.exit ?_
      refine KQ.exitThen ?_
      refine KQ.exitThen ?_
      refine KQ.hit ?_
      refine KQ.seq (KC.seq (KC.region (KL.op (R.move rfl rfl) rfl rfl rfl ?_)))
      refine KL.call rfl rfl rfl rfl Tryd.call56 rfl rfl rfl (with_k (wv.sl (emptyOld _) (by decide)) (Wr.rows_R _ _ _ _ _) (by rw [Wr.rows_len]; omega)) ?_
      rintro _ _ ⟨rfl, rfl⟩
      refine KL.op (R.assign rfl rfl) rfl rfl rfl (KL.nil (KQ.seq (KC.ret (KQ.ofRet ?_))))
      refine KQ.fin1 Tryd.results27 rfl ?_
      exact ⟨rfl, o0⟩

set_option maxRecDepth 100000 in
set_option maxHeartbeats 4000000 in
theorem Bits32_5 {H : Heap} (a b : Nat) (ha : a < 4294967296) (hb : b < 4294967296) : Ct Tryd.prog 27 [.int .i64 5, .int .u64 (a : Nat), .int .u64 (b : Nat), .int .i64 32] H (fun u H' => u = .int .u64 (Wr.with_ (Wr.rows 5 a b 32 32)) ∧ Old H H') := by
  refine Ct.mk Tryd.func27 rfl Tryd.ntmps27 rfl ?_
  intro W0 hW0
  have o0 : Old H H := Old.refl H
  have ha2 : a < 18446744073709551616 := by omega
  have hb2 : b < 18446744073709551616 := by omega
  refine KC.seq (KC.region (KL.op (R.assign rfl rfl) rfl rfl rfl (KL.nil (KQ.seq (KC.seq (KC.region (KL.op (R.move rfl rfl) rfl rfl rfl (KL.op (R.move rfl rfl) rfl rfl rfl ?_))))))))
  refine KL.op (R.convI rfl Tryd.underlying3 Tryd.underlying22 rfl (by dsimp only [InR]; omega)) rfl rfl rfl ?_
  refine KL.op ((R.rem rfl rfl rfl (Int.natCast_nonneg _) (by decide)).val (congrArg (Value.int .u64) (show ((b : Nat) : Int) % 32 = ((b % 32 : Nat) : Int) by omega))) rfl rfl rfl ?_
  refine KL.op (R.convI rfl Tryd.underlying22 Tryd.underlying3 rfl (by dsimp only [InR]; omega)) rfl rfl rfl ?_
  refine KL.op (R.assign rfl rfl) rfl rfl rfl (KL.nil (KQ.seq (KC.seq (KC.region (KL.op (R.assign rfl rfl) rfl rfl rfl (KL.nil (KQ.seq (KC.seq (KC.seq ?_)))))))))
  refine KC.region (KL.op (R.assign rfl rfl) rfl rfl rfl (KL.nil (KQ.seq (KC.block ?_))))
  refine KC.loopD (κ := Nat × Value) [20, 21, 22, 25, 26, 27, 28, 29, 30, 12, 13, 14, 31, 33, 32, 34, 35, 36, 38, 37, 39, 40, 41, 42, 43, 45, 44, 46, 47, 48, 49, 51, 50, 52, 53, 54, 55, 56, 57, 58, 59, 61, 60, 62, 63, 64, 65, 66, 67, 68, 69, 70, 71, 72, 73, 74, 75, 76, 77, 78, 80, 79, 81, 82, 83, 84, 85, 86, 87, 88, 89, 91, 90, 92, 93, 94, 95, 96, 97, 98, 99, 100, 101, 102, 10, 23, 24, 11] (fun k => [(11, .int .i64 (k.1 : Nat)), (10, k.2)]) (fun k Hl => k.1 ≤ 32 ∧ Old H Hl ∧ Own 1 (EInt .u64) 22 #[] H.size Hl k.2 (Wr.rows 5 a b 32 k.1)) (fun k => 32 - k.1) (0, .slice none 0 0) ?_ ?_ ?_
  · exact (Sub.cons rfl (Sub.cons rfl (Ext.sub (Ext.refl _ _))))
  · exact ⟨Nat.zero_le _, o0, Own.nil _ _ _ _ _ _⟩
  · rintro ⟨k, v⟩ H1 ⟨hk, o0, wv⟩
    have zl_H1 := o0.1
    dsimp only at hk wv
    have zl := o0.1
    have hrl := Wr.rows_len 5 a b 32 k
    refine KC.seq (KC.seq (KC.region (KL.op (R.move rfl rfl) rfl rfl rfl (KL.op (R.move rfl rfl) rfl rfl rfl ?_))))
    refine KL.op (R.lss rfl rfl rfl) rfl rfl rfl ?_
    refine KL.nil (KQ.seq ?_)
    refine KC.iteL rfl ?_ ?_
    · intro hc22
      try simp only [decide_eq_true_eq, decide_eq_false_iff_not, Bool.not_eq_true', Bool.not_eq_false', Bool.and_eq_true, Bool.or_eq_false_iff] at hc22
      refine KC.skip ?_
      refine KQ.seq (KC.seq (KC.block (KC.seq (KC.region (KL.op (R.move rfl rfl) rfl rfl rfl (KL.op (R.move rfl rfl) rfl rfl rfl ?_))))))
      refine KL.call rfl rfl rfl rfl Tryd.call55 rfl rfl rfl (bit_k a k ha2 (by omega)) ?_
      rintro _ _ ⟨rfl, rfl⟩
      refine KL.op (R.move rfl rfl) rfl rfl rfl (KL.op (R.move rfl rfl) rfl rfl rfl ?_)
      refine KL.call rfl rfl rfl rfl Tryd.call55 rfl rfl rfl (bit_k b k hb2 (by omega)) ?_
      rintro _ _ ⟨rfl, rfl⟩
      refine KL.op (R.assign rfl rfl) rfl rfl rfl (KL.op (R.assign rfl rfl) rfl rfl rfl (KL.nil (KQ.seq (KC.seq (KC.region (KL.op (R.assign rfl rfl) rfl rfl rfl (KL.nil (KQ.seq (KC.seq ?_)))))))))
      refine KC.seq (KC.region (KL.op (R.move rfl rfl) rfl rfl rfl (KL.nil (KQ.seq (KC.block (KC.seq (KC.region ?_)))))))
      refine KL.op ((R.eql rfl rfl rfl).val (congrArg Value.bool (decide_eq_false (by decide)))) rfl rfl rfl ?_
      refine KL.op (R.assign rfl rfl) rfl rfl rfl (KL.nil (KQ.seq (KC.condF rfl (KC.seq (KC.region ?_)))))
      refine KL.op ((R.eql rfl rfl rfl).val (congrArg Value.bool (decide_eq_false (by decide)))) rfl rfl rfl ?_
      refine KL.op (R.assign rfl rfl) rfl rfl rfl (KL.nil (KQ.seq (KC.condF rfl (KC.seq (KC.region ?_)))))
      refine KL.op ((R.eql rfl rfl rfl).val (congrArg Value.bool (decide_eq_false (by decide)))) rfl rfl rfl ?_
      refine KL.op (R.assign rfl rfl) rfl rfl rfl (KL.nil (KQ.seq (KC.condF rfl (KC.seq (KC.region ?_)))))
      refine KL.op ((R.eql rfl rfl rfl).val (congrArg Value.bool (decide_eq_false (by decide)))) rfl rfl rfl ?_
      refine KL.op (R.assign rfl rfl) rfl rfl rfl (KL.nil (KQ.seq (KC.condF rfl (KC.seq (KC.seq (KC.region ?_))))))
      refine KL.op ((R.eql rfl rfl rfl).val (congrArg Value.bool (decide_eq_false (by decide)))) rfl rfl rfl ?_
      refine KL.op (R.assign rfl rfl) rfl rfl rfl (KL.nil (KQ.seq (KC.condF rfl (KC.region ?_))))
      refine KL.op ((R.eql rfl rfl rfl).val (congrArg Value.bool (decide_eq_true (by decide)))) rfl rfl rfl ?_
      refine KL.op (R.assign rfl rfl) rfl rfl rfl (KL.nil (KQ.seq (KC.condT rfl (KC.seq (KC.region (KL.op (R.move rfl rfl) rfl rfl rfl (KL.op (R.move rfl rfl) rfl rfl rfl ?_)))))))
      refine KL.op ((R.add rfl rfl rfl (by dsimp only [InR]; omega)).val (congrArg (Value.int .i64) (show (k : Int) + (b % 32 : Nat) = ((k + b % 32 : Nat) : Int) by omega))) rfl rfl rfl ?_
      refine KL.op (R.move rfl rfl) rfl rfl rfl ?_
      refine KL.op (R.lss rfl rfl rfl) rfl rfl rfl ?_
      refine KL.nil (KQ.seq ?_)
      refine KC.iteL rfl ?_ ?_
      · intro hc67
        try simp only [decide_eq_true_eq, decide_eq_false_iff_not, Bool.not_eq_true', Bool.not_eq_false', Bool.and_eq_true, Bool.or_eq_false_iff] at hc67
        refine KC.region (KL.op (R.move rfl rfl) rfl rfl rfl (KL.op (R.move rfl rfl) rfl rfl rfl (KL.op (R.move rfl rfl) rfl rfl rfl ?_)))
        refine KL.op ((R.add rfl rfl rfl (by dsimp only [InR]; omega)).val (congrArg (Value.int .i64) (show (k : Int) + (b % 32 : Nat) = ((k + b % 32 : Nat) : Int) by omega))) rfl rfl rfl ?_
        refine KL.call rfl rfl rfl rfl Tryd.call55 rfl rfl rfl (bit_k a (k + (b % 32)) ha2 (by omega)) ?_
        rintro _ _ ⟨rfl, rfl⟩
        refine KL.op (R.assign rfl rfl) rfl rfl rfl (KL.nil (KQ.normBlock (KQ.seq ?_)))
        have hbf : Wr.bitF 5 a b 32 k = Wr.bit a (k + (b % 32)) := (show Wr.bitF 5 a b 32 k = (if k + b % 32 < 32 then Wr.bit a (k + b % 32) else 0) from rfl).trans (if_pos (by omega))
        have hb1 := Wr.bitF_lt 5 a b 32 k
        have zv := wv.lt
        refine KC.region (KL.op (R.move rfl rfl) rfl rfl rfl (KL.op (R.move rfl rfl) rfl rfl rfl ?_))
        refine KL.opM (M.lit rfl Tryd.underlying61 zs22 (by decide) rfl rfl rfl) rfl rfl rfl ?_
        rintro _ H2 ⟨rfl, n2⟩
        have z2 := n2.2.1
        have o0 := o0.trans n2.1
        have wv := wv.old n2.1
        have b2 := n2.2.2
        have h1 : Sl 1 (EInt .u64) H2 _ [((Wr.bit a (k + (b % 32)) : Nat) : Int)] := Sl.lits (l := [((Wr.bit a (k + (b % 32)) : Nat) : Int)]) n2 rfl (by simp) (by intro x hx; simp only [List.mem_cons, List.not_mem_nil, or_false] at hx; subst hx; rw [← hbf]; dsimp only [InR]; omega)
        have lt3 := wv.lt
        refine KL.opM (M.append rfl Tryd.underlying61 inf22 rfl (by decide) rfl rfl wv (by exact h1) (fun _ _ h _ => h) (by omega) (by simp only [List.length_singleton]; omega) (by unfold maxLen; simp only [List.length_singleton]; omega)) rfl rfl rfl ?_
        rintro vn H3 ⟨w3, g3⟩
        try dsimp only at g3
        have ob3 := g3.oldB wv (by omega)
        have o0 := o0.then ob3 (by omega)
        have z3 := ob3.1
        have wv := w3
        refine KL.op (R.assign rfl rfl) rfl rfl rfl (KL.nil (KQ.normBlock (KQ.seq (KC.region (KL.op (R.move rfl rfl) rfl rfl rfl ?_)))))
        refine KL.op ((R.add rfl rfl rfl (by dsimp only [InR]; omega)).val (congrArg (Value.int .i64) (show (k : Int) + 1 = ((k + 1 : Nat) : Int) by omega))) rfl rfl rfl ?_
        refine KL.op (R.assign rfl rfl) rfl rfl rfl (KL.nil ?_)
        refine KQ.again ((k + 1, vn)) ?_ ?_ ?_
        · exact (Sub.cons rfl (Sub.cons rfl (Ext.sub (by repeat (first | exact Ext.refl _ _ | refine Ext.put rfl ?_ | refine Ext.drop rfl ?_)))))
        · show 32 - (k + 1) < 32 - k; omega
        · exact ⟨by show k + 1 ≤ _; omega, o0, by dsimp only; rw [Wr.rows_succ, hbf]; exact wv⟩
      · intro hc67
        try simp only [decide_eq_true_eq, decide_eq_false_iff_not, Bool.not_eq_true', Bool.not_eq_false', Bool.and_eq_true, Bool.or_eq_false_iff] at hc67
        refine KC.seq (KC.region (KL.op (R.move rfl rfl) rfl rfl rfl ?_))
        refine KL.op ((R.eql rfl rfl rfl).val (congrArg Value.bool (decide_eq_false (by decide)))) rfl rfl rfl ?_
        refine KL.nil (KQ.seq (KC.condF rfl ?_))
        refine KC.skip ?_
        refine KQ.normBlock (KQ.seq ?_)
        have hbf : Wr.bitF 5 a b 32 k = 0 := (show Wr.bitF 5 a b 32 k = (if k + b % 32 < 32 then Wr.bit a (k + b % 32) else 0) from rfl).trans (if_neg (by omega))
        have hb1 := Wr.bitF_lt 5 a b 32 k
        have zv := wv.lt
        refine KC.region (KL.op (R.move rfl rfl) rfl rfl rfl (KL.op (R.move rfl rfl) rfl rfl rfl ?_))
        refine KL.opM (M.lit rfl Tryd.underlying61 zs22 (by decide) rfl rfl rfl) rfl rfl rfl ?_
        rintro _ H4 ⟨rfl, n4⟩
        have z4 := n4.2.1
        have o0 := o0.trans n4.1
        have wv := wv.old n4.1
        have b4 := n4.2.2
        have h1 : Sl 1 (EInt .u64) H4 _ [((0 : Nat) : Int)] := Sl.lits (l := [((0 : Nat) : Int)]) n4 rfl (by simp) (by intro x hx; simp only [List.mem_cons, List.not_mem_nil, or_false] at hx; subst hx; rw [← hbf]; dsimp only [InR]; omega)
        have lt5 := wv.lt
        refine KL.opM (M.append rfl Tryd.underlying61 inf22 rfl (by decide) rfl rfl wv (by exact h1) (fun _ _ h _ => h) (by omega) (by simp only [List.length_singleton]; omega) (by unfold maxLen; simp only [List.length_singleton]; omega)) rfl rfl rfl ?_
        rintro vn H5 ⟨w5, g5⟩
        try dsimp only at g5
        have ob5 := g5.oldB wv (by omega)
        have o0 := o0.then ob5 (by omega)
        have z5 := ob5.1
        have wv := w5
        refine KL.op (R.assign rfl rfl) rfl rfl rfl (KL.nil (KQ.normBlock (KQ.seq (KC.region (KL.op (R.move rfl rfl) rfl rfl rfl ?_)))))
        refine KL.op ((R.add rfl rfl rfl (by dsimp only [InR]; omega)).val (congrArg (Value.int .i64) (show (k : Int) + 1 = ((k + 1 : Nat) : Int) by omega))) rfl rfl rfl ?_
        refine KL.op (R.assign rfl rfl) rfl rfl rfl (KL.nil ?_)
        refine KQ.again ((k + 1, vn)) ?_ ?_ ?_
        · exact (Sub.cons rfl (Sub.cons rfl (Ext.sub (by repeat (first | exact Ext.refl _ _ | refine Ext.put rfl ?_ | refine Ext.drop rfl ?_)))))
        · show 32 - (k + 1) < 32 - k; omega
        · exact ⟨by show k + 1 ≤ _; omega, o0, by dsimp only; rw [Wr.rows_succ, hbf]; exact wv⟩
    · intro hc22
      try simp only [decide_eq_true_eq, decide_eq_false_iff_not, Bool.not_eq_true', Bool.not_eq_false', Bool.and_eq_true, Bool.or_eq_false_iff] at hc22
      have hkn : k = 32 := by omega
      subst hkn
      refine KC.exit ?_
      refine KQ.exitThen ?_
      refine KQ.exitThen ?_
      refine KQ.hit ?_
      refine KQ.seq (KC.seq (KC.region (KL.op (R.move rfl rfl) rfl rfl rfl ?_)))
      refine KL.call rfl rfl rfl rfl Tryd.call56 rfl rfl rfl (with_k (wv.sl (emptyOld _) (by decide)) (Wr.rows_R _ _ _ _ _) (by rw [Wr.rows_len]; omega)) ?_
      rintro _ _ ⟨rfl, rfl⟩
      refine KL.op (R.assign rfl rfl) rfl rfl rfl (KL.nil (KQ.seq (KC.ret (KQ.ofRet ?_))))
      refine KQ.fin1 Tryd.results27 rfl ?_
      exact ⟨rfl, o0⟩

set_option maxRecDepth 100000 in
set_option maxHeartbeats 4000000 in
theorem Bits32_6 {H : Heap} (a b : Nat) (ha : a < 4294967296) (hb : b < 4294967296) : Ct Tryd.prog 27 [.int .i64 6, .int .u64 (a : Nat), .int .u64 (b : Nat), .int .i64 32] H (fun u H' => u = .int .u64 (Wr.with_ (Wr.rows 6 a b 32 32)) ∧ Old H H') := by
  refine Ct.mk Tryd.func27 rfl Tryd.ntmps27 rfl ?_
  intro W0 hW0
  have o0 : Old H H := Old.refl H
  have ha2 : a < 18446744073709551616 := by omega
  have hb2 : b < 18446744073709551616 := by omega
  refine KC.seq (KC.region (KL.op (R.assign rfl rfl) rfl rfl rfl (KL.nil (KQ.seq (KC.seq (KC.region (KL.op (R.move rfl rfl) rfl rfl rfl (KL.op (R.move rfl rfl) rfl rfl rfl ?_))))))))
  refine KL.op (R.convI rfl Tryd.underlying3 Tryd.underlying22 rfl (by dsimp only [InR]; omega)) rfl rfl rfl ?_
  refine KL.op ((R.rem rfl rfl rfl (Int.natCast_nonneg _) (by decide)).val (congrArg (Value.int .u64) (show ((b : Nat) : Int) % 32 = ((b % 32 : Nat) : Int) by omega))) rfl rfl rfl ?_
  refine KL.op (R.convI rfl Tryd.underlying22 Tryd.underlying3 rfl (by dsimp only [InR]; omega)) rfl rfl rfl ?_
  refine KL.op (R.assign rfl rfl) rfl rfl rfl (KL.nil (KQ.seq (KC.seq (KC.region (KL.op (R.assign rfl rfl) rfl rfl rfl (KL.nil (KQ.seq (KC.seq (KC.seq ?_)))))))))
  refine KC.region (KL.op (R.assign rfl rfl) rfl rfl rfl (KL.nil (KQ.seq (KC.block ?_))))
  refine KC.loopD (κ := Nat × Value) [20, 21, 22, 25, 26, 27, 28, 29, 30, 12, 13, 14, 31, 33, 32, 34, 35, 36, 38, 37, 39, 40, 41, 42, 43, 45, 44, 46, 47, 48, 49, 51, 50, 52, 53, 54, 55, 56, 57, 58, 59, 61, 60, 62, 63, 64, 65, 66, 67, 68, 69, 70, 71, 72, 73, 74, 75, 76, 77, 78, 80, 79, 81, 82, 83, 84, 85, 86, 87, 88, 89, 91, 90, 92, 93, 94, 95, 96, 97, 98, 99, 100, 101, 102, 10, 23, 24, 11] (fun k => [(11, .int .i64 (k.1 : Nat)), (10, k.2)]) (fun k Hl => k.1 ≤ 32 ∧ Old H Hl ∧ Own 1 (EInt .u64) 22 #[] H.size Hl k.2 (Wr.rows 6 a b 32 k.1)) (fun k => 32 - k.1) (0, .slice none 0 0) ?_ ?_ ?_
  · exact (Sub.cons rfl (Sub.cons rfl (Ext.sub (Ext.refl _ _))))
  · exact ⟨Nat.zero_le _, o0, Own.nil _ _ _ _ _ _⟩
  · rintro ⟨k, v⟩ H1 ⟨hk, o0, wv⟩
    have zl_H1 := o0.1
    dsimp only at hk wv
    have zl := o0.1
    have hrl := Wr.rows_len 6 a b 32 k
    refine KC.seq (KC.seq (KC.region (KL.op (R.move rfl rfl) rfl rfl rfl (KL.op (R.move rfl rfl) rfl rfl rfl ?_))))
    refine KL.op (R.lss rfl rfl rfl) rfl rfl rfl ?_
    refine KL.nil (KQ.seq ?_)
    refine KC.iteL rfl ?_ ?_
    · intro hc22
      try simp only [decide_eq_true_eq, decide_eq_false_iff_not, Bool.not_eq_true', Bool.not_eq_false', Bool.and_eq_true, Bool.or_eq_false_iff] at hc22
      refine KC.skip ?_
      refine KQ.seq (KC.seq (KC.block (KC.seq (KC.region (KL.op (R.move rfl rfl) rfl rfl rfl (KL.op (R.move rfl rfl) rfl rfl rfl ?_))))))
      refine KL.call rfl rfl rfl rfl Tryd.call55 rfl rfl rfl (bit_k a k ha2 (by omega)) ?_
      rintro _ _ ⟨rfl, rfl⟩
      refine KL.op (R.move rfl rfl) rfl rfl rfl (KL.op (R.move rfl rfl) rfl rfl rfl ?_)
      refine KL.call rfl rfl rfl rfl Tryd.call55 rfl rfl rfl (bit_k b k hb2 (by omega)) ?_
      rintro _ _ ⟨rfl, rfl⟩
      refine KL.op (R.assign rfl rfl) rfl rfl rfl (KL.op (R.assign rfl rfl) rfl rfl rfl (KL.nil (KQ.seq (KC.seq (KC.region (KL.op (R.assign rfl rfl) rfl rfl rfl (KL.nil (KQ.seq (KC.seq ?_)))))))))
      refine KC.seq (KC.region (KL.op (R.move rfl rfl) rfl rfl rfl (KL.nil (KQ.seq (KC.block (KC.seq (KC.region ?_)))))))
      refine KL.op ((R.eql rfl rfl rfl).val (congrArg Value.bool (decide_eq_false (by decide)))) rfl rfl rfl ?_
      refine KL.op (R.assign rfl rfl) rfl rfl rfl (KL.nil (KQ.seq (KC.condF rfl (KC.seq (KC.region ?_)))))
      refine KL.op ((R.eql rfl rfl rfl).val (congrArg Value.bool (decide_eq_false (by decide)))) rfl rfl rfl ?_
      refine KL.op (R.assign rfl rfl) rfl rfl rfl (KL.nil (KQ.seq (KC.condF rfl (KC.seq (KC.region ?_)))))
      refine KL.op ((R.eql rfl rfl rfl).val (congrArg Value.bool (decide_eq_false (by decide)))) rfl rfl rfl ?_
      refine KL.op (R.assign rfl rfl) rfl rfl rfl (KL.nil (KQ.seq (KC.condF rfl (KC.seq (KC.region ?_)))))
      refine KL.op ((R.eql rfl rfl rfl).val (congrArg Value.bool (decide_eq_false (by decide)))) rfl rfl rfl ?_
      refine KL.op (R.assign rfl rfl) rfl rfl rfl (KL.nil (KQ.seq (KC.condF rfl (KC.seq (KC.seq (KC.region ?_))))))
      refine KL.op ((R.eql rfl rfl rfl).val (congrArg Value.bool (decide_eq_false (by decide)))) rfl rfl rfl ?_
      refine KL.op (R.assign rfl rfl) rfl rfl rfl (KL.nil (KQ.seq (KC.condF rfl (KC.region ?_))))
      refine KL.op ((R.eql rfl rfl rfl).val (congrArg Value.bool (decide_eq_false (by decide)))) rfl rfl rfl ?_
      refine KL.op (R.assign rfl rfl) rfl rfl rfl (KL.nil (KQ.seq (KC.condF rfl (KC.seq (KC.region ?_)))))
      refine KL.op ((R.eql rfl rfl rfl).val (congrArg Value.bool (decide_eq_true (by decide)))) rfl rfl rfl ?_
      refine KL.op (R.assign rfl rfl) rfl rfl rfl (KL.nil (KQ.seq (KC.condT rfl (KC.region (KL.op (R.move rfl rfl) rfl rfl rfl (KL.op (R.move rfl rfl) rfl rfl rfl (KL.op (R.move rfl rfl) rfl rfl rfl ?_)))))))
      refine KL.op ((R.add rfl rfl rfl (by dsimp only [InR]; omega)).val (congrArg (Value.int .i64) (show (k : Int) + 32 = ((k + 32 : Nat) : Int) by omega))) rfl rfl rfl ?_
      refine KL.op (R.move rfl rfl) rfl rfl rfl ?_
      refine KL.op ((R.sub rfl rfl rfl (by dsimp only [InR]; omega)).val (congrArg (Value.int .i64) (show ((k + 32 : Nat) : Int) - (b % 32 : Nat) = ((k + 32 - b % 32 : Nat) : Int) by omega))) rfl rfl rfl ?_
      refine KL.op (R.move rfl rfl) rfl rfl rfl ?_
      refine KL.op ((R.rem rfl rfl rfl (Int.natCast_nonneg _) (by decide)).val (congrArg (Value.int .i64) (show ((k + 32 - b % 32 : Nat) : Int) % 32 = (((k + 32 - b % 32) % 32 : Nat) : Int) by omega))) rfl rfl rfl ?_
      refine KL.call rfl rfl rfl rfl Tryd.call55 rfl rfl rfl (bit_k a ((k + 32 - (b % 32)) % 32) ha2 (by omega)) ?_
      rintro _ _ ⟨rfl, rfl⟩
      refine KL.op (R.assign rfl rfl) rfl rfl rfl (KL.nil (KQ.normBlock (KQ.seq ?_)))
      have hbf : Wr.bitF 6 a b 32 k = Wr.bit a ((k + 32 - (b % 32)) % 32) := rfl
      have hb1 := Wr.bitF_lt 6 a b 32 k
      have zv := wv.lt
      refine KC.region (KL.op (R.move rfl rfl) rfl rfl rfl (KL.op (R.move rfl rfl) rfl rfl rfl ?_))
      refine KL.opM (M.lit rfl Tryd.underlying61 zs22 (by decide) rfl rfl rfl) rfl rfl rfl ?_
      rintro _ H2 ⟨rfl, n2⟩
      have z2 := n2.2.1
      have o0 := o0.trans n2.1
      have wv := wv.old n2.1
      have b2 := n2.2.2
      have h1 : Sl 1 (EInt .u64) H2 _ [((Wr.bit a ((k + 32 - (b % 32)) % 32) : Nat) : Int)] := Sl.lits (l := [((Wr.bit a ((k + 32 - (b % 32)) % 32) : Nat) : Int)]) n2 rfl (by simp) (by intro x hx; simp only [List.mem_cons, List.not_mem_nil, or_false] at hx; subst hx; rw [← hbf]; dsimp only [InR]; omega)
      have lt3 := wv.lt
      refine KL.opM (M.append rfl Tryd.underlying61 inf22 rfl (by decide) rfl rfl wv (by exact h1) (fun _ _ h _ => h) (by omega) (by simp only [List.length_singleton]; omega) (by unfold maxLen; simp only [List.length_singleton]; omega)) rfl rfl rfl ?_
      rintro vn H3 ⟨w3, g3⟩
      try dsimp only at g3
      have ob3 := g3.oldB wv (by omega)
      have o0 := o0.then ob3 (by omega)
      have z3 := ob3.1
      have wv := w3
      refine KL.op (R.assign rfl rfl) rfl rfl rfl (KL.nil (KQ.normBlock (KQ.seq (KC.region (KL.op (R.move rfl rfl) rfl rfl rfl ?_)))))
      refine KL.op ((R.add rfl rfl rfl (by dsimp only [InR]; omega)).val (congrArg (Value.int .i64) (show (k : Int) + 1 = ((k + 1 : Nat) : Int) by omega))) rfl rfl rfl ?_
      refine KL.op (R.assign rfl rfl) rfl rfl rfl (KL.nil ?_)
      refine KQ.again ((k + 1, vn)) ?_ ?_ ?_
      · exact (Sub.cons rfl (Sub.cons rfl (Ext.sub (by repeat (first | exact Ext.refl _ _ | refine Ext.put rfl ?_ | refine Ext.drop rfl ?_)))))
      · show 32 - (k + 1) < 32 - k; omega
      · exact ⟨by show k + 1 ≤ _; omega, o0, by dsimp only; rw [Wr.rows_succ, hbf]; exact wv⟩
    · intro hc22
      try simp only [decide_eq_true_eq, decide_eq_false_iff_not, Bool.not_eq_true', Bool.not_eq_false', Bool.and_eq_true, Bool.or_eq_false_iff] at hc22
      have hkn : k = 32 := by omega
      subst hkn
      refine KC.exit ?_
      refine KQ.exitThen ?_
      refine KQ.exitThen ?_
      refine KQ.hit ?_
      refine KQ.seq (KC.seq (KC.region (KL.op (R.move rfl rfl) rfl rfl rfl ?_)))
      refine KL.call rfl rfl rfl rfl Tryd.call56 rfl rfl rfl (with_k (wv.sl (emptyOld _) (by decide)) (Wr.rows_R _ _ _ _ _) (by rw [Wr.rows_len]; omega)) ?_
      rintro _ _ ⟨rfl, rfl⟩
      refine KL.op (R.assign rfl rfl) rfl rfl rfl (KL.nil (KQ.seq (KC.ret (KQ.ofRet ?_))))
      refine KQ.fin1 Tryd.results27 rfl ?_
      exact ⟨rfl, o0⟩

set_option maxRecDepth 100000 in
set_option maxHeartbeats 4000000 in
theorem Bits32_7 {H : Heap} (a b : Nat) (ha : a < 4294967296) (hb : b < 4294967296) : Ct Tryd.prog 27 [.int .i64 7, .int .u64 (a : Nat), .int .u64 (b : Nat), .int .i64 32] H (fun u H' => u = .int .u64 (Wr.with_ (Wr.rows 7 a b 32 32)) ∧ Old H H') := by
  refine Ct.mk Tryd.func27 rfl Tryd.ntmps27 rfl ?_
  intro W0 hW0
  have o0 : Old H H := Old.refl H
  have ha2 : a < 18446744073709551616 := by omega
  have hb2 : b < 18446744073709551616 := by omega
  refine KC.seq (KC.region (KL.op (R.assign rfl rfl) rfl rfl rfl (KL.nil (KQ.seq (KC.seq (KC.region (KL.op (R.move rfl rfl) rfl rfl rfl (KL.op (R.move rfl rfl) rfl rfl rfl ?_))))))))
  refine KL.op (R.convI rfl Tryd.underlying3 Tryd.underlying22 rfl (by dsimp only [InR]; omega)) rfl rfl rfl ?_
  refine KL.op ((R.rem rfl rfl rfl (Int.natCast_nonneg _) (by decide)).val (congrArg (Value.int .u64) (show ((b : Nat) : Int) % 32 = ((b % 32 : Nat) : Int) by omega))) rfl rfl rfl ?_
  refine KL.op (R.convI rfl Tryd.underlying22 Tryd.underlying3 rfl (by dsimp only [InR]; omega)) rfl rfl rfl ?_
  refine KL.op (R.assign rfl rfl) rfl rfl rfl (KL.nil (KQ.seq (KC.seq (KC.region (KL.op (R.assign rfl rfl) rfl rfl rfl (KL.nil (KQ.seq (KC.seq (KC.seq ?_)))))))))
  refine KC.region (KL.op (R.assign rfl rfl) rfl rfl rfl (KL.nil (KQ.seq (KC.block ?_))))
  refine KC.loopD (κ := Nat × Value) [20, 21, 22, 25, 26, 27, 28, 29, 30, 12, 13, 14, 31, 33, 32, 34, 35, 36, 38, 37, 39, 40, 41, 42, 43, 45, 44, 46, 47, 48, 49, 51, 50, 52, 53, 54, 55, 56, 57, 58, 59, 61, 60, 62, 63, 64, 65, 66, 67, 68, 69, 70, 71, 72, 73, 74, 75, 76, 77, 78, 80, 79, 81, 82, 83, 84, 85, 86, 87, 88, 89, 91, 90, 92, 93, 94, 95, 96, 97, 98, 99, 100, 101, 102, 10, 23, 24, 11] (fun k => [(11, .int .i64 (k.1 : Nat)), (10, k.2)]) (fun k Hl => k.1 ≤ 32 ∧ Old H Hl ∧ Own 1 (EInt .u64) 22 #[] H.size Hl k.2 (Wr.rows 7 a b 32 k.1)) (fun k => 32 - k.1) (0, .slice none 0 0) ?_ ?_ ?_
  · exact (Sub.cons rfl (Sub.cons rfl (Ext.sub (Ext.refl _ _))))
  · exact ⟨Nat.zero_le _, o0, Own.nil _ _ _ _ _ _⟩
  · rintro ⟨k, v⟩ H1 ⟨hk, o0, wv⟩
    have zl_H1 := o0.1
    dsimp only at hk wv
    have zl := o0.1
    have hrl := Wr.rows_len 7 a b 32 k
    refine KC.seq (KC.seq (KC.region (KL.op (R.move rfl rfl) rfl rfl rfl (KL.op (R.move rfl rfl) rfl rfl rfl ?_))))
    refine KL.op (R.lss rfl rfl rfl) rfl rfl rfl ?_
    refine KL.nil (KQ.seq ?_)
    refine KC.iteL rfl ?_ ?_
    · intro hc22
      try simp only [decide_eq_true_eq, decide_eq_false_iff_not, Bool.not_eq_true', Bool.not_eq_false', Bool.and_eq_true, Bool.or_eq_false_iff] at hc22
      refine KC.skip ?_
      refine KQ.seq (KC.seq (KC.block (KC.seq (KC.region (KL.op (R.move rfl rfl) rfl rfl rfl (KL.op (R.move rfl rfl) rfl rfl rfl ?_))))))
      refine KL.call rfl rfl rfl rfl Tryd.call55 rfl rfl rfl (bit_k a k ha2 (by omega)) ?_
      rintro _ _ ⟨rfl, rfl⟩
      refine KL.op (R.move rfl rfl) rfl rfl rfl (KL.op (R.move rfl rfl) rfl rfl rfl ?_)
      refine KL.call rfl rfl rfl rfl Tryd.call55 rfl rfl rfl (bit_k b k hb2 (by omega)) ?_
      rintro _ _ ⟨rfl, rfl⟩
      refine KL.op (R.assign rfl rfl) rfl rfl rfl (KL.op (R.assign rfl rfl) rfl rfl rfl (KL.nil (KQ.seq (KC.seq (KC.region (KL.op (R.assign rfl rfl) rfl rfl rfl (KL.nil (KQ.seq (KC.seq ?_)))))))))
      refine KC.seq (KC.region (KL.op (R.move rfl rfl) rfl rfl rfl (KL.nil (KQ.seq (KC.block (KC.seq (KC.region ?_)))))))
      refine KL.op ((R.eql rfl rfl rfl).val (congrArg Value.bool (decide_eq_false (by decide)))) rfl rfl rfl ?_
      refine KL.op (R.assign rfl rfl) rfl rfl rfl (KL.nil (KQ.seq (KC.condF rfl (KC.seq (KC.region ?_)))))
      refine KL.op ((R.eql rfl rfl rfl).val (congrArg Value.bool (decide_eq_false (by decide)))) rfl rfl rfl ?_
      refine KL.op (R.assign rfl rfl) rfl rfl rfl (KL.nil (KQ.seq (KC.condF rfl (KC.seq (KC.region ?_)))))
      refine KL.op ((R.eql rfl rfl rfl).val (congrArg Value.bool (decide_eq_false (by decide)))) rfl rfl rfl ?_
      refine KL.op (R.assign rfl rfl) rfl rfl rfl (KL.nil (KQ.seq (KC.condF rfl (KC.seq (KC.region ?_)))))
      refine KL.op ((R.eql rfl rfl rfl).val (congrArg Value.bool (decide_eq_false (by decide)))) rfl rfl rfl ?_
      refine KL.op (R.assign rfl rfl) rfl rfl rfl (KL.nil (KQ.seq (KC.condF rfl (KC.seq (KC.seq (KC.region ?_))))))
      refine KL.op ((R.eql rfl rfl rfl).val (congrArg Value.bool (decide_eq_false (by decide)))) rfl rfl rfl ?_
      refine KL.op (R.assign rfl rfl) rfl rfl rfl (KL.nil (KQ.seq (KC.condF rfl (KC.region ?_))))
      refine KL.op ((R.eql rfl rfl rfl).val (congrArg Value.bool (decide_eq_false (by decide)))) rfl rfl rfl ?_
      refine KL.op (R.assign rfl rfl) rfl rfl rfl (KL.nil (KQ.seq (KC.condF rfl (KC.seq (KC.region ?_)))))
      refine KL.op ((R.eql rfl rfl rfl).val (congrArg Value.bool (decide_eq_false (by decide)))) rfl rfl rfl ?_
      refine KL.op (R.assign rfl rfl) rfl rfl rfl (KL.nil (KQ.seq (KC.condF rfl (KC.seq (KC.region ?_)))))
      refine KL.op ((R.eql rfl rfl rfl).val (congrArg Value.bool (decide_eq_true (by decide)))) rfl rfl rfl ?_
      refine KL.op (R.assign rfl rfl) rfl rfl rfl (KL.nil (KQ.seq (KC.condT rfl (KC.region (KL.op (R.move rfl rfl) rfl rfl rfl (KL.op (R.move rfl rfl) rfl rfl rfl (KL.op (R.move rfl rfl) rfl rfl rfl ?_)))))))
      refine KL.op ((R.add rfl rfl rfl (by dsimp only [InR]; omega)).val (congrArg (Value.int .i64) (show (k : Int) + (b % 32 : Nat) = ((k + b % 32 : Nat) : Int) by omega))) rfl rfl rfl ?_
      refine KL.op (R.move rfl rfl) rfl rfl rfl ?_
      refine KL.op ((R.rem rfl rfl rfl (Int.natCast_nonneg _) (by decide)).val (congrArg (Value.int .i64) (show ((k + b % 32 : Nat) : Int) % 32 = (((k + b % 32) % 32 : Nat) : Int) by omega))) rfl rfl rfl ?_
      refine KL.call rfl rfl rfl rfl Tryd.call55 rfl rfl rfl (bit_k a ((k + (b % 32)) % 32) ha2 (by omega)) ?_
      rintro _ _ ⟨rfl, rfl⟩
      refine KL.op (R.assign rfl rfl) rfl rfl rfl (KL.nil (KQ.normBlock (KQ.seq ?_)))
      have hbf : Wr.bitF 7 a b 32 k = Wr.bit a ((k + (b % 32)) % 32) := rfl
      have hb1 := Wr.bitF_lt 7 a b 32 k
      have zv := wv.lt
      refine KC.region (KL.op (R.move rfl rfl) rfl rfl rfl (KL.op (R.move rfl rfl) rfl rfl rfl ?_))
      refine KL.opM (M.lit rfl Tryd.underlying61 zs22 (by decide) rfl rfl rfl) rfl rfl rfl ?_
      rintro _ H2 ⟨rfl, n2⟩
      have z2 := n2.2.1
      have o0 := o0.trans n2.1
      have wv := wv.old n2.1
      have b2 := n2.2.2
      have h1 : Sl 1 (EInt .u64) H2 _ [((Wr.bit a ((k + (b % 32)) % 32) : Nat) : Int)] := Sl.lits (l := [((Wr.bit a ((k + (b % 32)) % 32) : Nat) : Int)]) n2 rfl (by simp) (by intro x hx; simp only [List.mem_cons, List.not_mem_nil, or_false] at hx; subst hx; rw [← hbf]; dsimp only [InR]; omega)
      have lt3 := wv.lt
      refine KL.opM (M.append rfl Tryd.underlying61 inf22 rfl (by decide) rfl rfl wv (by exact h1) (fun _ _ h _ => h) (by omega) (by simp only [List.length_singleton]; omega) (by unfold maxLen; simp only [List.length_singleton]; omega)) rfl rfl rfl ?_
      rintro vn H3 ⟨w3, g3⟩
      try dsimp only at g3
      have ob3 := g3.oldB wv (by omega)
      have o0 := o0.then ob3 (by omega)
      have z3 := ob3.1
      have wv := w3
      refine KL.op (R.assign rfl rfl) rfl rfl rfl (KL.nil (KQ.normBlock (KQ.seq (KC.region (KL.op (R.move rfl rfl) rfl rfl rfl ?_)))))
      refine KL.op ((R.add rfl rfl rfl (by dsimp only [InR]; omega)).val (congrArg (Value.int .i64) (show (k : Int) + 1 = ((k + 1 : Nat) : Int) by omega))) rfl rfl rfl ?_
      refine KL.op (R.assign rfl rfl) rfl rfl rfl (KL.nil ?_)
      refine KQ.again ((k + 1, vn)) ?_ ?_ ?_
      · exact (Sub.cons rfl (Sub.cons rfl (Ext.sub (by repeat (first | exact Ext.refl _ _ | refine Ext.put rfl ?_ | refine Ext.drop rfl ?_)))))
      · show 32 - (k + 1) < 32 - k; omega
      · exact ⟨by show k + 1 ≤ _; omega, o0, by dsimp only; rw [Wr.rows_succ, hbf]; exact wv⟩
    · intro hc22
      try simp only [decide_eq_true_eq, decide_eq_false_iff_not, Bool.not_eq_true', Bool.not_eq_false', Bool.and_eq_true, Bool.or_eq_false_iff] at hc22
      have hkn : k = 32 := by omega
      subst hkn
      refine KC.exit ?_
      refine KQ.exitThen ?_
      refine KQ.exitThen ?_
      refine KQ.hit ?_
      refine KQ.seq (KC.seq (KC.region (KL.op (R.move rfl rfl) rfl rfl rfl ?_)))
      refine KL.call rfl rfl rfl rfl Tryd.call56 rfl rfl rfl (with_k (wv.sl (emptyOld _) (by decide)) (Wr.rows_R _ _ _ _ _) (by rw [Wr.rows_len]; omega)) ?_
      rintro _ _ ⟨rfl, rfl⟩
      refine KL.op (R.assign rfl rfl) rfl rfl rfl (KL.nil (KQ.seq (KC.ret (KQ.ofRet ?_))))
      refine KQ.fin1 Tryd.results27 rfl ?_
      exact ⟨rfl, o0⟩

set_option maxRecDepth 100000 in
set_option maxHeartbeats 4000000 in
theorem Bits64_0 {H : Heap} (a b : Nat) (ha : a < 18446744073709551616) (hb : b < 18446744073709551616) : Ct Tryd.prog 27 [.int .i64 0, .int .u64 (a : Nat), .int .u64 (b : Nat), .int .i64 64] H (fun u H' => u = .int .u64 (Wr.with_ (Wr.rows 0 a b 64 64)) ∧ Old H H') := by
  refine Ct.mk Tryd.func27 rfl Tryd.ntmps27 rfl ?_
  intro W0 hW0
  have o0 : Old H H := Old.refl H
  have ha2 : a < 18446744073709551616 := by omega
  have hb2 : b < 18446744073709551616 := by omega
  refine KC.seq (KC.region (KL.op (R.assign rfl rfl) rfl rfl rfl (KL.nil (KQ.seq (KC.seq (KC.region (KL.op (R.move rfl rfl) rfl rfl rfl (KL.op (R.move rfl rfl) rfl rfl rfl ?_))))))))
  refine KL.op (R.convI rfl Tryd.underlying3 Tryd.underlying22 rfl (by dsimp only [InR]; omega)) rfl rfl rfl ?_
  refine KL.op ((R.rem rfl rfl rfl (Int.natCast_nonneg _) (by decide)).val (congrArg (Value.int .u64) (show ((b : Nat) : Int) % 64 = ((b % 64 : Nat) : Int) by omega))) rfl rfl rfl ?_
  refine KL.op (R.convI rfl Tryd.underlying22 Tryd.underlying3 rfl (by dsimp only [InR]; omega)) rfl rfl rfl ?_
  refine KL.op (R.assign rfl rfl) rfl rfl rfl (KL.nil (KQ.seq (KC.seq (KC.region (KL.op (R.assign rfl rfl) rfl rfl rfl (KL.nil (KQ.seq (KC.seq (KC.seq ?_)))))))))
  refine KC.region (KL.op (R.assign rfl rfl) rfl rfl rfl (KL.nil (KQ.seq (KC.block ?_))))
  refine KC.loopD (κ := Nat × Value) [20, 21, 22, 25, 26, 27, 28, 29, 30, 12, 13, 14, 31, 33, 32, 34, 35, 36, 38, 37, 39, 40, 41, 42, 43, 45, 44, 46, 47, 48, 49, 51, 50, 52, 53, 54, 55, 56, 57, 58, 59, 61, 60, 62, 63, 64, 65, 66, 67, 68, 69, 70, 71, 72, 73, 74, 75, 76, 77, 78, 80, 79, 81, 82, 83, 84, 85, 86, 87, 88, 89, 91, 90, 92, 93, 94, 95, 96, 97, 98, 99, 100, 101, 102, 10, 23, 24, 11] (fun k => [(11, .int .i64 (k.1 : Nat)), (10, k.2)]) (fun k Hl => k.1 ≤ 64 ∧ Old H Hl ∧ Own 1 (EInt .u64) 22 #[] H.size Hl k.2 (Wr.rows 0 a b 64 k.1)) (fun k => 64 - k.1) (0, .slice none 0 0) ?_ ?_ ?_
  · exact (Sub.cons rfl (Sub.cons rfl (Ext.sub (Ext.refl _ _))))
  · exact ⟨Nat.zero_le _, o0, Own.nil _ _ _ _ _ _⟩
  · rintro ⟨k, v⟩ H1 ⟨hk, o0, wv⟩
    have zl_H1 := o0.1
    dsimp only at hk wv
    have zl := o0.1
    have hrl := Wr.rows_len 0 a b 64 k
    refine KC.seq (KC.seq (KC.region (KL.op (R.move rfl rfl) rfl rfl rfl (KL.op (R.move rfl rfl) rfl rfl rfl ?_))))
    refine KL.op (R.lss rfl rfl rfl) rfl rfl rfl ?_
    refine KL.nil (KQ.seq ?_)
    refine KC.iteL rfl ?_ ?_
    · intro hc22
      try simp only [decide_eq_true_eq, decide_eq_false_iff_not, Bool.not_eq_true', Bool.not_eq_false', Bool.and_eq_true, Bool.or_eq_false_iff] at hc22
      refine KC.skip ?_
      refine KQ.seq (KC.seq (KC.block (KC.seq (KC.region (KL.op (R.move rfl rfl) rfl rfl rfl (KL.op (R.move rfl rfl) rfl rfl rfl ?_))))))
      refine KL.call rfl rfl rfl rfl Tryd.call55 rfl rfl rfl (bit_k a k ha2 (by omega)) ?_
      rintro _ _ ⟨rfl, rfl⟩
      refine KL.op (R.move rfl rfl) rfl rfl rfl (KL.op (R.move rfl rfl) rfl rfl rfl ?_)
      refine KL.call rfl rfl rfl rfl Tryd.call55 rfl rfl rfl (bit_k b k hb2 (by omega)) ?_
      rintro _ _ ⟨rfl, rfl⟩
      refine KL.op (R.assign rfl rfl) rfl rfl rfl (KL.op (R.assign rfl rfl) rfl rfl rfl (KL.nil (KQ.seq (KC.seq (KC.region (KL.op (R.assign rfl rfl) rfl rfl rfl (KL.nil (KQ.seq (KC.seq ?_)))))))))
      refine KC.seq (KC.region (KL.op (R.move rfl rfl) rfl rfl rfl (KL.nil (KQ.seq (KC.block (KC.seq (KC.region ?_)))))))
      refine KL.op ((R.eql rfl rfl rfl).val (congrArg Value.bool (decide_eq_true (by decide)))) rfl rfl rfl ?_
      refine KL.op (R.assign rfl rfl) rfl rfl rfl (KL.nil (KQ.seq (KC.condT rfl (KC.region (KL.op (R.move rfl rfl) rfl rfl rfl (KL.op (R.move rfl rfl) rfl rfl rfl ?_))))))
      have hba := Wr.bit_lt a k
      have hbb := Wr.bit_lt b k
      have hmm : Wr.bit a k * Wr.bit b k ≤ 1 := Wr.bitF_lt 0 a b 64 k
      refine KL.op ((R.mul rfl rfl rfl (by rw [Wr.mulbit]; dsimp only [InR]; omega)).val (congrArg (Value.int .u64) (Wr.mulbit a b k))) rfl rfl rfl ?_
      refine KL.op (R.assign rfl rfl) rfl rfl rfl (KL.nil (KQ.normBlock (KQ.seq ?_)))
      have hbf : Wr.bitF 0 a b 64 k = Wr.bit a k * Wr.bit b k := rfl
      have hb1 := Wr.bitF_lt 0 a b 64 k
      have zv := wv.lt
      refine KC.region (KL.op (R.move rfl rfl) rfl rfl rfl (KL.op (R.move rfl rfl) rfl rfl rfl ?_))
      refine KL.opM (M.lit rfl Tryd.underlying61 zs22 (by decide) rfl rfl rfl) rfl rfl rfl ?_
      rintro _ H2 ⟨rfl, n2⟩
      have z2 := n2.2.1
      have o0 := o0.trans n2.1
      have wv := wv.old n2.1
      have b2 := n2.2.2
      have h1 : Sl 1 (EInt .u64) H2 _ [((Wr.bit a k * Wr.bit b k : Nat) : Int)] := Sl.lits (l := [((Wr.bit a k * Wr.bit b k : Nat) : Int)]) n2 rfl (by simp) (by intro x hx; simp only [List.mem_cons, List.not_mem_nil, or_false] at hx; subst hx; rw [← hbf]; dsimp only [InR]; omega)
      have lt3 := wv.lt
      refine KL.opM (M.append rfl Tryd.underlying61 inf22 rfl (by decide) rfl rfl wv (by exact h1) (fun _ _ h _ => h) (by omega) (by simp only [List.length_singleton]; omega) (by unfold maxLen; simp only [List.length_singleton]; omega)) rfl rfl rfl ?_
      rintro vn H3 ⟨w3, g3⟩
      try dsimp only at g3
      have ob3 := g3.oldB wv (by omega)
      have o0 := o0.then ob3 (by omega)
      have z3 := ob3.1
      have wv := w3
      refine KL.op (R.assign rfl rfl) rfl rfl rfl (KL.nil (KQ.normBlock (KQ.seq (KC.region (KL.op (R.move rfl rfl) rfl rfl rfl ?_)))))
      refine KL.op ((R.add rfl rfl rfl (by dsimp only [InR]; omega)).val (congrArg (Value.int .i64) (show (k : Int) + 1 = ((k + 1 : Nat) : Int) by omega))) rfl rfl rfl ?_
      refine KL.op (R.assign rfl rfl) rfl rfl rfl (KL.nil ?_)
      refine KQ.again ((k + 1, vn)) ?_ ?_ ?_
      · exact (Sub.cons rfl (Sub.cons rfl (Ext.sub (by repeat (first | exact Ext.refl _ _ | refine Ext.put rfl ?_ | refine Ext.drop rfl ?_)))))
      · show 64 - (k + 1) < 64 - k; omega
      · exact ⟨by show k + 1 ≤ _; omega, o0, by dsimp only; rw [Wr.rows_succ, hbf]; exact wv⟩
    · intro hc22
      try simp only [decide_eq_true_eq, decide_eq_false_iff_not, Bool.not_eq_true', Bool.not_eq_false', Bool.and_eq_true, Bool.or_eq_false_iff] at hc22
      have hkn : k = 64 := by omega
      subst hkn
      refine KC.exit ?_
      refine KQ.exitThen ?_
      refine KQ.exitThen ?_
      refine KQ.hit ?_
      refine KQ.seq (KC.seq (KC.region (KL.op (R.move rfl rfl) rfl rfl rfl ?_)))
      refine KL.call rfl rfl rfl rfl Tryd.call56 rfl rfl rfl (with_k (wv.sl (emptyOld _) (by decide)) (Wr.rows_R _ _ _ _ _) (by rw [Wr.rows_len]; omega)) ?_
      rintro _ _ ⟨rfl, rfl⟩
      refine KL.op (R.assign rfl rfl) rfl rfl rfl (KL.nil (KQ.seq (KC.ret (KQ.ofRet ?_))))
      refine KQ.fin1 Tryd.results27 rfl ?_
      exact ⟨rfl, o0⟩

set_option maxRecDepth 100000 in
set_option maxHeartbeats 4000000 in
theorem Bits64_1 {H : Heap} (a b : Nat) (ha : a < 18446744073709551616) (hb : b < 18446744073709551616) : Ct Tryd.prog 27 [.int .i64 1, .int .u64 (a : Nat), .int .u64 (b : Nat), .int .i64 64] H (fun u H' => u = .int .u64 (Wr.with_ (Wr.rows 1 a b 64 64)) ∧ Old H H') := by
  refine Ct.mk Tryd.func27 rfl Tryd.ntmps27 rfl ?_
  intro W0 hW0
  have o0 : Old H H := Old.refl H
  have ha2 : a < 18446744073709551616 := by omega
  have hb2 : b < 18446744073709551616 := by omega
  refine KC.seq (KC.region (KL.op (R.assign rfl rfl) rfl rfl rfl (KL.nil (KQ.seq (KC.seq (KC.region (KL.op (R.move rfl rfl) rfl rfl rfl (KL.op (R.move rfl rfl) rfl rfl rfl ?_))))))))
  refine KL.op (R.convI rfl Tryd.underlying3 Tryd.underlying22 rfl (by dsimp only [InR]; omega)) rfl rfl rfl ?_
  refine KL.op ((R.rem rfl rfl rfl (Int.natCast_nonneg _) (by decide)).val (congrArg (Value.int .u64) (show ((b : Nat) : Int) % 64 = ((b % 64 : Nat) : Int) by omega))) rfl rfl rfl ?_
  refine KL.op (R.convI rfl Tryd.underlying22 Tryd.underlying3 rfl (by dsimp only [InR]; omega)) rfl rfl rfl ?_
  refine KL.op (R.assign rfl rfl) rfl rfl rfl (KL.nil (KQ.seq (KC.seq (KC.region (KL.op (R.assign rfl rfl) rfl rfl rfl (KL.nil (KQ.seq (KC.seq (KC.seq ?_)))))))))
  refine KC.region (KL.op (R.assign rfl rfl) rfl rfl rfl (KL.nil (KQ.seq (KC.block ?_))))
  refine KC.loopD (κ := Nat × Value) [20, 21, 22, 25, 26, 27, 28, 29, 30, 12, 13, 14, 31, 33, 32, 34, 35, 36, 38, 37, 39, 40, 41, 42, 43, 45, 44, 46, 47, 48, 49, 51, 50, 52, 53, 54, 55, 56, 57, 58, 59, 61, 60, 62, 63, 64, 65, 66, 67, 68, 69, 70, 71, 72, 73, 74, 75, 76, 77, 78, 80, 79, 81, 82, 83, 84, 85, 86, 87, 88, 89, 91, 90, 92, 93, 94, 95, 96, 97, 98, 99, 100, 101, 102, 10, 23, 24, 11] (fun k => [(11, .int .i64 (k.1 : Nat)), (10, k.2)]) (fun k Hl => k.1 ≤ 64 ∧ Old H Hl ∧ Own 1 (EInt .u64) 22 #[] H.size Hl k.2 (Wr.rows 1 a b 64 k.1)) (fun k => 64 - k.1) (0, .slice none 0 0) ?_ ?_ ?_
  · exact (Sub.cons rfl (Sub.cons rfl (Ext.sub (Ext.refl _ _))))
  · exact ⟨Nat.zero_le _, o0, Own.nil _ _ _ _ _ _⟩
  · rintro ⟨k, v⟩ H1 ⟨hk, o0, wv⟩
    have zl_H1 := o0.1
    dsimp only at hk wv
    have zl := o0.1
    have hrl := Wr.rows_len 1 a b 64 k
    refine KC.seq (KC.seq (KC.region (KL.op (R.move rfl rfl) rfl rfl rfl (KL.op (R.move rfl rfl) rfl rfl rfl ?_))))
    refine KL.op (R.lss rfl rfl rfl) rfl rfl rfl ?_
    refine KL.nil (KQ.seq ?_)
    refine KC.iteL rfl ?_ ?_
    · intro hc22
      try simp only [decide_eq_true_eq, decide_eq_false_iff_not, Bool.not_eq_true', Bool.not_eq_false', Bool.and_eq_true, Bool.or_eq_false_iff] at hc22
      refine KC.skip ?_
      refine KQ.seq (KC.seq (KC.block (KC.seq (KC.region (KL.op (R.move rfl rfl) rfl rfl rfl (KL.op (R.move rfl rfl) rfl rfl rfl ?_))))))
      refine KL.call rfl rfl rfl rfl Tryd.call55 rfl rfl rfl (bit_k a k ha2 (by omega)) ?_
      rintro _ _ ⟨rfl, rfl⟩
      refine KL.op (R.move rfl rfl) rfl rfl rfl (KL.op (R.move rfl rfl) rfl rfl rfl ?_)
      refine KL.call rfl rfl rfl rfl Tryd.call55 rfl rfl rfl (bit_k b k hb2 (by omega)) ?_
      rintro _ _ ⟨rfl, rfl⟩
      refine KL.op (R.assign rfl rfl) rfl rfl rfl (KL.op (R.assign rfl rfl) rfl rfl rfl (KL.nil (KQ.seq (KC.seq (KC.region (KL.op (R.assign rfl rfl) rfl rfl rfl (KL.nil (KQ.seq (KC.seq ?_)))))))))
      refine KC.seq (KC.region (KL.op (R.move rfl rfl) rfl rfl rfl (KL.nil (KQ.seq (KC.block (KC.seq (KC.region ?_)))))))
      refine KL.op ((R.eql rfl rfl rfl).val (congrArg Value.bool (decide_eq_false (by decide)))) rfl rfl rfl ?_
      refine KL.op (R.assign rfl rfl) rfl rfl rfl (KL.nil (KQ.seq (KC.condF rfl (KC.seq (KC.region ?_)))))
      refine KL.op ((R.eql rfl rfl rfl).val (congrArg Value.bool (decide_eq_true (by decide)))) rfl rfl rfl ?_
      refine KL.op (R.assign rfl rfl) rfl rfl rfl (KL.nil (KQ.seq (KC.condT rfl (KC.region (KL.op (R.move rfl rfl) rfl rfl rfl (KL.op (R.move rfl rfl) rfl rfl rfl ?_))))))
      have hba := Wr.bit_lt a k
      have hbb := Wr.bit_lt b k
      refine KL.op (R.add rfl rfl rfl (by dsimp only [InR]; omega)) rfl rfl rfl ?_
      refine KL.op (R.gtr rfl rfl rfl) rfl rfl rfl ?_
      refine KL.call rfl rfl rfl rfl Tryd.call24 rfl rfl rfl (rone_k _) ?_
      rintro _ _ ⟨rfl, rfl⟩
      rw [show Wd.one (decide ((0 : Int) < (Wr.bit a k : Nat) + (Wr.bit b k : Nat))) = ((if 0 < Wr.bit a k + Wr.bit b k then 1 else 0 : Nat) : Int) by unfold Wd.one; by_cases h : 0 < Wr.bit a k + Wr.bit b k <;> simp [h] <;> omega]
      refine KL.op (R.assign rfl rfl) rfl rfl rfl (KL.nil (KQ.normBlock (KQ.seq ?_)))
      have hbf : Wr.bitF 1 a b 64 k = (if 0 < Wr.bit a k + Wr.bit b k then 1 else 0) := rfl
      have hb1 := Wr.bitF_lt 1 a b 64 k
      have zv := wv.lt
      refine KC.region (KL.op (R.move rfl rfl) rfl rfl rfl (KL.op (R.move rfl rfl) rfl rfl rfl ?_))
      refine KL.opM (M.lit rfl Tryd.underlying61 zs22 (by decide) rfl rfl rfl) rfl rfl rfl ?_
      rintro _ H2 ⟨rfl, n2⟩
      have z2 := n2.2.1
      have o0 := o0.trans n2.1
      have wv := wv.old n2.1
      have b2 := n2.2.2
      have h1 : Sl 1 (EInt .u64) H2 _ [(((if 0 < Wr.bit a k + Wr.bit b k then 1 else 0) : Nat) : Int)] := Sl.lits (l := [(((if 0 < Wr.bit a k + Wr.bit b k then 1 else 0) : Nat) : Int)]) n2 rfl (by simp) (by intro x hx; simp only [List.mem_cons, List.not_mem_nil, or_false] at hx; subst hx; rw [← hbf]; dsimp only [InR]; omega)
      have lt3 := wv.lt
      refine KL.opM (M.append rfl Tryd.underlying61 inf22 rfl (by decide) rfl rfl wv (by exact h1) (fun _ _ h _ => h) (by omega) (by simp only [List.length_singleton]; omega) (by unfold maxLen; simp only [List.length_singleton]; omega)) rfl rfl rfl ?_
      rintro vn H3 ⟨w3, g3⟩
      try dsimp only at g3
      have ob3 := g3.oldB wv (by omega)
      have o0 := o0.then ob3 (by omega)
      have z3 := ob3.1
      have wv := w3
      refine KL.op (R.assign rfl rfl) rfl rfl rfl (KL.nil (KQ.normBlock (KQ.seq (KC.region (KL.op (R.move rfl rfl) rfl rfl rfl ?_)))))
      refine KL.op ((R.add rfl rfl rfl (by dsimp only [InR]; omega)).val (congrArg (Value.int .i64) (show (k : Int) + 1 = ((k + 1 : Nat) : Int) by omega))) rfl rfl rfl ?_
      refine KL.op (R.assign rfl rfl) rfl rfl rfl (KL.nil ?_)
      refine KQ.again ((k + 1, vn)) ?_ ?_ ?_
      · exact (Sub.cons rfl (Sub.cons rfl (Ext.sub (by repeat (first | exact Ext.refl _ _ | refine Ext.put rfl ?_ | refine Ext.drop rfl ?_)))))
      · show 64 - (k + 1) < 64 - k; omega
      · exact ⟨by show k + 1 ≤ _; omega, o0, by dsimp only; rw [Wr.rows_succ, hbf]; exact wv⟩
    · intro hc22
      try simp only [decide_eq_true_eq, decide_eq_false_iff_not, Bool.not_eq_true', Bool.not_eq_false', Bool.and_eq_true, Bool.or_eq_false_iff] at hc22
      have hkn : k = 64 := by omega
      subst hkn
      refine KC.exit ?_
      refine KQ.exitThen ?_
      refine KQ.exitThen ?_
      refine KQ.hit ?_
      refine KQ.seq (KC.seq (KC.region (KL.op (R.move rfl rfl) rfl rfl rfl ?_)))
      refine KL.call rfl rfl rfl rfl Tryd.call56 rfl rfl rfl (with_k (wv.sl (emptyOld _) (by decide)) (Wr.rows_R _ _ _ _ _) (by rw [Wr.rows_len]; omega)) ?_
      rintro _ _ ⟨rfl, rfl⟩
      refine KL.op (R.assign rfl rfl) rfl rfl rfl (KL.nil (KQ.seq (KC.ret (KQ.ofRet ?_))))
      refine KQ.fin1 Tryd.results27 rfl ?_
      exact ⟨rfl, o0⟩

set_option maxRecDepth 100000 in
set_option maxHeartbeats 4000000 in
theorem Bits64_2 {H : Heap} (a b : Nat) (ha : a < 18446744073709551616) (hb : b < 18446744073709551616) : Ct Tryd.prog 27 [.int .i64 2, .int .u64 (a : Nat), .int .u64 (b : Nat), .int .i64 64] H (fun u H' => u = .int .u64 (Wr.with_ (Wr.rows 2 a b 64 64)) ∧ Old H H') := by
  refine Ct.mk Tryd.func27 rfl Tryd.ntmps27 rfl ?_
  intro W0 hW0
  have o0 : Old H H := Old.refl H
  have ha2 : a < 18446744073709551616 := by omega
  have hb2 : b < 18446744073709551616 := by omega
  refine KC.seq (KC.region (KL.op (R.assign rfl rfl) rfl rfl rfl (KL.nil (KQ.seq (KC.seq (KC.region (KL.op (R.move rfl rfl) rfl rfl rfl (KL.op (R.move rfl rfl) rfl rfl rfl ?_))))))))
  refine KL.op (R.convI rfl Tryd.underlying3 Tryd.underlying22 rfl (by dsimp only [InR]; omega)) rfl rfl rfl ?_
  refine KL.op ((R.rem rfl rfl rfl (Int.natCast_nonneg _) (by decide)).val (congrArg (Value.int .u64) (show ((b : Nat) : Int) % 64 = ((b % 64 : Nat) : Int) by omega))) rfl rfl rfl ?_
  refine KL.op (R.convI rfl Tryd.underlying22 Tryd.underlying3 rfl (by dsimp only [InR]; omega)) rfl rfl rfl ?_
  refine KL.op (R.assign rfl rfl) rfl rfl rfl (KL.nil (KQ.seq (KC.seq (KC.region (KL.op (R.assign rfl rfl) rfl rfl rfl (KL.nil (KQ.seq (KC.seq (KC.seq ?_)))))))))
  refine KC.region (KL.op (R.assign rfl rfl) rfl rfl rfl (KL.nil (KQ.seq (KC.block ?_))))
  refine KC.loopD (κ := Nat × Value) [20, 21, 22, 25, 26, 27, 28, 29, 30, 12, 13, 14, 31, 33, 32, 34, 35, 36, 38, 37, 39, 40, 41, 42, 43, 45, 44, 46, 47, 48, 49, 51, 50, 52, 53, 54, 55, 56, 57, 58, 59, 61, 60, 62, 63, 64, 65, 66, 67, 68, 69, 70, 71, 72, 73, 74, 75, 76, 77, 78, 80, 79, 81, 82, 83, 84, 85, 86, 87, 88, 89, 91, 90, 92, 93, 94, 95, 96, 97, 98, 99, 100, 101, 102, 10, 23, 24, 11] (fun k => [(11, .int .i64 (k.1 : Nat)), (10, k.2)]) (fun k Hl => k.1 ≤ 64 ∧ Old H Hl ∧ Own 1 (EInt .u64) 22 #[] H.size Hl k.2 (Wr.rows 2 a b 64 k.1)) (fun k => 64 - k.1) (0, .slice none 0 0) ?_ ?_ ?_
  · exact (Sub.cons rfl (Sub.cons rfl (Ext.sub (Ext.refl _ _))))
  · exact ⟨Nat.zero_le _, o0, Own.nil _ _ _ _ _ _⟩
  · rintro ⟨k, v⟩ H1 ⟨hk, o0, wv⟩
    have zl_H1 := o0.1
    dsimp only at hk wv
    have zl := o0.1
    have hrl := Wr.rows_len 2 a b 64 k
    refine KC.seq (KC.seq (KC.region (KL.op (R.move rfl rfl) rfl rfl rfl (KL.op (R.move rfl rfl) rfl rfl rfl ?_))))
    refine KL.op (R.lss rfl rfl rfl) rfl rfl rfl ?_
    refine KL.nil (KQ.seq ?_)
    refine KC.iteL rfl ?_ ?_
    · intro hc22
      try simp only [decide_eq_true_eq, decide_eq_false_iff_not, Bool.not_eq_true', Bool.not_eq_false', Bool.and_eq_true, Bool.or_eq_false_iff] at hc22
      refine KC.skip ?_
      refine KQ.seq (KC.seq (KC.block (KC.seq (KC.region (KL.op (R.move rfl rfl) rfl rfl rfl (KL.op (R.move rfl rfl) rfl rfl rfl ?_))))))
      refine KL.call rfl rfl rfl rfl Tryd.call55 rfl rfl rfl (bit_k a k ha2 (by omega)) ?_
      rintro _ _ ⟨rfl, rfl⟩
      refine KL.op (R.move rfl rfl) rfl rfl rfl (KL.op (R.move rfl rfl) rfl rfl rfl ?_)
      refine KL.call rfl rfl rfl rfl Tryd.call55 rfl rfl rfl (bit_k b k hb2 (by omega)) ?_
      rintro _ _ ⟨rfl, rfl⟩
      refine KL.op (R.assign rfl rfl) rfl rfl rfl (KL.op (R.assign rfl rfl) rfl rfl rfl (KL.nil (KQ.seq (KC.seq (KC.region (KL.op (R.assign rfl rfl) rfl rfl rfl (KL.nil (KQ.seq (KC.seq ?_)))))))))
      refine KC.seq (KC.region (KL.op (R.move rfl rfl) rfl rfl rfl (KL.nil (KQ.seq (KC.block (KC.seq (KC.region ?_)))))))
      refine KL.op ((R.eql rfl rfl rfl).val (congrArg Value.bool (decide_eq_false (by decide)))) rfl rfl rfl ?_
      refine KL.op (R.assign rfl rfl) rfl rfl rfl (KL.nil (KQ.seq (KC.condF rfl (KC.seq (KC.region ?_)))))
      refine KL.op ((R.eql rfl rfl rfl).val (congrArg Value.bool (decide_eq_false (by decide)))) rfl rfl rfl ?_
      refine KL.op (R.assign rfl rfl) rfl rfl rfl (KL.nil (KQ.seq (KC.condF rfl (KC.seq (KC.region ?_)))))
      refine KL.op ((R.eql rfl rfl rfl).val (congrArg Value.bool (decide_eq_true (by decide)))) rfl rfl rfl ?_
      refine KL.op (R.assign rfl rfl) rfl rfl rfl (KL.nil (KQ.seq (KC.condT rfl (KC.region (KL.op (R.move rfl rfl) rfl rfl rfl (KL.op (R.move rfl rfl) rfl rfl rfl ?_))))))
      refine KL.op (R.neq rfl rfl rfl) rfl rfl rfl ?_
      refine KL.call rfl rfl rfl rfl Tryd.call24 rfl rfl rfl (rone_k _) ?_
      rintro _ _ ⟨rfl, rfl⟩
      rw [show Wd.one (!decide (((Wr.bit a k : Nat) : Int) = (Wr.bit b k : Nat))) = ((if Wr.bit a k = Wr.bit b k then 0 else 1 : Nat) : Int) by unfold Wd.one; by_cases h : Wr.bit a k = Wr.bit b k <;> simp [h] <;> omega]
      refine KL.op (R.assign rfl rfl) rfl rfl rfl (KL.nil (KQ.normBlock (KQ.seq ?_)))
      have hbf : Wr.bitF 2 a b 64 k = (if Wr.bit a k = Wr.bit b k then 0 else 1) := rfl
      have hb1 := Wr.bitF_lt 2 a b 64 k
      have zv := wv.lt
      refine KC.region (KL.op (R.move rfl rfl) rfl rfl rfl (KL.op (R.move rfl rfl) rfl rfl rfl ?_))
      refine KL.opM (M.lit rfl Tryd.underlying61 zs22 (by decide) rfl rfl rfl) rfl rfl rfl ?_
      rintro _ H2 ⟨rfl, n2⟩
      have z2 := n2.2.1
      have o0 := o0.trans n2.1
      have wv := wv.old n2.1
      have b2 := n2.2.2
      have h1 : Sl 1 (EInt .u64) H2 _ [(((if Wr.bit a k = Wr.bit b k then 0 else 1) : Nat) : Int)] := Sl.lits (l := [(((if Wr.bit a k = Wr.bit b k then 0 else 1) : Nat) : Int)]) n2 rfl (by simp) (by intro x hx; simp only [List.mem_cons, List.not_mem_nil, or_false] at hx; subst hx; rw [← hbf]; dsimp only [InR]; omega)
      have lt3 := wv.lt
      refine KL.opM (M.append rfl Tryd.underlying61 inf22 rfl (by decide) rfl rfl wv (by exact h1) (fun _ _ h _ => h) (by omega) (by simp only [List.length_singleton]; omega) (by unfold maxLen; simp only [List.length_singleton]; omega)) rfl rfl rfl ?_
      rintro vn H3 ⟨w3, g3⟩
      try dsimp only at g3
      have ob3 := g3.oldB wv (by omega)
      have o0 := o0.then ob3 (by omega)
      have z3 := ob3.1
      have wv := w3
      refine KL.op (R.assign rfl rfl) rfl rfl rfl (KL.nil (KQ.normBlock (KQ.seq (KC.region (KL.op (R.move rfl rfl) rfl rfl rfl ?_)))))
      refine KL.op ((R.add rfl rfl rfl (by dsimp only [InR]; omega)).val (congrArg (Value.int .i64) (show (k : Int) + 1 = ((k + 1 : Nat) : Int) by omega))) rfl rfl rfl ?_
      refine KL.op (R.assign rfl rfl) rfl rfl rfl (KL.nil ?_)
      refine KQ.again ((k + 1, vn)) ?_ ?_ ?_
      · exact (Sub.cons rfl (Sub.cons rfl (Ext.sub (by repeat (first | exact Ext.refl _ _ | refine Ext.put rfl ?_ | refine Ext.drop rfl ?_)))))
      · show 64 - (k + 1) < 64 - k; omega
      · exact ⟨by show k + 1 ≤ _; omega, o0, by dsimp only; rw [Wr.rows_succ, hbf]; exact wv⟩
    · intro hc22
      try simp only [decide_eq_true_eq, decide_eq_false_iff_not, Bool.not_eq_true', Bool.not_eq_false', Bool.and_eq_true, Bool.or_eq_false_iff] at hc22
      have hkn : k = 64 := by omega
      subst hkn
      refine KC.exit ?_
      refine KQ.exitThen ?_
      refine KQ.exitThen ?_
      refine KQ.hit ?_
      refine KQ.seq (KC.seq (KC.region (KL.op (R.move rfl rfl) rfl rfl rfl ?_)))
      refine KL.call rfl rfl rfl rfl Tryd.call56 rfl rfl rfl (with_k (wv.sl (emptyOld _) (by decide)) (Wr.rows_R _ _ _ _ _) (by rw [Wr.rows_len]; omega)) ?_
      rintro _ _ ⟨rfl, rfl⟩
      refine KL.op (R.assign rfl rfl) rfl rfl rfl (KL.nil (KQ.seq (KC.ret (KQ.ofRet ?_))))
      refine KQ.fin1 Tryd.results27 rfl ?_
      exact ⟨rfl, o0⟩

set_option maxRecDepth 100000 in
set_option maxHeartbeats 4000000 in
theorem Bits64_3 {H : Heap} (a b : Nat) (ha : a < 18446744073709551616) (hb : b < 18446744073709551616) : Ct Tryd.prog 27 [.int .i64 3, .int .u64 (a : Nat), .int .u64 (b : Nat), .int .i64 64] H (fun u H' => u = .int .u64 (Wr.with_ (Wr.rows 3 a b 64 64)) ∧ Old H H') := by
  refine Ct.mk Tryd.func27 rfl Tryd.ntmps27 rfl ?_
  intro W0 hW0
  have o0 : Old H H := Old.refl H
  have ha2 : a < 18446744073709551616 := by omega
  have hb2 : b < 18446744073709551616 := by omega
  refine KC.seq (KC.region (KL.op (R.assign rfl rfl) rfl rfl rfl (KL.nil (KQ.seq (KC.seq (KC.region (KL.op (R.move rfl rfl) rfl rfl rfl (KL.op (R.move rfl rfl) rfl rfl rfl ?_))))))))
  refine KL.op (R.convI rfl Tryd.underlying3 Tryd.underlying22 rfl (by dsimp only [InR]; omega)) rfl rfl rfl ?_
  refine KL.op ((R.rem rfl rfl rfl (Int.natCast_nonneg _) (by decide)).val (congrArg (Value.int .u64) (show ((b : Nat) : Int) % 64 = ((b % 64 : Nat) : Int) by omega))) rfl rfl rfl ?_
  refine KL.op (R.convI rfl Tryd.underlying22 Tryd.underlying3 rfl (by dsimp only [InR]; omega)) rfl rfl rfl ?_
  refine KL.op (R.assign rfl rfl) rfl rfl rfl (KL.nil (KQ.seq (KC.seq (KC.region (KL.op (R.assign rfl rfl) rfl rfl rfl (KL.nil (KQ.seq (KC.seq (KC.seq ?_)))))))))
  refine KC.region (KL.op (R.assign rfl rfl) rfl rfl rfl (KL.nil (KQ.seq (KC.block ?_))))
  refine KC.loopD (κ := Nat × Value) [20, 21, 22, 25, 26, 27, 28, 29, 30, 12, 13, 14, 31, 33, 32, 34, 35, 36, 38, 37, 39, 40, 41, 42, 43, 45, 44, 46, 47, 48, 49, 51, 50, 52, 53, 54, 55, 56, 57, 58, 59, 61, 60, 62, 63, 64, 65, 66, 67, 68, 69, 70, 71, 72, 73, 74, 75, 76, 77, 78, 80, 79, 81, 82, 83, 84, 85, 86, 87, 88, 89, 91, 90, 92, 93, 94, 95, 96, 97, 98, 99, 100, 101, 102, 10, 23, 24, 11] (fun k => [(11, .int .i64 (k.1 : Nat)), (10, k.2)]) (fun k Hl => k.1 ≤ 64 ∧ Old H Hl ∧ Own 1 (EInt .u64) 22 #[] H.size Hl k.2 (Wr.rows 3 a b 64 k.1)) (fun k => 64 - k.1) (0, .slice none 0 0) ?_ ?_ ?_
  · exact (Sub.cons rfl (Sub.cons rfl (Ext.sub (Ext.refl _ _))))
  · exact ⟨Nat.zero_le _, o0, Own.nil _ _ _ _ _ _⟩
  · rintro ⟨k, v⟩ H1 ⟨hk, o0, wv⟩
    have zl_H1 := o0.1
    dsimp only at hk wv
    have zl := o0.1
    have hrl := Wr.rows_len 3 a b 64 k
    refine KC.seq (KC.seq (KC.region (KL.op (R.move rfl rfl) rfl rfl rfl (KL.op (R.move rfl rfl) rfl rfl rfl ?_))))
    refine KL.op (R.lss rfl rfl rfl) rfl rfl rfl ?_
    refine KL.nil (KQ.seq ?_)
    refine KC.iteL rfl ?_ ?_
    · intro hc22
      try simp only [decide_eq_true_eq, decide_eq_false_iff_not, Bool.not_eq_true', Bool.not_eq_false', Bool.and_eq_true, Bool.or_eq_false_iff] at hc22
      refine KC.skip ?_
      refine KQ.seq (KC.seq (KC.block (KC.seq (KC.region (KL.op (R.move rfl rfl) rfl rfl rfl (KL.op (R.move rfl rfl) rfl rfl rfl ?_))))))
      refine KL.call rfl rfl rfl rfl Tryd.call55 rfl rfl rfl (bit_k a k ha2 (by omega)) ?_
      rintro _ _ ⟨rfl, rfl⟩
      refine KL.op (R.move rfl rfl) rfl rfl rfl (KL.op (R.move rfl rfl) rfl rfl rfl ?_)
      refine KL.call rfl rfl rfl rfl Tryd.call55 rfl rfl rfl (bit_k b k hb2 (by omega)) ?_
      rintro _ _ ⟨rfl, rfl⟩
      refine KL.op (R.assign rfl rfl) rfl rfl rfl (KL.op (R.assign rfl rfl) rfl rfl rfl (KL.nil (KQ.seq (KC.seq (KC.region (KL.op (R.assign rfl rfl) rfl rfl rfl (KL.nil (KQ.seq (KC.seq ?_)))))))))
      refine KC.seq (KC.region (KL.op (R.move rfl rfl) rfl rfl rfl (KL.nil (KQ.seq (KC.block (KC.seq (KC.region ?_)))))))
      refine KL.op ((R.eql rfl rfl rfl).val (congrArg Value.bool (decide_eq_false (by decide)))) rfl rfl rfl ?_
      refine KL.op (R.assign rfl rfl) rfl rfl rfl (KL.nil (KQ.seq (KC.condF rfl (KC.seq (KC.region ?_)))))
      refine KL.op ((R.eql rfl rfl rfl).val (congrArg Value.bool (decide_eq_false (by decide)))) rfl rfl rfl ?_
      refine KL.op (R.assign rfl rfl) rfl rfl rfl (KL.nil (KQ.seq (KC.condF rfl (KC.seq (KC.region ?_)))))
      refine KL.op ((R.eql rfl rfl rfl).val (congrArg Value.bool (decide_eq_false (by decide)))) rfl rfl rfl ?_
      refine KL.op (R.assign rfl rfl) rfl rfl rfl (KL.nil (KQ.seq (KC.condF rfl (KC.seq (KC.region ?_)))))
      refine KL.op ((R.eql rfl rfl rfl).val (congrArg Value.bool (decide_eq_true (by decide)))) rfl rfl rfl ?_
      refine KL.op (R.assign rfl rfl) rfl rfl rfl (KL.nil (KQ.seq (KC.condT rfl (KC.seq (KC.region (KL.op (R.move rfl rfl) rfl rfl rfl (KL.op (R.move rfl rfl) rfl rfl rfl ?_)))))))
      refine KL.op (R.geq rfl rfl rfl) rfl rfl rfl ?_
      refine KL.nil (KQ.seq ?_)
      refine KC.iteL rfl ?_ ?_
      · intro hc54
        try simp only [decide_eq_true_eq, decide_eq_false_iff_not, Bool.not_eq_true', Bool.not_eq_false', Bool.and_eq_true, Bool.or_eq_false_iff] at hc54
        refine KC.region (KL.op (R.move rfl rfl) rfl rfl rfl (KL.op (R.move rfl rfl) rfl rfl rfl (KL.op (R.move rfl rfl) rfl rfl rfl ?_)))
        refine KL.op ((R.sub rfl rfl rfl (by dsimp only [InR]; omega)).val (congrArg (Value.int .i64) (show (k : Int) - (b % 64 : Nat) = ((k - b % 64 : Nat) : Int) by omega))) rfl rfl rfl ?_
        refine KL.call rfl rfl rfl rfl Tryd.call55 rfl rfl rfl (bit_k a (k - (b % 64)) ha2 (by omega)) ?_
        rintro _ _ ⟨rfl, rfl⟩
        refine KL.op (R.assign rfl rfl) rfl rfl rfl (KL.nil (KQ.normBlock (KQ.seq ?_)))
        have hbf : Wr.bitF 3 a b 64 k = Wr.bit a (k - (b % 64)) := (show Wr.bitF 3 a b 64 k = (if b % 64 ≤ k then Wr.bit a (k - b % 64) else 0) from rfl).trans (if_pos (by omega))
        have hb1 := Wr.bitF_lt 3 a b 64 k
        have zv := wv.lt
        refine KC.region (KL.op (R.move rfl rfl) rfl rfl rfl (KL.op (R.move rfl rfl) rfl rfl rfl ?_))
        refine KL.opM (M.lit rfl Tryd.underlying61 zs22 (by decide) rfl rfl rfl) rfl rfl rfl ?_
        rintro _ H2 ⟨rfl, n2⟩
        have z2 := n2.2.1
        have o0 := o0.trans n2.1
        have wv := wv.old n2.1
        have b2 := n2.2.2
        have h1 : Sl 1 (EInt .u64) H2 _ [((Wr.bit a (k - (b % 64)) : Nat) : Int)] := Sl.lits (l := [((Wr.bit a (k - (b % 64)) : Nat) : Int)]) n2 rfl (by simp) (by intro x hx; simp only [List.mem_cons, List.not_mem_nil, or_false] at hx; subst hx; rw [← hbf]; dsimp only [InR]; omega)
        have lt3 := wv.lt
        refine KL.opM (M.append rfl Tryd.underlying61 inf22 rfl (by decide) rfl rfl wv (by exact h1) (fun _ _ h _ => h) (by omega) (by simp only [List.length_singleton]; omega) (by unfold maxLen; simp only [List.length_singleton]; omega)) rfl rfl rfl ?_
        rintro vn H3 ⟨w3, g3⟩
        try dsimp only at g3
        have ob3 := g3.oldB wv (by omega)
        have o0 := o0.then ob3 (by omega)
        have z3 := ob3.1
        have wv := w3
        refine KL.op (R.assign rfl rfl) rfl rfl rfl (KL.nil (KQ.normBlock (KQ.seq (KC.region (KL.op (R.move rfl rfl) rfl rfl rfl ?_)))))
        refine KL.op ((R.add rfl rfl rfl (by dsimp only [InR]; omega)).val (congrArg (Value.int .i64) (show (k : Int) + 1 = ((k + 1 : Nat) : Int) by omega))) rfl rfl rfl ?_
        refine KL.op (R.assign rfl rfl) rfl rfl rfl (KL.nil ?_)
        refine KQ.again ((k + 1, vn)) ?_ ?_ ?_
        · exact (Sub.cons rfl (Sub.cons rfl (Ext.sub (by repeat (first | exact Ext.refl _ _ | refine Ext.put rfl ?_ | refine Ext.drop rfl ?_)))))
        · show 64 - (k + 1) < 64 - k; omega
        · exact ⟨by show k + 1 ≤ _; omega, o0, by dsimp only; rw [Wr.rows_succ, hbf]; exact wv⟩
      · intro hc54
        try simp only [decide_eq_true_eq, decide_eq_false_iff_not, Bool.not_eq_true', Bool.not_eq_false', Bool.and_eq_true, Bool.or_eq_false_iff] at hc54
        refine KC.skip ?_
        refine KQ.normBlock (KQ.seq ?_)
        have hbf : Wr.bitF 3 a b 64 k = 0 := (show Wr.bitF 3 a b 64 k = (if b % 64 ≤ k then Wr.bit a (k - b % 64) else 0) from rfl).trans (if_neg (by omega))
        have hb1 := Wr.bitF_lt 3 a b 64 k
        have zv := wv.lt
        refine KC.region (KL.op (R.move rfl rfl) rfl rfl rfl (KL.op (R.move rfl rfl) rfl rfl rfl ?_))
        refine KL.opM (M.lit rfl Tryd.underlying61 zs22 (by decide) rfl rfl rfl) rfl rfl rfl ?_
        rintro _ H4 ⟨rfl, n4⟩
        have z4 := n4.2.1
        have o0 := o0.trans n4.1
        have wv := wv.old n4.1
        have b4 := n4.2.2
        have h1 : Sl 1 (EInt .u64) H4 _ [((0 : Nat) : Int)] := Sl.lits (l := [((0 : Nat) : Int)]) n4 rfl (by simp) (by intro x hx; simp only [List.mem_cons, List.not_mem_nil, or_false] at hx; subst hx; rw [← hbf]; dsimp only [InR]; omega)
        have lt5 := wv.lt
        refine KL.opM (M.append rfl Tryd.underlying61 inf22 rfl (by decide) rfl rfl wv (by exact h1) (fun _ _ h _ => h) (by omega) (by simp only [List.length_singleton]; omega) (by unfold maxLen; simp only [List.length_singleton]; omega)) rfl rfl rfl ?_
        rintro vn H5 ⟨w5, g5⟩
        try dsimp only at g5
        have ob5 := g5.oldB wv (by omega)
        have o0 := o0.then ob5 (by omega)
        have z5 := ob5.1
        have wv := w5
        refine KL.op (R.assign rfl rfl) rfl rfl rfl (KL.nil (KQ.normBlock (KQ.seq (KC.region (KL.op (R.move rfl rfl) rfl rfl rfl ?_)))))
        refine KL.op ((R.add rfl rfl rfl (by dsimp only [InR]; omega)).val (congrArg (Value.int .i64) (show (k : Int) + 1 = ((k + 1 : Nat) : Int) by omega))) rfl rfl rfl ?_
        refine KL.op (R.assign rfl rfl) rfl rfl rfl (KL.nil ?_)
        refine KQ.again ((k + 1, vn)) ?_ ?_ ?_
        · exact (Sub.cons rfl (Sub.cons rfl (Ext.sub (by repeat (first | exact Ext.refl _ _ | refine Ext.put rfl ?_ | refine Ext.drop rfl ?_)))))
        · show 64 - (k + 1) < 64 - k; omega
        · exact ⟨by show k + 1 ≤ _; omega, o0, by dsimp only; rw [Wr.rows_succ, hbf]; exact wv⟩
    · intro hc22
      try simp only [decide_eq_true_eq, decide_eq_false_iff_not, Bool.not_eq_true', Bool.not_eq_false', Bool.and_eq_true, Bool.or_eq_false_iff] at hc22
      have hkn : k = 64 := by omega
      subst hkn
      refine KC.exit ?_
      refine KQ.exitThen ?_
      refine KQ.exitThen ?_
      refine KQ.hit ?_
      refine KQ.seq (KC.seq (KC.region (KL.op (R.move rfl rfl) rfl rfl rfl ?_)))
      refine KL.call rfl rfl rfl rfl Tryd.call56 rfl rfl rfl (with_k (wv.sl (emptyOld _) (by decide)) (Wr.rows_R _ _ _ _ _) (by rw [Wr.rows_len]; omega)) ?_
      rintro _ _ ⟨rfl, rfl⟩
      refine KL.op (R.assign rfl rfl) rfl rfl rfl (KL.nil (KQ.seq (KC.ret (KQ.ofRet ?_))))
      refine KQ.fin1 Tryd.results27 rfl ?_
      exact ⟨rfl, o0⟩

set_option maxRecDepth 100000 in
set_option maxHeartbeats 4000000 in
theorem Bits64_4 {H : Heap} (a b : Nat) (ha : a < 18446744073709551616) (hb : b < 18446744073709551616) : Ct Tryd.prog 27 [.int .i64 4, .int .u64 (a : Nat), .int .u64 (b : Nat), .int .i64 64] H (fun u H' => u = .int .u64 (Wr.with_ (Wr.rows 4 a b 64 64)) ∧ Old H H') := by
  refine Ct.mk Tryd.func27 rfl Tryd.ntmps27 rfl ?_
  intro W0 hW0
  have o0 : Old H H := Old.refl H
  have ha2 : a < 18446744073709551616 := by omega
  have hb2 : b < 18446744073709551616 := by omega
  refine KC.seq (KC.region (KL.op (R.assign rfl rfl) rfl rfl rfl (KL.nil (KQ.seq (KC.seq (KC.region (KL.op (R.move rfl rfl) rfl rfl rfl (KL.op (R.move rfl rfl) rfl rfl rfl ?_))))))))
  refine KL.op (R.convI rfl Tryd.underlying3 Tryd.underlying22 rfl (by dsimp only [InR]; omega)) rfl rfl rfl ?_
  refine KL.op ((R.rem rfl rfl rfl (Int.natCast_nonneg _) (by decide)).val (congrArg (Value.int .u64) (show ((b : Nat) : Int) % 64 = ((b % 64 : Nat) : Int) by omega))) rfl rfl rfl ?_
  refine KL.op (R.convI rfl Tryd.underlying22 Tryd.underlying3 rfl (by dsimp only [InR]; omega)) rfl rfl rfl ?_
  refine KL.op (R.assign rfl rfl) rfl rfl rfl (KL.nil (KQ.seq (KC.seq (KC.region (KL.op (R.assign rfl rfl) rfl rfl rfl (KL.nil (KQ.seq (KC.seq (KC.seq ?_)))))))))
  refine KC.region (KL.op (R.assign rfl rfl) rfl rfl rfl (KL.nil (KQ.seq (KC.block ?_))))
  refine KC.loopD (κ := Nat × Value) [20, 21, 22, 25, 26, 27, 28, 29, 30, 12, 13, 14, 31, 33, 32, 34, 35, 36, 38, 37, 39, 40, 41, 42, 43, 45, 44, 46, 47, 48, 49, 51, 50, 52, 53, 54, 55, 56, 57, 58, 59, 61, 60, 62, 63, 64, 65, 66, 67, 68, 69, 70, 71, 72, 73, 74, 75, 76, 77, 78, 80, 79, 81, 82, 83, 84, 85, 86, 87, 88, 89, 91, 90, 92, 93, 94, 95, 96, 97, 98, 99, 100, 101, 102, 10, 23, 24, 11] (fun k => [(11, .int .i64 (k.1 : Nat)), (10, k.2)]) (fun k Hl => k.1 ≤ 64 ∧ Old H Hl ∧ Own 1 (EInt .u64) 22 #[] H.size Hl k.2 (Wr.rows 4 a b 64 k.1)) (fun k => 64 - k.1) (0, .slice none 0 0) ?_ ?_ ?_
  · exact (Sub.cons rfl (Sub.cons rfl (Ext.sub (Ext.refl _ _))))
  · exact ⟨Nat.zero_le _, o0, Own.nil _ _ _ _ _ _⟩
  · rintro ⟨k, v⟩ H1 ⟨hk, o0, wv⟩
    have zl_H1 := o0.1
    dsimp only at hk wv
    have zl := o0.1
    have hrl := Wr.rows_len 4 a b 64 k
    refine KC.seq (KC.seq (KC.region (KL.op (R.move rfl rfl) rfl rfl rfl (KL.op (R.move rfl rfl) rfl rfl rfl ?_))))
    refine KL.op (R.lss rfl rfl rfl) rfl rfl rfl ?_
    refine KL.nil (KQ.seq ?_)
    refine KC.iteL rfl ?_ ?_
    · intro hc22
      try simp only [decide_eq_true_eq, decide_eq_false_iff_not, Bool.not_eq_true', Bool.not_eq_false', Bool.and_eq_true, Bool.or_eq_false_iff] at hc22
      refine KC.skip ?_
      refine KQ.seq (KC.seq (KC.block (KC.seq (KC.region (KL.op (R.move rfl rfl) rfl rfl rfl (KL.op (R.move rfl rfl) rfl rfl rfl ?_))))))
      refine KL.call rfl rfl rfl rfl Tryd.call55 rfl rfl rfl (bit_k a k ha2 (by omega)) ?_
      rintro _ _ ⟨rfl, rfl⟩
      refine KL.op (R.move rfl rfl) rfl rfl rfl (KL.op (R.move rfl rfl) rfl rfl rfl ?_)
      refine KL.call rfl rfl rfl rfl Tryd.call55 rfl rfl rfl (bit_k b k hb2 (by omega)) ?_
      rintro _ _ ⟨rfl, rfl⟩
      refine KL.op (R.assign rfl rfl) rfl rfl rfl (KL.op (R.assign rfl rfl) rfl rfl rfl (KL.nil (KQ.seq (KC.seq (KC.region (KL.op (R.assign rfl rfl) rfl rfl rfl (KL.nil (KQ.seq (KC.seq ?_)))))))))
      refine KC.seq (KC.region (KL.op (R.move rfl rfl) rfl rfl rfl (KL.nil (KQ.seq (KC.block (KC.seq (KC.region ?_)))))))
      refine KL.op ((R.eql rfl rfl rfl).val (congrArg Value.bool (decide_eq_false (by decide)))) rfl rfl rfl ?_
      refine KL.op (R.assign rfl rfl) rfl rfl rfl (KL.nil (KQ.seq (KC.condF rfl (KC.seq (KC.region ?_)))))
      refine KL.op ((R.eql rfl rfl rfl).val (congrArg Value.bool (decide_eq_false (by decide)))) rfl rfl rfl ?_
      refine KL.op (R.assign rfl rfl) rfl rfl rfl (KL.nil (KQ.seq (KC.condF rfl (KC.seq (KC.region ?_)))))
      refine KL.op ((R.eql rfl rfl rfl).val (congrArg Value.bool (decide_eq_false (by decide)))) rfl rfl rfl ?_
      refine KL.op (R.assign rfl rfl) rfl rfl rfl (KL.nil (KQ.seq (KC.condF rfl (KC.seq (KC.region ?_)))))
      refine KL.op ((R.eql rfl rfl rfl).val (congrArg Value.bool (decide_eq_false (by decide)))) rfl rfl rfl ?_
      refine KL.op (R.assign rfl rfl) rfl rfl rfl (KL.nil (KQ.seq (KC.condF rfl (KC.seq (KC.seq (KC.region ?_))))))
      refine KL.op ((R.eql rfl rfl rfl).val (congrArg Value.bool (decide_eq_true (by decide)))) rfl rfl rfl ?_
      refine KL.op (R.assign rfl rfl) rfl rfl rfl (KL.nil (KQ.seq (KC.condT rfl ?_)))
      refine KC.skip ?_
      refine KQ.seq (KC.condT rfl (KC.seq (KC.region (KL.op (R.move rfl rfl) rfl rfl rfl (KL.op (R.move rfl rfl) rfl rfl rfl ?_)))))
      refine KL.op ((R.add rfl rfl rfl (by dsimp only [InR]; omega)).val (congrArg (Value.int .i64) (show (k : Int) + (b % 64 : Nat) = ((k + b % 64 : Nat) : Int) by omega))) rfl rfl rfl ?_
      refine KL.op (R.move rfl rfl) rfl rfl rfl ?_
      refine KL.op (R.lss rfl rfl rfl) rfl rfl rfl ?_
      refine KL.nil (KQ.seq ?_)
      refine KC.iteL rfl ?_ ?_
      · intro hc67
        try simp only [decide_eq_true_eq, decide_eq_false_iff_not, Bool.not_eq_true', Bool.not_eq_false', Bool.and_eq_true, Bool.or_eq_false_iff] at hc67
        refine KC.region (KL.op (R.move rfl rfl) rfl rfl rfl (KL.op (R.move rfl rfl) rfl rfl rfl (KL.op (R.move rfl rfl) rfl rfl rfl ?_)))
        refine KL.op ((R.add rfl rfl rfl (by dsimp only [InR]; omega)).val (congrArg (Value.int .i64) (show (k : Int) + (b % 64 : Nat) = ((k + b % 64 : Nat) : Int) by omega))) rfl rfl rfl ?_
        refine KL.call rfl rfl rfl rfl Tryd.call55 rfl rfl rfl (bit_k a (k + (b % 64)) ha2 (by omega)) ?_
        rintro _ _ ⟨rfl, rfl⟩
        refine KL.op (R.assign rfl rfl) rfl rfl rfl (KL.nil (KQ.normBlock (KQ.seq ?_)))
        have hbf : Wr.bitF 4 a b 64 k = Wr.bit a (k + (b % 64)) := (show Wr.bitF 4 a b 64 k = (if k + b % 64 < 64 then Wr.bit a (k + b % 64) else Wr.bit a (64 - 1)) from rfl).trans (if_pos (by omega))
        have hb1 := Wr.bitF_lt 4 a b 64 k
        have zv := wv.lt
        refine KC.region (KL.op (R.move rfl rfl) rfl rfl rfl (KL.op (R.move rfl rfl) rfl rfl rfl ?_))
        refine KL.opM (M.lit rfl Tryd.underlying61 zs22 (by decide) rfl rfl rfl) rfl rfl rfl ?_
        rintro _ H2 ⟨rfl, n2⟩
        have z2 := n2.2.1
        have o0 := o0.trans n2.1
        have wv := wv.old n2.1
        have b2 := n2.2.2
        have h1 : Sl 1 (EInt .u64) H2 _ [((Wr.bit a (k + (b % 64)) : Nat) : Int)] := Sl.lits (l := [((Wr.bit a (k + (b % 64)) : Nat) : Int)]) n2 rfl (by simp) (by intro x hx; simp only [List.mem_cons, List.not_mem_nil, or_false] at hx; subst hx; rw [← hbf]; dsimp only [InR]; omega)
        have lt3 := wv.lt
        refine KL.opM (M.append rfl Tryd.underlying61 inf22 rfl (by decide) rfl rfl wv (by exact h1) (fun _ _ h _ => h) (by omega) (by simp only [List.length_singleton]; omega) (by unfold maxLen; simp only [List.length_singleton]; omega)) rfl rfl rfl ?_
        rintro vn H3 ⟨w3, g3⟩
        try dsimp only at g3
        have ob3 := g3.oldB wv (by omega)
        have o0 := o0.then ob3 (by omega)
        have z3 := ob3.1
        have wv := w3
        refine KL.op (R.assign rfl rfl) rfl rfl rfl (KL.nil (KQ.normBlock (KQ.seq (KC.region (KL.op (R.move rfl rfl) rfl rfl rfl ?_)))))
        refine KL.op ((R.add rfl rfl rfl (by dsimp only [InR]; omega)).val (congrArg (Value.int .i64) (show (k : Int) + 1 = ((k + 1 : Nat) : Int) by omega))) rfl rfl rfl ?_
        refine KL.op (R.assign rfl rfl) rfl rfl rfl (KL.nil ?_)
        refine KQ.again ((k + 1, vn)) ?_ ?_ ?_
        · exact (Sub.cons rfl (Sub.cons rfl (Ext.sub (by repeat (first | exact Ext.refl _ _ | refine Ext.put rfl ?_ | refine Ext.drop rfl ?_)))))
        · show 64 - (k + 1) < 64 - k; omega
        · exact ⟨by show k + 1 ≤ _; omega, o0, by dsimp only; rw [Wr.rows_succ, hbf]; exact wv⟩
      · intro hc67
        try simp only [decide_eq_true_eq, decide_eq_false_iff_not, Bool.not_eq_true', Bool.not_eq_false', Bool.and_eq_true, Bool.or_eq_false_iff] at hc67
        refine KC.seq (KC.region (KL.op (R.move rfl rfl) rfl rfl rfl ?_))
        refine KL.op ((R.eql rfl rfl rfl).val (congrArg Value.bool (decide_eq_true (by decide)))) rfl rfl rfl ?_
        refine KL.nil (KQ.seq (KC.condT rfl (KC.region (KL.op (R.move rfl rfl) rfl rfl rfl (KL.op (R.move rfl rfl) rfl rfl rfl ?_)))))
        refine KL.op ((R.sub rfl rfl rfl (by dsimp only [InR]; omega)).val (congrArg (Value.int .i64) (show (64 : Int) - 1 = ((64 - 1 : Nat) : Int) by omega))) rfl rfl rfl ?_
        refine KL.call rfl rfl rfl rfl Tryd.call55 rfl rfl rfl (bit_k a (64 - 1) ha2 (by omega)) ?_
        rintro _ _ ⟨rfl, rfl⟩
        refine KL.op (R.assign rfl rfl) rfl rfl rfl (KL.nil (KQ.normBlock (KQ.seq ?_)))
        have hbf : Wr.bitF 4 a b 64 k = Wr.bit a (64 - 1) := (show Wr.bitF 4 a b 64 k = (if k + b % 64 < 64 then Wr.bit a (k + b % 64) else Wr.bit a (64 - 1)) from rfl).trans (if_neg (by omega))
        have hb1 := Wr.bitF_lt 4 a b 64 k
        have zv := wv.lt
        refine KC.region (KL.op (R.move rfl rfl) rfl rfl rfl (KL.op (R.move rfl rfl) rfl rfl rfl ?_))
        refine KL.opM (M.lit rfl Tryd.underlying61 zs22 (by decide) rfl rfl rfl) rfl rfl rfl ?_
        rintro _ H4 ⟨rfl, n4⟩
        have z4 := n4.2.1
        have o0 := o0.trans n4.1
        have wv := wv.old n4.1
        have b4 := n4.2.2
        have h1 : Sl 1 (EInt .u64) H4 _ [((Wr.bit a (64 - 1) : Nat) : Int)] := Sl.lits (l := [((Wr.bit a (64 - 1) : Nat) : Int)]) n4 rfl (by simp) (by intro x hx; simp only [List.mem_cons, List.not_mem_nil, or_false] at hx; subst hx; rw [← hbf]; dsimp only [InR]; omega)
        have lt5 := wv.lt
        refine KL.opM (M.append rfl Tryd.underlying61 inf22 rfl (by decide) rfl rfl wv (by exact h1) (fun _ _ h _ => h) (by omega) (by simp only [List.length_singleton]; omega) (by unfold maxLen; simp only [List.length_singleton]; omega)) rfl rfl rfl ?_
        rintro vn H5 ⟨w5, g5⟩
        try dsimp only at g5
        have ob5 := g5.oldB wv (by omega)
        have o0 := o0.then ob5 (by omega)
        have z5 := ob5.1
        have wv := w5
        refine KL.op (R.assign rfl rfl) rfl rfl rfl (KL.nil (KQ.normBlock (KQ.seq (KC.region (KL.op (R.move rfl rfl) rfl rfl rfl ?_)))))
        refine KL.op ((R.add rfl rfl rfl (by dsimp only [InR]; omega)).val (congrArg (Value.int .i64) (show (k : Int) + 1 = ((k + 1 : Nat) : Int) by omega))) rfl rfl rfl ?_
        refine KL.op (R.assign rfl rfl) rfl rfl rfl (KL.nil ?_)
        refine KQ.again ((k + 1, vn)) ?_ ?_ ?_
        · exact (Sub.cons rfl (Sub.cons rfl (Ext.sub (by repeat (first | exact Ext.refl _ _ | refine Ext.put rfl ?_ | refine Ext.drop rfl ?_)))))
        · show 64 - (k + 1) < 64 - k; omega
        · exact ⟨by show k + 1 ≤ _; omega, o0, by dsimp only; rw [Wr.rows_succ, hbf]; exact wv⟩
    · intro hc22
      try simp only [decide_eq_true_eq, decide_eq_false_iff_not, Bool.not_eq_true', Bool.not_eq_false', Bool.and_eq_true, Bool.or_eq_false_iff] at hc22
      have hkn : k = 64 := by omega
      subst hkn
      refine KC.exit ?_
      refine KQ.exitThen ?_
      refine KQ.exitThen ?_
      refine KQ.hit ?_
      refine KQ.seq (KC.seq (KC.region (KL.op (R.move rfl rfl) rfl rfl rfl ?_)))
      refine KL.call rfl rfl rfl rfl Tryd.call56 rfl rfl rfl (with_k (wv.sl (emptyOld _) (by decide)) (Wr.rows_R _ _ _ _ _) (by rw [Wr.rows_len]; omega)) ?_
      rintro _ _ ⟨rfl, rfl⟩
      refine KL.op (R.assign rfl rfl) rfl rfl rfl (KL.nil (KQ.seq (KC.ret (KQ.ofRet ?_))))
      refine KQ.fin1 Tryd.results27 rfl ?_
      exact ⟨rfl, o0⟩

set_option maxRecDepth 100000 in
set_option maxHeartbeats 4000000 in
theorem Bits64_5 {H : Heap} (a b : Nat) (ha : a < 18446744073709551616) (hb : b < 18446744073709551616) : Ct Tryd.prog 27 [.int .i64 5, .int .u64 (a : Nat), .int .u64 (b : Nat), .int .i64 64] H (fun u H' => u = .int .u64 (Wr.with_ (Wr.rows 5 a b 64 64)) ∧ Old H H') := by
  refine Ct.mk Tryd.func27 rfl Tryd.ntmps27 rfl ?_
  intro W0 hW0
  have o0 : Old H H := Old.refl H
  have ha2 : a < 18446744073709551616 := by omega
  have hb2 : b < 18446744073709551616 := by omega
  refine KC.seq (KC.region (KL.op (R.assign rfl rfl) rfl rfl rfl (KL.nil (KQ.seq (KC.seq (KC.region (KL.op (R.move rfl rfl) rfl rfl rfl (KL.op (R.move rfl rfl) rfl rfl rfl ?_))))))))
  refine KL.op (R.convI rfl Tryd.underlying3 Tryd.underlying22 rfl (by dsimp only [InR]; omega)) rfl rfl rfl ?_
  refine KL.op ((R.rem rfl rfl rfl (Int.natCast_nonneg _) (by decide)).val (congrArg (Value.int .u64) (show ((b : Nat) : Int) % 64 = ((b % 64 : Nat) : Int) by omega))) rfl rfl rfl ?_
  refine KL.op (R.convI rfl Tryd.underlying22 Tryd.underlying3 rfl (by dsimp only [InR]; omega)) rfl rfl rfl ?_
  refine KL.op (R.assign rfl rfl) rfl rfl rfl (KL.nil (KQ.seq (KC.seq (KC.region (KL.op (R.assign rfl rfl) rfl rfl rfl (KL.nil (KQ.seq (KC.seq (KC.seq ?_)))))))))
  refine KC.region (KL.op (R.assign rfl rfl) rfl rfl rfl (KL.nil (KQ.seq (KC.block ?_))))
  refine KC.loopD (κ := Nat × Value) [20, 21, 22, 25, 26, 27, 28, 29, 30, 12, 13, 14, 31, 33, 32, 34, 35, 36, 38, 37, 39, 40, 41, 42, 43, 45, 44, 46, 47, 48, 49, 51, 50, 52, 53, 54, 55, 56, 57, 58, 59, 61, 60, 62, 63, 64, 65, 66, 67, 68, 69, 70, 71, 72, 73, 74, 75, 76, 77, 78, 80, 79, 81, 82, 83, 84, 85, 86, 87, 88, 89, 91, 90, 92, 93, 94, 95, 96, 97, 98, 99, 100, 101, 102, 10, 23, 24, 11] (fun k => [(11, .int .i64 (k.1 : Nat)), (10, k.2)]) (fun k Hl => k.1 ≤ 64 ∧ Old H Hl ∧ Own 1 (EInt .u64) 22 #[] H.size Hl k.2 (Wr.rows 5 a b 64 k.1)) (fun k => 64 - k.1) (0, .slice none 0 0) ?_ ?_ ?_
  · exact (Sub.cons rfl (Sub.cons rfl (Ext.sub (Ext.refl _ _))))
  · exact ⟨Nat.zero_le _, o0, Own.nil _ _ _ _ _ _⟩
  · rintro ⟨k, v⟩ H1 ⟨hk, o0, wv⟩
    have zl_H1 := o0.1
    dsimp only at hk wv
    have zl := o0.1
    have hrl := Wr.rows_len 5 a b 64 k
    refine KC.seq (KC.seq (KC.region (KL.op (R.move rfl rfl) rfl rfl rfl (KL.op (R.move rfl rfl) rfl rfl rfl ?_))))
    refine KL.op (R.lss rfl rfl rfl) rfl rfl rfl ?_
    refine KL.nil (KQ.seq ?_)
    refine KC.iteL rfl ?_ ?_
    · intro hc22
      try simp only [decide_eq_true_eq, decide_eq_false_iff_not, Bool.not_eq_true', Bool.not_eq_false', Bool.and_eq_true, Bool.or_eq_false_iff] at hc22
      refine KC.skip ?_
      refine KQ.seq (KC.seq (KC.block (KC.seq (KC.region (KL.op (R.move rfl rfl) rfl rfl rfl (KL.op (R.move rfl rfl) rfl rfl rfl ?_))))))
      refine KL.call rfl rfl rfl rfl Tryd.call55 rfl rfl rfl (bit_k a k ha2 (by omega)) ?_
      rintro _ _ ⟨rfl, rfl⟩
      refine KL.op (R.move rfl rfl) rfl rfl rfl (KL.op (R.move rfl rfl) rfl rfl rfl ?_)
      refine KL.call rfl rfl rfl rfl Tryd.call55 rfl rfl rfl (bit_k b k hb2 (by omega)) ?_
      rintro _ _ ⟨rfl, rfl⟩
      refine KL.op (R.assign rfl rfl) rfl rfl rfl (KL.op (R.assign rfl rfl) rfl rfl rfl (KL.nil (KQ.seq (KC.seq (KC.region (KL.op (R.assign rfl rfl) rfl rfl rfl (KL.nil (KQ.seq (KC.seq ?_)))))))))
      refine KC.seq (KC.region (KL.op (R.move rfl rfl) rfl rfl rfl (KL.nil (KQ.seq (KC.block (KC.seq (KC.region ?_)))))))
      refine KL.op ((R.eql rfl rfl rfl).val (congrArg Value.bool (decide_eq_false (by decide)))) rfl rfl rfl ?_
      refine KL.op (R.assign rfl rfl) rfl rfl rfl (KL.nil (KQ.seq (KC.condF rfl (KC.seq (KC.region ?_)))))
      refine KL.op ((R.eql rfl rfl rfl).val (congrArg Value.bool (decide_eq_false (by decide)))) rfl rfl rfl ?_
      refine KL.op (R.assign rfl rfl) rfl rfl rfl (KL.nil (KQ.seq (KC.condF rfl (KC.seq (KC.region ?_)))))
      refine KL.op ((R.eql rfl rfl rfl).val (congrArg Value.bool (decide_eq_false (by decide)))) rfl rfl rfl ?_
      refine KL.op (R.assign rfl rfl) rfl rfl rfl (KL.nil (KQ.seq (KC.condF rfl (KC.seq (KC.region ?_)))))
      refine KL.op ((R.eql rfl rfl rfl).val (congrArg Value.bool (decide_eq_false (by decide)))) rfl rfl rfl ?_
      refine KL.op (R.assign rfl rfl) rfl rfl rfl (KL.nil (KQ.seq (KC.condF rfl (KC.seq (KC.seq (KC.region ?_))))))
      refine KL.op ((R.eql rfl rfl rfl).val (congrArg Value.bool (decide_eq_false (by decide)))) rfl rfl rfl ?_
      refine KL.op (R.assign rfl rfl) rfl rfl rfl (KL.nil (KQ.seq (KC.condF rfl (KC.region ?_))))
      refine KL.op ((R.eql rfl rfl rfl).val (congrArg Value.bool (decide_eq_true (by decide)))) rfl rfl rfl ?_
      refine KL.op (R.assign rfl rfl) rfl rfl rfl (KL.nil (KQ.seq (KC.condT rfl (KC.seq (KC.region (KL.op (R.move rfl rfl) rfl rfl rfl (KL.op (R.move rfl rfl) rfl rfl rfl ?_)))))))
      refine KL.op ((R.add rfl rfl rfl (by dsimp only [InR]; omega)).val (congrArg (Value.int .i64) (show (k : Int) + (b % 64 : Nat) = ((k + b % 64 : Nat) : Int) by omega))) rfl rfl rfl ?_
      refine KL.op (R.move rfl rfl) rfl rfl rfl ?_
      refine KL.op (R.lss rfl rfl rfl) rfl rfl rfl ?_
      refine KL.nil (KQ.seq ?_)
      refine KC.iteL rfl ?_ ?_
      · intro hc67
        try simp only [decide_eq_true_eq, decide_eq_false_iff_not, Bool.not_eq_true', Bool.not_eq_false', Bool.and_eq_true, Bool.or_eq_false_iff] at hc67
        refine KC.region (KL.op (R.move rfl rfl) rfl rfl rfl (KL.op (R.move rfl rfl) rfl rfl rfl (KL.op (R.move rfl rfl) rfl rfl rfl ?_)))
        refine KL.op ((R.add rfl rfl rfl (by dsimp only [InR]; omega)).val (congrArg (Value.int .i64) (show (k : Int) + (b % 64 : Nat) = ((k + b % 64 : Nat) : Int) by omega))) rfl rfl rfl ?_
        refine KL.call rfl rfl rfl rfl Tryd.call55 rfl rfl rfl (bit_k a (k + (b % 64)) ha2 (by omega)) ?_
        rintro _ _ ⟨rfl, rfl⟩
        refine KL.op (R.assign rfl rfl) rfl rfl rfl (KL.nil (KQ.normBlock (KQ.seq ?_)))
        have hbf : Wr.bitF 5 a b 64 k = Wr.bit a (k + (b % 64)) := (show Wr.bitF 5 a b 64 k = (if k + b % 64 < 64 then Wr.bit a (k + b % 64) else 0) from rfl).trans (if_pos (by omega))
        have hb1 := Wr.bitF_lt 5 a b 64 k
        have zv := wv.lt
        refine KC.region (KL.op (R.move rfl rfl) rfl rfl rfl (KL.op (R.move rfl rfl) rfl rfl rfl ?_))
        refine KL.opM (M.lit rfl Tryd.underlying61 zs22 (by decide) rfl rfl rfl) rfl rfl rfl ?_
        rintro _ H2 ⟨rfl, n2⟩
        have z2 := n2.2.1
        have o0 := o0.trans n2.1
        have wv := wv.old n2.1
        have b2 := n2.2.2
        have h1 : Sl 1 (EInt .u64) H2 _ [((Wr.bit a (k + (b % 64)) : Nat) : Int)] := Sl.lits (l := [((Wr.bit a (k + (b % 64)) : Nat) : Int)]) n2 rfl (by simp) (by intro x hx; simp only [List.mem_cons, List.not_mem_nil, or_false] at hx; subst hx; rw [← hbf]; dsimp only [InR]; omega)
        have lt3 := wv.lt
        refine KL.opM (M.append rfl Tryd.underlying61 inf22 rfl (by decide) rfl rfl wv (by exact h1) (fun _ _ h _ => h) (by omega) (by simp only [List.length_singleton]; omega) (by unfold maxLen; simp only [List.length_singleton]; omega)) rfl rfl rfl ?_
        rintro vn H3 ⟨w3, g3⟩
        try dsimp only at g3
        have ob3 := g3.oldB wv (by omega)
        have o0 := o0.then ob3 (by omega)
        have z3 := ob3.1
        have wv := w3
        refine KL.op (R.assign rfl rfl) rfl rfl rfl (KL.nil (KQ.normBlock (KQ.seq (KC.region (KL.op (R.move rfl rfl) rfl rfl rfl ?_)))))
        refine KL.op ((R.add rfl rfl rfl (by dsimp only [InR]; omega)).val (congrArg (Value.int .i64) (show (k : Int) + 1 = ((k + 1 : Nat) : Int) by omega))) rfl rfl rfl ?_
        refine KL.op (R.assign rfl rfl) rfl rfl rfl (KL.nil ?_)
        refine KQ.again ((k + 1, vn)) ?_ ?_ ?_
        · exact (Sub.cons rfl (Sub.cons rfl (Ext.sub (by repeat (first | exact Ext.refl _ _ | refine Ext.put rfl ?_ | refine Ext.drop rfl ?_)))))
        · show 64 - (k + 1) < 64 - k; omega
        · exact ⟨by show k + 1 ≤ _; omega, o0, by dsimp only; rw [Wr.rows_succ, hbf]; exact wv⟩
      · intro hc67
        try simp only [decide_eq_true_eq, decide_eq_false_iff_not, Bool.not_eq_true', Bool.not_eq_false', Bool.and_eq_true, Bool.or_eq_false_iff] at hc67
        refine KC.seq (KC.region (KL.op (R.move rfl rfl) rfl rfl rfl ?_))
        refine KL.op ((R.eql rfl rfl rfl).val (congrArg Value.bool (decide_eq_false (by decide)))) rfl rfl rfl ?_
        refine KL.nil (KQ.seq (KC.condF rfl ?_))
        refine KC.skip ?_
        refine KQ.normBlock (KQ.seq ?_)
        have hbf : Wr.bitF 5 a b 64 k = 0 := (show Wr.bitF 5 a b 64 k = (if k + b % 64 < 64 then Wr.bit a (k + b % 64) else 0) from rfl).trans (if_neg (by omega))
        have hb1 := Wr.bitF_lt 5 a b 64 k
        have zv := wv.lt
        refine KC.region (KL.op (R.move rfl rfl) rfl rfl rfl (KL.op (R.move rfl rfl) rfl rfl rfl ?_))
        refine KL.opM (M.lit rfl Tryd.underlying61 zs22 (by decide) rfl rfl rfl) rfl rfl rfl ?_
        rintro _ H4 ⟨rfl, n4⟩
        have z4 := n4.2.1
        have o0 := o0.trans n4.1
        have wv := wv.old n4.1
        have b4 := n4.2.2
        have h1 : Sl 1 (EInt .u64) H4 _ [((0 : Nat) : Int)] := Sl.lits (l := [((0 : Nat) : Int)]) n4 rfl (by simp) (by intro x hx; simp only [List.mem_cons, List.not_mem_nil, or_false] at hx; subst hx; rw [← hbf]; dsimp only [InR]; omega)
        have lt5 := wv.lt
        refine KL.opM (M.append rfl Tryd.underlying61 inf22 rfl (by decide) rfl rfl wv (by exact h1) (fun _ _ h _ => h) (by omega) (by simp only [List.length_singleton]; omega) (by unfold maxLen; simp only [List.length_singleton]; omega)) rfl rfl rfl ?_
        rintro vn H5 ⟨w5, g5⟩
        try dsimp only at g5
        have ob5 := g5.oldB wv (by omega)
        have o0 := o0.then ob5 (by omega)
        have z5 := ob5.1
        have wv := w5
        refine KL.op (R.assign rfl rfl) rfl rfl rfl (KL.nil (KQ.normBlock (KQ.seq (KC.region (KL.op (R.move rfl rfl) rfl rfl rfl ?_)))))
        refine KL.op ((R.add rfl rfl rfl (by dsimp only [InR]; omega)).val (congrArg (Value.int .i64) (show (k : Int) + 1 = ((k + 1 : Nat) : Int) by omega))) rfl rfl rfl ?_
        refine KL.op (R.assign rfl rfl) rfl rfl rfl (KL.nil ?_)
        refine KQ.again ((k + 1, vn)) ?_ ?_ ?_
        · exact (Sub.cons rfl (Sub.cons rfl (Ext.sub (by repeat (first | exact Ext.refl _ _ | refine Ext.put rfl ?_ | refine Ext.drop rfl ?_)))))
        · show 64 - (k + 1) < 64 - k; omega
        · exact ⟨by show k + 1 ≤ _; omega, o0, by dsimp only; rw [Wr.rows_succ, hbf]; exact wv⟩
    · intro hc22
      try simp only [decide_eq_true_eq, decide_eq_false_iff_not, Bool.not_eq_true', Bool.not_eq_false', Bool.and_eq_true, Bool.or_eq_false_iff] at hc22
      have hkn : k = 64 := by omega
      subst hkn
      refine KC.exit ?_
      refine KQ.exitThen ?_
      refine KQ.exitThen ?_
      refine KQ.hit ?_
      refine KQ.seq (KC.seq (KC.region (KL.op (R.move rfl rfl) rfl rfl rfl ?_)))
      refine KL.call rfl rfl rfl rfl Tryd.call56 rfl rfl rfl (with_k (wv.sl (emptyOld _) (by decide)) (Wr.rows_R _ _ _ _ _) (by rw [Wr.rows_len]; omega)) ?_
      rintro _ _ ⟨rfl, rfl⟩
      refine KL.op (R.assign rfl rfl) rfl rfl rfl (KL.nil (KQ.seq (KC.ret (KQ.ofRet ?_))))
      refine KQ.fin1 Tryd.results27 rfl ?_
      exact ⟨rfl, o0⟩

set_option maxRecDepth 100000 in
set_option maxHeartbeats 4000000 in
theorem Bits64_6 {H : Heap} (a b : Nat) (ha : a < 18446744073709551616) (hb : b < 18446744073709551616) : Ct Tryd.prog 27 [.int .i64 6, .int .u64 (a : Nat), .int .u64 (b : Nat), .int .i64 64] H (fun u H' => u = .int .u64 (Wr.with_ (Wr.rows 6 a b 64 64)) ∧ Old H H') := by
  refine Ct.mk Tryd.func27 rfl Tryd.ntmps27 rfl ?_
  intro W0 hW0
  have o0 : Old H H := Old.refl H
  have ha2 : a < 18446744073709551616 := by omega
  have hb2 : b < 18446744073709551616 := by omega
  refine KC.seq (KC.region (KL.op (R.assign rfl rfl) rfl rfl rfl (KL.nil (KQ.seq (KC.seq (KC.region (KL.op (R.move rfl rfl) rfl rfl rfl (KL.op (R.move rfl rfl) rfl rfl rfl ?_))))))))
  refine KL.op (R.convI rfl Tryd.underlying3 Tryd.underlying22 rfl (by dsimp only [InR]; omega)) rfl rfl rfl ?_
  refine KL.op ((R.rem rfl rfl rfl (Int.natCast_nonneg _) (by decide)).val (congrArg (Value.int .u64) (show ((b : Nat) : Int) % 64 = ((b % 64 : Nat) : Int) by omega))) rfl rfl rfl ?_
  refine KL.op (R.convI rfl Tryd.underlying22 Tryd.underlying3 rfl (by dsimp only [InR]; omega)) rfl rfl rfl ?_
  refine KL.op (R.assign rfl rfl) rfl rfl rfl (KL.nil (KQ.seq (KC.seq (KC.region (KL.op (R.assign rfl rfl) rfl rfl rfl (KL.nil (KQ.seq (KC.seq (KC.seq ?_)))))))))
  refine KC.region (KL.op (R.assign rfl rfl) rfl rfl rfl (KL.nil (KQ.seq (KC.block ?_))))
  refine KC.loopD (κ := Nat × Value) [20, 21, 22, 25, 26, 27, 28, 29, 30, 12, 13, 14, 31, 33, 32, 34, 35, 36, 38, 37, 39, 40, 41, 42, 43, 45, 44, 46, 47, 48, 49, 51, 50, 52, 53, 54, 55, 56, 57, 58, 59, 61, 60, 62, 63, 64, 65, 66, 67, 68, 69, 70, 71, 72, 73, 74, 75, 76, 77, 78, 80, 79, 81, 82, 83, 84, 85, 86, 87, 88, 89, 91, 90, 92, 93, 94, 95, 96, 97, 98, 99, 100, 101, 102, 10, 23, 24, 11] (fun k => [(11, .int .i64 (k.1 : Nat)), (10, k.2)]) (fun k Hl => k.1 ≤ 64 ∧ Old H Hl ∧ Own 1 (EInt .u64) 22 #[] H.size Hl k.2 (Wr.rows 6 a b 64 k.1)) (fun k => 64 - k.1) (0, .slice none 0 0) ?_ ?_ ?_
  · exact (Sub.cons rfl (Sub.cons rfl (Ext.sub (Ext.refl _ _))))
  · exact ⟨Nat.zero_le _, o0, Own.nil _ _ _ _ _ _⟩
  · rintro ⟨k, v⟩ H1 ⟨hk, o0, wv⟩
    have zl_H1 := o0.1
    dsimp only at hk wv
    have zl := o0.1
    have hrl := Wr.rows_len 6 a b 64 k
    refine KC.seq (KC.seq (KC.region (KL.op (R.move rfl rfl) rfl rfl rfl (KL.op (R.move rfl rfl) rfl rfl rfl ?_))))
    refine KL.op (R.lss rfl rfl rfl) rfl rfl rfl ?_
    refine KL.nil (KQ.seq ?_)
    refine KC.iteL rfl ?_ ?_
    · intro hc22
      try simp only [decide_eq_true_eq, decide_eq_false_iff_not, Bool.not_eq_true', Bool.not_eq_false', Bool.and_eq_true, Bool.or_eq_false_iff] at hc22
      refine KC.skip ?_
      refine KQ.seq (KC.seq (KC.block (KC.seq (KC.region (KL.op (R.move rfl rfl) rfl rfl rfl (KL.op (R.move rfl rfl) rfl rfl rfl ?_))))))
      refine KL.call rfl rfl rfl rfl Tryd.call55 rfl rfl rfl (bit_k a k ha2 (by omega)) ?_
      rintro _ _ ⟨rfl, rfl⟩
      refine KL.op (R.move rfl rfl) rfl rfl rfl (KL.op (R.move rfl rfl) rfl rfl rfl ?_)
      refine KL.call rfl rfl rfl rfl Tryd.call55 rfl rfl rfl (bit_k b k hb2 (by omega)) ?_
      rintro _ _ ⟨rfl, rfl⟩
      refine KL.op (R.assign rfl rfl) rfl rfl rfl (KL.op (R.assign rfl rfl) rfl rfl rfl (KL.nil (KQ.seq (KC.seq (KC.region (KL.op (R.assign rfl rfl) rfl rfl rfl (KL.nil (KQ.seq (KC.seq ?_)))))))))
      refine KC.seq (KC.region (KL.op (R.move rfl rfl) rfl rfl rfl (KL.nil (KQ.seq (KC.block (KC.seq (KC.region ?_)))))))
      refine KL.op ((R.eql rfl rfl rfl).val (congrArg Value.bool (decide_eq_false (by decide)))) rfl rfl rfl ?_
      refine KL.op (R.assign rfl rfl) rfl rfl rfl (KL.nil (KQ.seq (KC.condF rfl (KC.seq (KC.region ?_)))))
      refine KL.op ((R.eql rfl rfl rfl).val (congrArg Value.bool (decide_eq_false (by decide)))) rfl rfl rfl ?_
      refine KL.op (R.assign rfl rfl) rfl rfl rfl (KL.nil (KQ.seq (KC.condF rfl (KC.seq (KC.region ?_)))))
      refine KL.op ((R.eql rfl rfl rfl).val (congrArg Value.bool (decide_eq_false (by decide)))) rfl rfl rfl ?_
      refine KL.op (R.assign rfl rfl) rfl rfl rfl (KL.nil (KQ.seq (KC.condF rfl (KC.seq (KC.region ?_)))))
      refine KL.op ((R.eql rfl rfl rfl).val (congrArg Value.bool (decide_eq_false (by decide)))) rfl rfl rfl ?_
      refine KL.op (R.assign rfl rfl) rfl rfl rfl (KL.nil (KQ.seq (KC.condF rfl (KC.seq (KC.seq (KC.region ?_))))))
      refine KL.op ((R.eql rfl rfl rfl).val (congrArg Value.bool (decide_eq_false (by decide)))) rfl rfl rfl ?_
      refine KL.op (R.assign rfl rfl) rfl rfl rfl (KL.nil (KQ.seq (KC.condF rfl (KC.region ?_))))
      refine KL.op ((R.eql rfl rfl rfl).val (congrArg Value.bool (decide_eq_false (by decide)))) rfl rfl rfl ?_
      refine KL.op (R.assign rfl rfl) rfl rfl rfl (KL.nil (KQ.seq (KC.condF rfl (KC.seq (KC.region ?_)))))
      refine KL.op ((R.eql rfl rfl rfl).val (congrArg Value.bool (decide_eq_true (by decide)))) rfl rfl rfl ?_
      refine KL.op (R.assign rfl rfl) rfl rfl rfl (KL.nil (KQ.seq (KC.condT rfl (KC.region (KL.op (R.move rfl rfl) rfl rfl rfl (KL.op (R.move rfl rfl) rfl rfl rfl (KL.op (R.move rfl rfl) rfl rfl rfl ?_)))))))
      refine KL.op ((R.add rfl rfl rfl (by dsimp only [InR]; omega)).val (congrArg (Value.int .i64) (show (k : Int) + 64 = ((k + 64 : Nat) : Int) by omega))) rfl rfl rfl ?_
      refine KL.op (R.move rfl rfl) rfl rfl rfl ?_
      refine KL.op ((R.sub rfl rfl rfl (by dsimp only [InR]; omega)).val (congrArg (Value.int .i64) (show ((k + 64 : Nat) : Int) - (b % 64 : Nat) = ((k + 64 - b % 64 : Nat) : Int) by omega))) rfl rfl rfl ?_
      refine KL.op (R.move rfl rfl) rfl rfl rfl ?_
      refine KL.op ((R.rem rfl rfl rfl (Int.natCast_nonneg _) (by decide)).val (congrArg (Value.int .i64) (show ((k + 64 - b % 64 : Nat) : Int) % 64 = (((k + 64 - b % 64) % 64 : Nat) : Int) by omega))) rfl rfl rfl ?_
      refine KL.call rfl rfl rfl rfl Tryd.call55 rfl rfl rfl (bit_k a ((k + 64 - (b % 64)) % 64) ha2 (by omega)) ?_
      rintro _ _ ⟨rfl, rfl⟩
      refine KL.op (R.assign rfl rfl) rfl rfl rfl (KL.nil (KQ.normBlock (KQ.seq ?_)))
      have hbf : Wr.bitF 6 a b 64 k = Wr.bit a ((k + 64 - (b % 64)) % 64) := rfl
      have hb1 := Wr.bitF_lt 6 a b 64 k
      have zv := wv.lt
      refine KC.region (KL.op (R.move rfl rfl) rfl rfl rfl (KL.op (R.move rfl rfl) rfl rfl rfl ?_))
      refine KL.opM (M.lit rfl Tryd.underlying61 zs22 (by decide) rfl rfl rfl) rfl rfl rfl ?_
      rintro _ H2 ⟨rfl, n2⟩
      have z2 := n2.2.1
      have o0 := o0.trans n2.1
      have wv := wv.old n2.1
      have b2 := n2.2.2
      have h1 : Sl 1 (EInt .u64) H2 _ [((Wr.bit a ((k + 64 - (b % 64)) % 64) : Nat) : Int)] := Sl.lits (l := [((Wr.bit a ((k + 64 - (b % 64)) % 64) : Nat) : Int)]) n2 rfl (by simp) (by intro x hx; simp only [List.mem_cons, List.not_mem_nil, or_false] at hx; subst hx; rw [← hbf]; dsimp only [InR]; omega)
      have lt3 := wv.lt
      refine KL.opM (M.append rfl Tryd.underlying61 inf22 rfl (by decide) rfl rfl wv (by exact h1) (fun _ _ h _ => h) (by omega) (by simp only [List.length_singleton]; omega) (by unfold maxLen; simp only [List.length_singleton]; omega)) rfl rfl rfl ?_
      rintro vn H3 ⟨w3, g3⟩
      try dsimp only at g3
      have ob3 := g3.oldB wv (by omega)
      have o0 := o0.then ob3 (by omega)
      have z3 := ob3.1
      have wv := w3
      refine KL.op (R.assign rfl rfl) rfl rfl rfl (KL.nil (KQ.normBlock (KQ.seq (KC.region (KL.op (R.move rfl rfl) rfl rfl rfl ?_)))))
      refine KL.op ((R.add rfl rfl rfl (by dsimp only [InR]; omega)).val (congrArg (Value.int .i64) (show (k : Int) + 1 = ((k + 1 : Nat) : Int) by omega))) rfl rfl rfl ?_
      refine KL.op (R.assign rfl rfl) rfl rfl rfl (KL.nil ?_)
      refine KQ.again ((k + 1, vn)) ?_ ?_ ?_
      · exact (Sub.cons rfl (Sub.cons rfl (Ext.sub (by repeat (first | exact Ext.refl _ _ | refine Ext.put rfl ?_ | refine Ext.drop rfl ?_)))))
      · show 64 - (k + 1) < 64 - k; omega
      · exact ⟨by show k + 1 ≤ _; omega, o0, by dsimp only; rw [Wr.rows_succ, hbf]; exact wv⟩
    · intro hc22
      try simp only [decide_eq_true_eq, decide_eq_false_iff_not, Bool.not_eq_true', Bool.not_eq_false', Bool.and_eq_true, Bool.or_eq_false_iff] at hc22
      have hkn : k = 64 := by omega
      subst hkn
      refine KC.exit ?_
      refine KQ.exitThen ?_
      refine KQ.exitThen ?_
      refine KQ.hit ?_
      refine KQ.seq (KC.seq (KC.region (KL.op (R.move rfl rfl) rfl rfl rfl ?_)))
      refine KL.call rfl rfl rfl rfl Tryd.call56 rfl rfl rfl (with_k (wv.sl (emptyOld _) (by decide)) (Wr.rows_R _ _ _ _ _) (by rw [Wr.rows_len]; omega)) ?_
      rintro _ _ ⟨rfl, rfl⟩
      refine KL.op (R.assign rfl rfl) rfl rfl rfl (KL.nil (KQ.seq (KC.ret (KQ.ofRet ?_))))
      refine KQ.fin1 Tryd.results27 rfl ?_
      exact ⟨rfl, o0⟩

set_option maxRecDepth 100000 in
set_option maxHeartbeats 4000000 in
theorem Bits64_7 {H : Heap} (a b : Nat) (ha : a < 18446744073709551616) (hb : b < 18446744073709551616) : Ct Tryd.prog 27 [.int .i64 7, .int .u64 (a : Nat), .int .u64 (b : Nat), .int .i64 64] H (fun u H' => u = .int .u64 (Wr.with_ (Wr.rows 7 a b 64 64)) ∧ Old H H') := by
  refine Ct.mk Tryd.func27 rfl Tryd.ntmps27 rfl ?_
  intro W0 hW0
  have o0 : Old H H := Old.refl H
  have ha2 : a < 18446744073709551616 := by omega
  have hb2 : b < 18446744073709551616 := by omega
  refine KC.seq (KC.region (KL.op (R.assign rfl rfl) rfl rfl rfl (KL.nil (KQ.seq (KC.seq (KC.region (KL.op (R.move rfl rfl) rfl rfl rfl (KL.op (R.move rfl rfl) rfl rfl rfl ?_))))))))
  refine KL.op (R.convI rfl Tryd.underlying3 Tryd.underlying22 rfl (by dsimp only [InR]; omega)) rfl rfl rfl ?_
  refine KL.op ((R.rem rfl rfl rfl (Int.natCast_nonneg _) (by decide)).val (congrArg (Value.int .u64) (show ((b : Nat) : Int) % 64 = ((b % 64 : Nat) : Int) by omega))) rfl rfl rfl ?_
  refine KL.op (R.convI rfl Tryd.underlying22 Tryd.underlying3 rfl (by dsimp only [InR]; omega)) rfl rfl rfl ?_
  refine KL.op (R.assign rfl rfl) rfl rfl rfl (KL.nil (KQ.seq (KC.seq (KC.region (KL.op (R.assign rfl rfl) rfl rfl rfl (KL.nil (KQ.seq (KC.seq (KC.seq ?_)))))))))
  refine KC.region (KL.op (R.assign rfl rfl) rfl rfl rfl (KL.nil (KQ.seq (KC.block ?_))))
  refine KC.loopD (κ := Nat × Value) [20, 21, 22, 25, 26, 27, 28, 29, 30, 12, 13, 14, 31, 33, 32, 34, 35, 36, 38, 37, 39, 40, 41, 42, 43, 45, 44, 46, 47, 48, 49, 51, 50, 52, 53, 54, 55, 56, 57, 58, 59, 61, 60, 62, 63, 64, 65, 66, 67, 68, 69, 70, 71, 72, 73, 74, 75, 76, 77, 78, 80, 79, 81, 82, 83, 84, 85, 86, 87, 88, 89, 91, 90, 92, 93, 94, 95, 96, 97, 98, 99, 100, 101, 102, 10, 23, 24, 11] (fun k => [(11, .int .i64 (k.1 : Nat)), (10, k.2)]) (fun k Hl => k.1 ≤ 64 ∧ Old H Hl ∧ Own 1 (EInt .u64) 22 #[] H.size Hl k.2 (Wr.rows 7 a b 64 k.1)) (fun k => 64 - k.1) (0, .slice none 0 0) ?_ ?_ ?_
  · exact (Sub.cons rfl (Sub.cons rfl (Ext.sub (Ext.refl _ _))))
  · exact ⟨Nat.zero_le _, o0, Own.nil _ _ _ _ _ _⟩
  · rintro ⟨k, v⟩ H1 ⟨hk, o0, wv⟩
    have zl_H1 := o0.1
    dsimp only at hk wv
    have zl := o0.1
    have hrl := Wr.rows_len 7 a b 64 k
    refine KC.seq (KC.seq (KC.region (KL.op (R.move rfl rfl) rfl rfl rfl (KL.op (R.move rfl rfl) rfl rfl rfl ?_))))
    refine KL.op (R.lss rfl rfl rfl) rfl rfl rfl ?_
    refine KL.nil (KQ.seq ?_)
    refine KC.iteL rfl ?_ ?_
    · intro hc22
      try simp only [decide_eq_true_eq, decide_eq_false_iff_not, Bool.not_eq_true', Bool.not_eq_false', Bool.and_eq_true, Bool.or_eq_false_iff] at hc22
      refine KC.skip ?_
      refine KQ.seq (KC.seq (KC.block (KC.seq (KC.region (KL.op (R.move rfl rfl) rfl rfl rfl (KL.op (R.move rfl rfl) rfl rfl rfl ?_))))))
      refine KL.call rfl rfl rfl rfl Tryd.call55 rfl rfl rfl (bit_k a k ha2 (by omega)) ?_
      rintro _ _ ⟨rfl, rfl⟩
      refine KL.op (R.move rfl rfl) rfl rfl rfl (KL.op (R.move rfl rfl) rfl rfl rfl ?_)
      refine KL.call rfl rfl rfl rfl Tryd.call55 rfl rfl rfl (bit_k b k hb2 (by omega)) ?_
      rintro _ _ ⟨rfl, rfl⟩
      refine KL.op (R.assign rfl rfl) rfl rfl rfl (KL.op (R.assign rfl rfl) rfl rfl rfl (KL.nil (KQ.seq (KC.seq (KC.region (KL.op (R.assign rfl rfl) rfl rfl rfl (KL.nil (KQ.seq (KC.seq ?_)))))))))
      refine KC.seq (KC.region (KL.op (R.move rfl rfl) rfl rfl rfl (KL.nil (KQ.seq (KC.block (KC.seq (KC.region ?_)))))))
      refine KL.op ((R.eql rfl rfl rfl).val (congrArg Value.bool (decide_eq_false (by decide)))) rfl rfl rfl ?_
      refine KL.op (R.assign rfl rfl) rfl rfl rfl (KL.nil (KQ.seq (KC.condF rfl (KC.seq (KC.region ?_)))))
      refine KL.op ((R.eql rfl rfl rfl).val (congrArg Value.bool (decide_eq_false (by decide)))) rfl rfl rfl ?_
      refine KL.op (R.assign rfl rfl) rfl rfl rfl (KL.nil (KQ.seq (KC.condF rfl (KC.seq (KC.region ?_)))))
      refine KL.op ((R.eql rfl rfl rfl).val (congrArg Value.bool (decide_eq_false (by decide)))) rfl rfl rfl ?_
      refine KL.op (R.assign rfl rfl) rfl rfl rfl (KL.nil (KQ.seq (KC.condF rfl (KC.seq (KC.region ?_)))))
      refine KL.op ((R.eql rfl rfl rfl).val (congrArg Value.bool (decide_eq_false (by decide)))) rfl rfl rfl ?_
      refine KL.op (R.assign rfl rfl) rfl rfl rfl (KL.nil (KQ.seq (KC.condF rfl (KC.seq (KC.seq (KC.region ?_))))))
      refine KL.op ((R.eql rfl rfl rfl).val (congrArg Value.bool (decide_eq_false (by decide)))) rfl rfl rfl ?_
      refine KL.op (R.assign rfl rfl) rfl rfl rfl (KL.nil (KQ.seq (KC.condF rfl (KC.region ?_))))
      refine KL.op ((R.eql rfl rfl rfl).val (congrArg Value.bool (decide_eq_false (by decide)))) rfl rfl rfl ?_
      refine KL.op (R.assign rfl rfl) rfl rfl rfl (KL.nil (KQ.seq (KC.condF rfl (KC.seq (KC.region ?_)))))
      refine KL.op ((R.eql rfl rfl rfl).val (congrArg Value.bool (decide_eq_false (by decide)))) rfl rfl rfl ?_
      refine KL.op (R.assign rfl rfl) rfl rfl rfl (KL.nil (KQ.seq (KC.condF rfl (KC.seq (KC.region ?_)))))
      refine KL.op ((R.eql rfl rfl rfl).val (congrArg Value.bool (decide_eq_true (by decide)))) rfl rfl rfl ?_
      refine KL.op (R.assign rfl rfl) rfl rfl rfl (KL.nil (KQ.seq (KC.condT rfl (KC.region (KL.op (R.move rfl rfl) rfl rfl rfl (KL.op (R.move rfl rfl) rfl rfl rfl (KL.op (R.move rfl rfl) rfl rfl rfl ?_)))))))
      refine KL.op ((R.add rfl rfl rfl (by dsimp only [InR]; omega)).val (congrArg (Value.int .i64) (show (k : Int) + (b % 64 : Nat) = ((k + b % 64 : Nat) : Int) by omega))) rfl rfl rfl ?_
      refine KL.op (R.move rfl rfl) rfl rfl rfl ?_
      refine KL.op ((R.rem rfl rfl rfl (Int.natCast_nonneg _) (by decide)).val (congrArg (Value.int .i64) (show ((k + b % 64 : Nat) : Int) % 64 = (((k + b % 64) % 64 : Nat) : Int) by omega))) rfl rfl rfl ?_
      refine KL.call rfl rfl rfl rfl Tryd.call55 rfl rfl rfl (bit_k a ((k + (b % 64)) % 64) ha2 (by omega)) ?_
      rintro _ _ ⟨rfl, rfl⟩
      refine KL.op (R.assign rfl rfl) rfl rfl rfl (KL.nil (KQ.normBlock (KQ.seq ?_)))
      have hbf : Wr.bitF 7 a b 64 k = Wr.bit a ((k + (b % 64)) % 64) := rfl
      have hb1 := Wr.bitF_lt 7 a b 64 k
      have zv := wv.lt
      refine KC.region (KL.op (R.move rfl rfl) rfl rfl rfl (KL.op (R.move rfl rfl) rfl rfl rfl ?_))
      refine KL.opM (M.lit rfl Tryd.underlying61 zs22 (by decide) rfl rfl rfl) rfl rfl rfl ?_
      rintro _ H2 ⟨rfl, n2⟩
      have z2 := n2.2.1
      have o0 := o0.trans n2.1
      have wv := wv.old n2.1
      have b2 := n2.2.2
      have h1 : Sl 1 (EInt .u64) H2 _ [((Wr.bit a ((k + (b % 64)) % 64) : Nat) : Int)] := Sl.lits (l := [((Wr.bit a ((k + (b % 64)) % 64) : Nat) : Int)]) n2 rfl (by simp) (by intro x hx; simp only [List.mem_cons, List.not_mem_nil, or_false] at hx; subst hx; rw [← hbf]; dsimp only [InR]; omega)
      have lt3 := wv.lt
      refine KL.opM (M.append rfl Tryd.underlying61 inf22 rfl (by decide) rfl rfl wv (by exact h1) (fun _ _ h _ => h) (by omega) (by simp only [List.length_singleton]; omega) (by unfold maxLen; simp only [List.length_singleton]; omega)) rfl rfl rfl ?_
      rintro vn H3 ⟨w3, g3⟩
      try dsimp only at g3
      have ob3 := g3.oldB wv (by omega)
      have o0 := o0.then ob3 (by omega)
      have z3 := ob3.1
      have wv := w3
      refine KL.op (R.assign rfl rfl) rfl rfl rfl (KL.nil (KQ.normBlock (KQ.seq (KC.region (KL.op (R.move rfl rfl) rfl rfl rfl ?_)))))
      refine KL.op ((R.add rfl rfl rfl (by dsimp only [InR]; omega)).val (congrArg (Value.int .i64) (show (k : Int) + 1 = ((k + 1 : Nat) : Int) by omega))) rfl rfl rfl ?_
      refine KL.op (R.assign rfl rfl) rfl rfl rfl (KL.nil ?_)
      refine KQ.again ((k + 1, vn)) ?_ ?_ ?_
      · exact (Sub.cons rfl (Sub.cons rfl (Ext.sub (by repeat (first | exact Ext.refl _ _ | refine Ext.put rfl ?_ | refine Ext.drop rfl ?_)))))
      · show 64 - (k + 1) < 64 - k; omega
      · exact ⟨by show k + 1 ≤ _; omega, o0, by dsimp only; rw [Wr.rows_succ, hbf]; exact wv⟩
    · intro hc22
      try simp only [decide_eq_true_eq, decide_eq_false_iff_not, Bool.not_eq_true', Bool.not_eq_false', Bool.and_eq_true, Bool.or_eq_false_iff] at hc22
      have hkn : k = 64 := by omega
      subst hkn
      refine KC.exit ?_
      refine KQ.exitThen ?_
      refine KQ.exitThen ?_
      refine KQ.hit ?_
      refine KQ.seq (KC.seq (KC.region (KL.op (R.move rfl rfl) rfl rfl rfl ?_)))
      refine KL.call rfl rfl rfl rfl Tryd.call56 rfl rfl rfl (with_k (wv.sl (emptyOld _) (by decide)) (Wr.rows_R _ _ _ _ _) (by rw [Wr.rows_len]; omega)) ?_
      rintro _ _ ⟨rfl, rfl⟩
      refine KL.op (R.assign rfl rfl) rfl rfl rfl (KL.nil (KQ.seq (KC.ret (KQ.ofRet ?_))))
      refine KQ.fin1 Tryd.results27 rfl ?_
      exact ⟨rfl, o0⟩

end Go.Proofs.YtkkhjaiaicmpaaaDoor
