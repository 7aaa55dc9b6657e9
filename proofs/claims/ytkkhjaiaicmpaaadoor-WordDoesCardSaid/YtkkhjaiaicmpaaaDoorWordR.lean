/- The document's small functions: power, cut, one, bit, Signed, below. No condition but sizes. -/
import Derived.Test.YtkkhjaiaicmpaaaDoorWordO
import Derived.Test.YtkkhjaiaicmpaaaDoorWordTb
namespace Go.Proofs.YtkkhjaiaicmpaaaDoor
open Go Go.RowKit
set_option linter.unusedVariables false
set_option linter.unusedSimpArgs false
set_option linter.unnecessarySimpa false

namespace Wr
theorem pow_le {n : Nat} (h : n < 64) : 2 ^ n ≤ 9223372036854775808 := by
  have := Nat.pow_le_pow_right (n := 2) (by omega) (show n ≤ 63 by omega)
  have e : (2 : Nat) ^ 63 = 9223372036854775808 := by decide
  omega
theorem mul2R {k : Nat} (hk : k + 1 < 64) : InR .u64 (2 * ((2 ^ k : Nat) : Int)) := by
  have h := pow_le (n := k + 1) hk
  rw [Nat.pow_succ] at h
  generalize 2 ^ k = p at *
  dsimp only [InR]; omega
theorem mul2V (k : Nat) : (2 : Int) * ((2 ^ k : Nat) : Int) = ((2 ^ (k + 1) : Nat) : Int) := by
  rw [Nat.pow_succ]
  generalize 2 ^ k = p
  omega
theorem neg64 {a : Nat} (h : 2 ^ (64 - 1) ≤ a) (ha : a < 18446744073709551616) : IntKind.u64.wrap (0 - (a : Int)) = ((2 ^ 64 - a : Nat) : Int) := by
  rw [Wd.w64]
  have h1 : (2 : Nat) ^ 64 = 18446744073709551616 := by decide
  have h2 : (2 : Nat) ^ (64 - 1) = 9223372036854775808 := by decide
  rw [h2] at h
  rw [h1]
  omega
theorem sub32 {a : Nat} (ha : a < 4294967296) : IntKind.u64.wrap (((2 ^ 32 : Nat) : Int) - (a : Int)) = ((2 ^ 32 - a : Nat) : Int) := by
  have h1 : (2 : Nat) ^ 32 = 4294967296 := by decide
  rw [Wd.w64, h1]; omega
def bit (a i : Nat) : Nat := a / 2 ^ i % 2
theorem bit_lt (a i : Nat) : bit a i < 2 := Nat.mod_lt _ (by omega)
def with_ : List Int → Int
  | [] => 0
  | x :: l => 2 * with_ l + x
theorem drop_cons {l : List Int} {k : Nat} (h : k < l.length) : l.drop k = l.getD k default :: l.drop (k + 1) := by
  rw [List.drop_eq_getElem_cons h, List.getD_eq_getElem?_getD, List.getElem?_eq_getElem h]; rfl
theorem with_R : ∀ {l : List Int}, (∀ x ∈ l, 0 ≤ x ∧ x ≤ 1) → 0 ≤ with_ l ∧ with_ l < 2 ^ l.length
  | [], _ => by simp [with_]
  | x :: l, h => by
    have h1 := with_R (l := l) (fun y hy => h y (List.mem_cons_of_mem _ hy))
    have h2 := h x List.mem_cons_self
    simp only [with_, List.length_cons]
    have e : (2 : Int) ^ (l.length + 1) = 2 * 2 ^ l.length := by rw [Int.pow_succ]; omega
    omega
def neg (a n : Nat) : Bool := decide (2 ^ (n - 1) ≤ a)
def mag (a n : Nat) : Nat := if 2 ^ (n - 1) ≤ a then 2 ^ n - a else a
def below (a b n : Nat) : Bool := if neg a n = neg b n then (if neg a n = true then decide (mag b n < mag a n) else decide (mag a n < mag b n)) else neg a n
theorem div_one {a p : Nat} (hp : 0 < p) (h : a < 2 * p) : a / p = 1 ↔ p ≤ a := by
  constructor
  · intro e
    have := Nat.div_mul_le_self a p
    rw [e] at this; omega
  · intro e
    exact Nat.div_eq_of_lt_le (by omega) (by omega)
end Wr

set_option maxRecDepth 100000 in
set_option maxHeartbeats 4000000 in
theorem power_k {H : Heap} (n : Nat) (hn : n < 64) : Ct Tryd.prog 53 [.int .i64 (n : Nat)] H (fun u H' => u = .int .u64 ((2 ^ n : Nat) : Int) ∧ H = H') := by
  refine Ct.mk Tryd.func53 rfl Tryd.ntmps53 rfl ?_
  intro W0 hW0
  have o0 : Old H H := Old.refl H
  refine KC.seq ?_
  refine KC.region ?_
  refine KL.op (R.assign rfl rfl) rfl rfl rfl ?_
  refine KL.nil ?_
  refine KQ.seq ?_
  refine KC.seq ?_
  refine KC.region ?_
  refine KL.op (R.assign rfl rfl) rfl rfl rfl ?_
  refine KL.nil ?_
  refine KQ.seq ?_
  refine KC.seq ?_
  refine KC.seq ?_
  refine KC.region ?_
  refine KL.op (R.assign rfl rfl) rfl rfl rfl ?_
  refine KL.nil ?_
  refine KQ.seq ?_
  refine KC.block ?_
  refine KC.loopD (κ := Nat) [5, 6, 7, 10, 11, 3, 8, 9, 4] (fun k => [(4, .int .i64 (k : Nat)), (3, .int .u64 ((2 ^ k : Nat) : Int))]) (fun k Hl => k ≤ n ∧ H = Hl) (fun k => n - k) 0 ?_ ?_ ?_
  · exact (Sub.cons rfl (Sub.cons rfl (Ext.sub (Ext.refl _ _))))
  · exact ⟨Nat.zero_le _, rfl⟩
  · rintro k H1 ⟨hk, rfl⟩
    refine KC.seq ?_
    refine KC.seq ?_
    refine KC.region ?_
    refine KL.op (R.move rfl rfl) rfl rfl rfl ?_
    refine KL.op (R.move rfl rfl) rfl rfl rfl ?_
    refine KL.op (R.lss rfl rfl rfl) rfl rfl rfl ?_
    refine KL.nil ?_
    refine KQ.seq ?_
    refine KC.iteL rfl ?_ ?_
    · intro hc7
      try simp only [decide_eq_true_eq, decide_eq_false_iff_not, Bool.not_eq_true', Bool.not_eq_false', Bool.and_eq_true, Bool.or_eq_false_iff] at hc7
      have hp := Wr.pow_le (n := k) (by omega)
      have hp1 : 2 ^ (k + 1) = 2 ^ k * 2 := Nat.pow_succ ..
      refine KC.skip ?_
      refine KQ.seq ?_
      refine KC.seq ?_
      refine KC.block ?_
      refine KC.region ?_
      refine KL.op (R.move rfl rfl) rfl rfl rfl ?_
      refine KL.op ((R.mul rfl rfl rfl (Wr.mul2R (by omega))).val (congrArg (Value.int .u64) (Wr.mul2V k))) rfl rfl rfl ?_
      refine KL.op (R.assign rfl rfl) rfl rfl rfl ?_
      refine KL.nil ?_
      refine KQ.normBlock ?_
      refine KQ.seq ?_
      refine KC.region ?_
      refine KL.op (R.move rfl rfl) rfl rfl rfl ?_
      refine KL.op ((R.add rfl rfl rfl (by dsimp only [InR]; omega)).val (congrArg (Value.int .i64) (show (k : Int) + 1 = ((k + 1 : Nat) : Int) by omega))) rfl rfl rfl ?_
      refine KL.op (R.assign rfl rfl) rfl rfl rfl ?_
      refine KL.nil ?_
      refine KQ.again (k + 1) ?_ ?_ ?_
      · exact (Sub.cons rfl (Sub.cons rfl (Ext.sub (by repeat (first | exact Ext.refl _ _ | refine Ext.put rfl ?_ | refine Ext.drop rfl ?_)))))
      · omega
      · exact ⟨by omega, rfl⟩
    · intro hc7
      try simp only [decide_eq_true_eq, decide_eq_false_iff_not, Bool.not_eq_true', Bool.not_eq_false', Bool.and_eq_true, Bool.or_eq_false_iff] at hc7
      have hkn : k = n := by omega
      subst hkn
      refine KC.exit ?_
      refine KQ.exitThen ?_
      refine KQ.exitThen ?_
      refine KQ.hit ?_
      refine KQ.seq ?_
      refine KC.seq ?_
      refine KC.region ?_
      refine KL.op (R.move rfl rfl) rfl rfl rfl ?_
      refine KL.op (R.assign rfl rfl) rfl rfl rfl ?_
      refine KL.nil ?_
      refine KQ.seq ?_
      refine KC.ret ?_
      refine KQ.ofRet ?_
      refine KQ.fin1 Tryd.results53 rfl ?_
      exact ⟨rfl, rfl⟩

set_option maxRecDepth 100000 in
set_option maxHeartbeats 4000000 in
theorem cut64_k {H : Heap} (a : Int) : Ct Tryd.prog 22 [.int .u64 a, .int .i64 64] H (fun u H' => u = .int .u64 a ∧ H = H') := by
  refine Ct.mk Tryd.func22 rfl Tryd.ntmps22 rfl ?_
  intro W0 hW0
  have o0 : Old H H := Old.refl H
  refine KC.seq ?_
  refine KC.region ?_
  refine KL.op (R.assign rfl rfl) rfl rfl rfl ?_
  refine KL.nil ?_
  refine KQ.seq ?_
  refine KC.seq ?_
  refine KC.seq ?_
  refine KC.region ?_
  refine KL.op (R.move rfl rfl) rfl rfl rfl ?_
  refine KL.op ((R.eql rfl rfl rfl).val (congrArg Value.bool (decide_eq_true (by rfl)))) rfl rfl rfl ?_
  refine KL.nil ?_
  refine KQ.seq ?_
  refine KC.condT rfl ?_
  refine KC.seq ?_
  refine KC.region ?_
  refine KL.op (R.move rfl rfl) rfl rfl rfl ?_
  refine KL.op (R.assign rfl rfl) rfl rfl rfl ?_
  refine KL.nil ?_
  refine KQ.seq ?_
  refine KC.ret ?_
  refine KQ.retThen ?_
  refine KQ.ofRet ?_
  refine KQ.fin1 Tryd.results22 rfl ?_
  exact ⟨rfl, rfl⟩

set_option maxRecDepth 100000 in
set_option maxHeartbeats 4000000 in
theorem cut32_k {H : Heap} (a : Int) (ra : InR .u64 a) : Ct Tryd.prog 22 [.int .u64 a, .int .i64 32] H (fun u H' => u = .int .u64 (a % 4294967296) ∧ H = H') := by
  refine Ct.mk Tryd.func22 rfl Tryd.ntmps22 rfl ?_
  intro W0 hW0
  have o0 : Old H H := Old.refl H
  refine KC.seq ?_
  refine KC.region ?_
  refine KL.op (R.assign rfl rfl) rfl rfl rfl ?_
  refine KL.nil ?_
  refine KQ.seq ?_
  refine KC.seq ?_
  refine KC.seq ?_
  refine KC.region ?_
  refine KL.op (R.move rfl rfl) rfl rfl rfl ?_
  refine KL.op ((R.eql rfl rfl rfl).val (congrArg Value.bool (decide_eq_false (by decide)))) rfl rfl rfl ?_
  refine KL.nil ?_
  refine KQ.seq ?_
  refine KC.condF rfl ?_
  refine KC.skip ?_
  refine KQ.seq ?_
  refine KC.seq ?_
  refine KC.region ?_
  refine KL.op (R.move rfl rfl) rfl rfl rfl ?_
  refine KL.op (R.move rfl rfl) rfl rfl rfl ?_
  refine KL.call rfl rfl rfl rfl Tryd.call53 rfl rfl rfl (power_k 32 (by decide)) ?_
  rintro _ _ ⟨rfl, rfl⟩
  refine KL.op ((R.rem rfl rfl rfl ra.1 (by decide)).val (congrArg (fun x => Value.int .u64 (a % x)) (show ((2 ^ 32 : Nat) : Int) = 4294967296 by decide))) rfl rfl rfl ?_
  refine KL.op (R.assign rfl rfl) rfl rfl rfl ?_
  refine KL.nil ?_
  refine KQ.seq ?_
  refine KC.ret ?_
  refine KQ.ofRet ?_
  refine KQ.fin1 Tryd.results22 rfl ?_
  exact ⟨rfl, rfl⟩

set_option maxRecDepth 100000 in
set_option maxHeartbeats 4000000 in
theorem rone_k {H : Heap} (b : Bool) : Ct Tryd.prog 24 [.bool b] H (fun u H' => u = .int .u64 (Wd.one b) ∧ H = H') := by
  refine Ct.mk Tryd.func24 rfl Tryd.ntmps24 rfl ?_
  intro W0 hW0
  have o0 : Old H H := Old.refl H
  refine KC.seq ?_
  refine KC.region ?_
  refine KL.op (R.assign rfl rfl) rfl rfl rfl ?_
  refine KL.nil ?_
  refine KQ.seq ?_
  refine KC.seq ?_
  refine KC.seq ?_
  refine KC.region ?_
  refine KL.op (R.move rfl rfl) rfl rfl rfl ?_
  refine KL.nil ?_
  refine KQ.seq ?_
  refine KC.iteL rfl ?_ ?_
  · intro hc3
    try simp only [decide_eq_true_eq, decide_eq_false_iff_not, Bool.not_eq_true', Bool.not_eq_false', Bool.and_eq_true, Bool.or_eq_false_iff] at hc3
    have hb : b = true := hc3
    subst hb
    refine KC.seq ?_
    refine KC.region ?_
    refine KL.op (R.assign rfl rfl) rfl rfl rfl ?_
    refine KL.nil ?_
    refine KQ.seq ?_
    refine KC.ret ?_
    refine KQ.retThen ?_
    refine KQ.ofRet ?_
    refine KQ.fin1 Tryd.results24 rfl ?_
    exact ⟨rfl, rfl⟩
  · intro hc3
    try simp only [decide_eq_true_eq, decide_eq_false_iff_not, Bool.not_eq_true', Bool.not_eq_false', Bool.and_eq_true, Bool.or_eq_false_iff] at hc3
    have hb : b = false := by simpa using hc3
    subst hb
    refine KC.skip ?_
    refine KQ.seq ?_
    refine KC.seq ?_
    refine KC.region ?_
    refine KL.op (R.assign rfl rfl) rfl rfl rfl ?_
    refine KL.nil ?_
    refine KQ.seq ?_
    refine KC.ret ?_
    refine KQ.ofRet ?_
    refine KQ.fin1 Tryd.results24 rfl ?_
    exact ⟨rfl, rfl⟩

set_option maxRecDepth 100000 in
set_option maxHeartbeats 4000000 in
theorem bit_k {H : Heap} (a i : Nat) (ha : a < 18446744073709551616) (hi : i < 64) : Ct Tryd.prog 55 [.int .u64 (a : Nat), .int .i64 (i : Nat)] H (fun u H' => u = .int .u64 (Wr.bit a i : Nat) ∧ H = H') := by
  refine Ct.mk Tryd.func55 rfl Tryd.ntmps55 rfl ?_
  intro W0 hW0
  have o0 : Old H H := Old.refl H
  refine KC.seq ?_
  refine KC.region ?_
  refine KL.op (R.assign rfl rfl) rfl rfl rfl ?_
  refine KL.nil ?_
  refine KQ.seq ?_
  refine KC.seq ?_
  refine KC.region ?_
  refine KL.op (R.move rfl rfl) rfl rfl rfl ?_
  refine KL.op (R.move rfl rfl) rfl rfl rfl ?_
  refine KL.call rfl rfl rfl rfl Tryd.call53 rfl rfl rfl (power_k i hi) ?_
  rintro _ _ ⟨rfl, rfl⟩
  have hp : 0 < 2 ^ i := Nat.two_pow_pos i
  have hd := Nat.div_le_self a (2 ^ i)
  refine KL.op ((R.quo rfl rfl rfl (by omega) (by omega) (by dsimp only [InR]; omega)).val (congrArg (Value.int .u64) (Int.natCast_ediv _ _).symm)) rfl rfl rfl ?_
  refine KL.op ((R.rem rfl rfl rfl (Int.natCast_nonneg _) (by decide)).val (congrArg (Value.int .u64) (show ((a / 2 ^ i : Nat) : Int) % 2 = (Wr.bit a i : Nat) from (Int.natCast_emod (a / 2 ^ i) 2).symm))) rfl rfl rfl ?_
  refine KL.op (R.assign rfl rfl) rfl rfl rfl ?_
  refine KL.nil ?_
  refine KQ.seq ?_
  refine KC.ret ?_
  refine KQ.ofRet ?_
  refine KQ.fin1 Tryd.results55 rfl ?_
  exact ⟨rfl, rfl⟩

set_option maxRecDepth 100000 in
set_option maxHeartbeats 4000000 in
theorem Signed32_k {H : Heap} (a : Nat) (ha : a < 4294967296) : Ct Tryd.prog 54 [.int .u64 (a : Nat), .int .i64 32] H (fun u H' => u = .tuple #[.bool (Wr.neg a 32), .int .u64 (Wr.mag a 32 : Nat)] ∧ H = H') := by
  refine Ct.mk Tryd.func54 rfl Tryd.ntmps54 rfl ?_
  intro W0 hW0
  have o0 : Old H H := Old.refl H
  refine KC.seq ?_
  refine KC.region ?_
  refine KL.op (R.assign rfl rfl) rfl rfl rfl ?_
  refine KL.op (R.assign rfl rfl) rfl rfl rfl ?_
  refine KL.nil ?_
  refine KQ.seq ?_
  refine KC.seq ?_
  refine KC.seq ?_
  refine KC.region ?_
  refine KL.op (R.move rfl rfl) rfl rfl rfl ?_
  refine KL.op (R.move rfl rfl) rfl rfl rfl ?_
  refine KL.op ((R.sub rfl rfl rfl (by dsimp only [InR]; omega)).val (congrArg (Value.int .i64) (show (32 : Int) - 1 = ((31 : Nat) : Int) by decide))) rfl rfl rfl ?_
  refine KL.call rfl rfl rfl rfl Tryd.call53 rfl rfl rfl (power_k 31 (by decide)) ?_
  rintro _ _ ⟨rfl, rfl⟩
  refine KL.op ((R.quo rfl rfl rfl (by omega) (by decide) (by dsimp only [InR]; omega)).val (congrArg (Value.int .u64) (Int.natCast_ediv _ _).symm)) rfl rfl rfl ?_
  refine KL.op (R.eql rfl rfl rfl) rfl rfl rfl ?_
  refine KL.nil ?_
  refine KQ.seq ?_
  refine KC.iteL rfl ?_ ?_
  · intro hc11
    try simp only [decide_eq_true_eq, decide_eq_false_iff_not, Bool.not_eq_true', Bool.not_eq_false', Bool.and_eq_true, Bool.or_eq_false_iff] at hc11
    have hge : 2 ^ (32 - 1) ≤ a := (Wr.div_one (p := 2 ^ 31) (by decide) (by omega)).1 (by omega)
    refine KC.seq ?_
    refine KC.seq ?_
    refine KC.region ?_
    refine KL.op (R.move rfl rfl) rfl rfl rfl ?_
    refine KL.op ((R.eql rfl rfl rfl).val (congrArg Value.bool (decide_eq_false (by decide)))) rfl rfl rfl ?_
    refine KL.nil ?_
    refine KQ.seq ?_
    refine KC.condF rfl ?_
    refine KC.skip ?_
    refine KQ.seq ?_
    refine KC.seq ?_
    refine KC.region ?_
    refine KL.op (R.move rfl rfl) rfl rfl rfl ?_
    refine KL.call rfl rfl rfl rfl Tryd.call53 rfl rfl rfl (power_k 32 (by decide)) ?_
    rintro _ _ ⟨rfl, rfl⟩
    refine KL.op (R.move rfl rfl) rfl rfl rfl ?_
    refine KL.op ((R.subW rfl rfl rfl).val (congrArg (Value.int .u64) (Wr.sub32 (by omega)))) rfl rfl rfl ?_
    refine KL.op (R.assign rfl rfl) rfl rfl rfl ?_
    refine KL.op (R.assign rfl rfl) rfl rfl rfl ?_
    refine KL.nil ?_
    refine KQ.seq ?_
    refine KC.ret ?_
    refine KQ.retThen ?_
    refine KQ.ofRet ?_
    refine KQ.fin2 Tryd.results54 rfl rfl ?_
    unfold Wr.neg Wr.mag
    first
      | exact ⟨by rw [if_pos hge, decide_eq_true hge], rfl⟩
      | exact ⟨by rw [if_neg hlt, decide_eq_false hlt], rfl⟩
  · intro hc11
    try simp only [decide_eq_true_eq, decide_eq_false_iff_not, Bool.not_eq_true', Bool.not_eq_false', Bool.and_eq_true, Bool.or_eq_false_iff] at hc11
    have hlt : ¬ 2 ^ (32 - 1) ≤ a := fun h => hc11 (by have := (Wr.div_one (p := 2 ^ 31) (by decide) (by omega)).2 h; omega)
    refine KC.skip ?_
    refine KQ.seq ?_
    refine KC.seq ?_
    refine KC.region ?_
    refine KL.op (R.move rfl rfl) rfl rfl rfl ?_
    refine KL.op (R.assign rfl rfl) rfl rfl rfl ?_
    refine KL.op (R.assign rfl rfl) rfl rfl rfl ?_
    refine KL.nil ?_
    refine KQ.seq ?_
    refine KC.ret ?_
    refine KQ.ofRet ?_
    refine KQ.fin2 Tryd.results54 rfl rfl ?_
    unfold Wr.neg Wr.mag
    first
      | exact ⟨by rw [if_pos hge, decide_eq_true hge], rfl⟩
      | exact ⟨by rw [if_neg hlt, decide_eq_false hlt], rfl⟩

set_option maxRecDepth 100000 in
set_option maxHeartbeats 4000000 in
theorem below32_k {H : Heap} (a b : Nat) (ha : a < 4294967296) (hb : b < 4294967296) : Ct Tryd.prog 23 [.int .u64 (a : Nat), .int .u64 (b : Nat), .int .i64 32] H (fun u H' => u = .bool (Wr.below a b 32) ∧ H = H') := by
  refine Ct.mk Tryd.func23 rfl Tryd.ntmps23 rfl ?_
  intro W0 hW0
  have o0 : Old H H := Old.refl H
  refine KC.seq ?_
  refine KC.region ?_
  refine KL.op (R.assign rfl rfl) rfl rfl rfl ?_
  refine KL.nil ?_
  refine KQ.seq ?_
  refine KC.seq ?_
  refine KC.region ?_
  refine KL.op (R.move rfl rfl) rfl rfl rfl ?_
  refine KL.op (R.move rfl rfl) rfl rfl rfl ?_
  refine KL.call rfl rfl rfl rfl Tryd.call54 rfl rfl rfl (Signed32_k a ha) ?_
  rintro _ _ ⟨rfl, rfl⟩
  refine KL.op (R.move rfl rfl) rfl rfl rfl ?_
  refine KL.op (R.extract rfl rfl rfl) rfl rfl rfl ?_
  refine KL.op (R.extract rfl rfl rfl) rfl rfl rfl ?_
  refine KL.op (R.assign rfl rfl) rfl rfl rfl ?_
  refine KL.op (R.assign rfl rfl) rfl rfl rfl ?_
  refine KL.nil ?_
  refine KQ.seq ?_
  refine KC.seq ?_
  refine KC.region ?_
  refine KL.op (R.move rfl rfl) rfl rfl rfl ?_
  refine KL.op (R.move rfl rfl) rfl rfl rfl ?_
  refine KL.call rfl rfl rfl rfl Tryd.call54 rfl rfl rfl (Signed32_k b hb) ?_
  rintro _ _ ⟨rfl, rfl⟩
  refine KL.op (R.move rfl rfl) rfl rfl rfl ?_
  refine KL.op (R.extract rfl rfl rfl) rfl rfl rfl ?_
  refine KL.op (R.extract rfl rfl rfl) rfl rfl rfl ?_
  refine KL.op (R.assign rfl rfl) rfl rfl rfl ?_
  refine KL.op (R.assign rfl rfl) rfl rfl rfl ?_
  refine KL.nil ?_
  refine KQ.seq ?_
  refine KC.seq ?_
  refine KC.seq ?_
  refine KC.region ?_
  refine KL.op (R.move rfl rfl) rfl rfl rfl ?_
  refine KL.op (R.move rfl rfl) rfl rfl rfl ?_
  refine KL.op (R.neqB rfl Tryd.underlying4 rfl rfl) rfl rfl rfl ?_
  refine KL.nil ?_
  refine KQ.seq ?_
  refine KC.iteL rfl ?_ ?_
  · intro hc25
    try simp only [decide_eq_true_eq, decide_eq_false_iff_not, Bool.not_eq_true', Bool.not_eq_false', Bool.and_eq_true, Bool.or_eq_false_iff] at hc25
    have hne : ¬ Wr.neg a 32 = Wr.neg b 32 := by simpa using hc25
    refine KC.seq ?_
    refine KC.region ?_
    refine KL.op (R.move rfl rfl) rfl rfl rfl ?_
    refine KL.op (R.assign rfl rfl) rfl rfl rfl ?_
    refine KL.nil ?_
    refine KQ.seq ?_
    refine KC.ret ?_
    refine KQ.retThen ?_
    refine KQ.ofRet ?_
    refine KQ.fin1 Tryd.results23 rfl ?_
    unfold Wr.below
    first
      | exact ⟨by rw [if_neg hne], rfl⟩
      | exact ⟨by rw [if_pos heq, if_pos hng]; exact congrArg Value.bool (decide_eq_decide.2 (by omega)), rfl⟩
      | exact ⟨by rw [if_pos heq, if_neg hng]; exact congrArg Value.bool (decide_eq_decide.2 (by omega)), rfl⟩
  · intro hc25
    try simp only [decide_eq_true_eq, decide_eq_false_iff_not, Bool.not_eq_true', Bool.not_eq_false', Bool.and_eq_true, Bool.or_eq_false_iff] at hc25
    have heq : Wr.neg a 32 = Wr.neg b 32 := by simpa using hc25
    refine KC.skip ?_
    refine KQ.seq ?_
    refine KC.seq ?_
    refine KC.seq ?_
    refine KC.region ?_
    refine KL.op (R.move rfl rfl) rfl rfl rfl ?_
    refine KL.nil ?_
    refine KQ.seq ?_
    refine KC.iteL rfl ?_ ?_
    · intro hc27
      try simp only [decide_eq_true_eq, decide_eq_false_iff_not, Bool.not_eq_true', Bool.not_eq_false', Bool.and_eq_true, Bool.or_eq_false_iff] at hc27
      have hng : Wr.neg a 32 = true := hc27
      refine KC.seq ?_
      refine KC.region ?_
      refine KL.op (R.move rfl rfl) rfl rfl rfl ?_
      refine KL.op (R.move rfl rfl) rfl rfl rfl ?_
      refine KL.op (R.gtr rfl rfl rfl) rfl rfl rfl ?_
      refine KL.op (R.assign rfl rfl) rfl rfl rfl ?_
      refine KL.nil ?_
      refine KQ.seq ?_
      refine KC.ret ?_
      refine KQ.retThen ?_
      refine KQ.ofRet ?_
      refine KQ.fin1 Tryd.results23 rfl ?_
      unfold Wr.below
      first
        | exact ⟨by rw [if_neg hne], rfl⟩
        | exact ⟨by rw [if_pos heq, if_pos hng]; exact congrArg Value.bool (decide_eq_decide.2 (by omega)), rfl⟩
        | exact ⟨by rw [if_pos heq, if_neg hng]; exact congrArg Value.bool (decide_eq_decide.2 (by omega)), rfl⟩
    · intro hc27
      try simp only [decide_eq_true_eq, decide_eq_false_iff_not, Bool.not_eq_true', Bool.not_eq_false', Bool.and_eq_true, Bool.or_eq_false_iff] at hc27
      have hng : ¬ Wr.neg a 32 = true := by simpa using hc27
      refine KC.skip ?_
      refine KQ.seq ?_
      refine KC.seq ?_
      refine KC.region ?_
      refine KL.op (R.move rfl rfl) rfl rfl rfl ?_
      refine KL.op (R.move rfl rfl) rfl rfl rfl ?_
      refine KL.op (R.lss rfl rfl rfl) rfl rfl rfl ?_
      refine KL.op (R.assign rfl rfl) rfl rfl rfl ?_
      refine KL.nil ?_
      refine KQ.seq ?_
      refine KC.ret ?_
      refine KQ.ofRet ?_
      refine KQ.fin1 Tryd.results23 rfl ?_
      unfold Wr.below
      first
        | exact ⟨by rw [if_neg hne], rfl⟩
        | exact ⟨by rw [if_pos heq, if_pos hng]; exact congrArg Value.bool (decide_eq_decide.2 (by omega)), rfl⟩
        | exact ⟨by rw [if_pos heq, if_neg hng]; exact congrArg Value.bool (decide_eq_decide.2 (by omega)), rfl⟩

set_option maxRecDepth 100000 in
set_option maxHeartbeats 4000000 in
theorem Signed64_k {H : Heap} (a : Nat) (ha : a < 18446744073709551616) : Ct Tryd.prog 54 [.int .u64 (a : Nat), .int .i64 64] H (fun u H' => u = .tuple #[.bool (Wr.neg a 64), .int .u64 (Wr.mag a 64 : Nat)] ∧ H = H') := by
  refine Ct.mk Tryd.func54 rfl Tryd.ntmps54 rfl ?_
  intro W0 hW0
  have o0 : Old H H := Old.refl H
  refine KC.seq ?_
  refine KC.region ?_
  refine KL.op (R.assign rfl rfl) rfl rfl rfl ?_
  refine KL.op (R.assign rfl rfl) rfl rfl rfl ?_
  refine KL.nil ?_
  refine KQ.seq ?_
  refine KC.seq ?_
  refine KC.seq ?_
  refine KC.region ?_
  refine KL.op (R.move rfl rfl) rfl rfl rfl ?_
  refine KL.op (R.move rfl rfl) rfl rfl rfl ?_
  refine KL.op ((R.sub rfl rfl rfl (by dsimp only [InR]; omega)).val (congrArg (Value.int .i64) (show (64 : Int) - 1 = ((63 : Nat) : Int) by decide))) rfl rfl rfl ?_
  refine KL.call rfl rfl rfl rfl Tryd.call53 rfl rfl rfl (power_k 63 (by decide)) ?_
  rintro _ _ ⟨rfl, rfl⟩
  refine KL.op ((R.quo rfl rfl rfl (by omega) (by decide) (by dsimp only [InR]; omega)).val (congrArg (Value.int .u64) (Int.natCast_ediv _ _).symm)) rfl rfl rfl ?_
  refine KL.op (R.eql rfl rfl rfl) rfl rfl rfl ?_
  refine KL.nil ?_
  refine KQ.seq ?_
  refine KC.iteL rfl ?_ ?_
  · intro hc11
    try simp only [decide_eq_true_eq, decide_eq_false_iff_not, Bool.not_eq_true', Bool.not_eq_false', Bool.and_eq_true, Bool.or_eq_false_iff] at hc11
    have hge : 2 ^ (64 - 1) ≤ a := (Wr.div_one (p := 2 ^ 63) (by decide) (by omega)).1 (by omega)
    refine KC.seq ?_
    refine KC.seq ?_
    refine KC.region ?_
    refine KL.op (R.move rfl rfl) rfl rfl rfl ?_
    refine KL.op ((R.eql rfl rfl rfl).val (congrArg Value.bool (decide_eq_true (by rfl)))) rfl rfl rfl ?_
    refine KL.nil ?_
    refine KQ.seq ?_
    refine KC.condT rfl ?_
    refine KC.seq ?_
    refine KC.region ?_
    refine KL.op (R.move rfl rfl) rfl rfl rfl ?_
    refine KL.op ((R.subW rfl rfl rfl).val (congrArg (Value.int .u64) (Wr.neg64 hge ha))) rfl rfl rfl ?_
    refine KL.op (R.assign rfl rfl) rfl rfl rfl ?_
    refine KL.op (R.assign rfl rfl) rfl rfl rfl ?_
    refine KL.nil ?_
    refine KQ.seq ?_
    refine KC.ret ?_
    refine KQ.retThen ?_
    refine KQ.retThen ?_
    refine KQ.ofRet ?_
    refine KQ.fin2 Tryd.results54 rfl rfl ?_
    unfold Wr.neg Wr.mag
    first
      | exact ⟨by rw [if_pos hge, decide_eq_true hge], rfl⟩
      | exact ⟨by rw [if_neg hlt, decide_eq_false hlt], rfl⟩
  · intro hc11
    try simp only [decide_eq_true_eq, decide_eq_false_iff_not, Bool.not_eq_true', Bool.not_eq_false', Bool.and_eq_true, Bool.or_eq_false_iff] at hc11
    have hlt : ¬ 2 ^ (64 - 1) ≤ a := fun h => hc11 (by have := (Wr.div_one (p := 2 ^ 63) (by decide) (by omega)).2 h; omega)
    refine KC.skip ?_
    refine KQ.seq ?_
    refine KC.seq ?_
    refine KC.region ?_
    refine KL.op (R.move rfl rfl) rfl rfl rfl ?_
    refine KL.op (R.assign rfl rfl) rfl rfl rfl ?_
    refine KL.op (R.assign rfl rfl) rfl rfl rfl ?_
    refine KL.nil ?_
    refine KQ.seq ?_
    refine KC.ret ?_
    refine KQ.ofRet ?_
    refine KQ.fin2 Tryd.results54 rfl rfl ?_
    unfold Wr.neg Wr.mag
    first
      | exact ⟨by rw [if_pos hge, decide_eq_true hge], rfl⟩
      | exact ⟨by rw [if_neg hlt, decide_eq_false hlt], rfl⟩

set_option maxRecDepth 100000 in
set_option maxHeartbeats 4000000 in
theorem below64_k {H : Heap} (a b : Nat) (ha : a < 18446744073709551616) (hb : b < 18446744073709551616) : Ct Tryd.prog 23 [.int .u64 (a : Nat), .int .u64 (b : Nat), .int .i64 64] H (fun u H' => u = .bool (Wr.below a b 64) ∧ H = H') := by
  refine Ct.mk Tryd.func23 rfl Tryd.ntmps23 rfl ?_
  intro W0 hW0
  have o0 : Old H H := Old.refl H
  refine KC.seq ?_
  refine KC.region ?_
  refine KL.op (R.assign rfl rfl) rfl rfl rfl ?_
  refine KL.nil ?_
  refine KQ.seq ?_
  refine KC.seq ?_
  refine KC.region ?_
  refine KL.op (R.move rfl rfl) rfl rfl rfl ?_
  refine KL.op (R.move rfl rfl) rfl rfl rfl ?_
  refine KL.call rfl rfl rfl rfl Tryd.call54 rfl rfl rfl (Signed64_k a ha) ?_
  rintro _ _ ⟨rfl, rfl⟩
  refine KL.op (R.move rfl rfl) rfl rfl rfl ?_
  refine KL.op (R.extract rfl rfl rfl) rfl rfl rfl ?_
  refine KL.op (R.extract rfl rfl rfl) rfl rfl rfl ?_
  refine KL.op (R.assign rfl rfl) rfl rfl rfl ?_
  refine KL.op (R.assign rfl rfl) rfl rfl rfl ?_
  refine KL.nil ?_
  refine KQ.seq ?_
  refine KC.seq ?_
  refine KC.region ?_
  refine KL.op (R.move rfl rfl) rfl rfl rfl ?_
  refine KL.op (R.move rfl rfl) rfl rfl rfl ?_
  refine KL.call rfl rfl rfl rfl Tryd.call54 rfl rfl rfl (Signed64_k b hb) ?_
  rintro _ _ ⟨rfl, rfl⟩
  refine KL.op (R.move rfl rfl) rfl rfl rfl ?_
  refine KL.op (R.extract rfl rfl rfl) rfl rfl rfl ?_
  refine KL.op (R.extract rfl rfl rfl) rfl rfl rfl ?_
  refine KL.op (R.assign rfl rfl) rfl rfl rfl ?_
  refine KL.op (R.assign rfl rfl) rfl rfl rfl ?_
  refine KL.nil ?_
  refine KQ.seq ?_
  refine KC.seq ?_
  refine KC.seq ?_
  refine KC.region ?_
  refine KL.op (R.move rfl rfl) rfl rfl rfl ?_
  refine KL.op (R.move rfl rfl) rfl rfl rfl ?_
  refine KL.op (R.neqB rfl Tryd.underlying4 rfl rfl) rfl rfl rfl ?_
  refine KL.nil ?_
  refine KQ.seq ?_
  refine KC.iteL rfl ?_ ?_
  · intro hc25
    try simp only [decide_eq_true_eq, decide_eq_false_iff_not, Bool.not_eq_true', Bool.not_eq_false', Bool.and_eq_true, Bool.or_eq_false_iff] at hc25
    have hne : ¬ Wr.neg a 64 = Wr.neg b 64 := by simpa using hc25
    refine KC.seq ?_
    refine KC.region ?_
    refine KL.op (R.move rfl rfl) rfl rfl rfl ?_
    refine KL.op (R.assign rfl rfl) rfl rfl rfl ?_
    refine KL.nil ?_
    refine KQ.seq ?_
    refine KC.ret ?_
    refine KQ.retThen ?_
    refine KQ.ofRet ?_
    refine KQ.fin1 Tryd.results23 rfl ?_
    unfold Wr.below
    first
      | exact ⟨by rw [if_neg hne], rfl⟩
      | exact ⟨by rw [if_pos heq, if_pos hng]; exact congrArg Value.bool (decide_eq_decide.2 (by omega)), rfl⟩
      | exact ⟨by rw [if_pos heq, if_neg hng]; exact congrArg Value.bool (decide_eq_decide.2 (by omega)), rfl⟩
  · intro hc25
    try simp only [decide_eq_true_eq, decide_eq_false_iff_not, Bool.not_eq_true', Bool.not_eq_false', Bool.and_eq_true, Bool.or_eq_false_iff] at hc25
    have heq : Wr.neg a 64 = Wr.neg b 64 := by simpa using hc25
    refine KC.skip ?_
    refine KQ.seq ?_
    refine KC.seq ?_
    refine KC.seq ?_
    refine KC.region ?_
    refine KL.op (R.move rfl rfl) rfl rfl rfl ?_
    refine KL.nil ?_
    refine KQ.seq ?_
    refine KC.iteL rfl ?_ ?_
    · intro hc27
      try simp only [decide_eq_true_eq, decide_eq_false_iff_not, Bool.not_eq_true', Bool.not_eq_false', Bool.and_eq_true, Bool.or_eq_false_iff] at hc27
      have hng : Wr.neg a 64 = true := hc27
      refine KC.seq ?_
      refine KC.region ?_
      refine KL.op (R.move rfl rfl) rfl rfl rfl ?_
      refine KL.op (R.move rfl rfl) rfl rfl rfl ?_
      refine KL.op (R.gtr rfl rfl rfl) rfl rfl rfl ?_
      refine KL.op (R.assign rfl rfl) rfl rfl rfl ?_
      refine KL.nil ?_
      refine KQ.seq ?_
      refine KC.ret ?_
      refine KQ.retThen ?_
      refine KQ.ofRet ?_
      refine KQ.fin1 Tryd.results23 rfl ?_
      unfold Wr.below
      first
        | exact ⟨by rw [if_neg hne], rfl⟩
        | exact ⟨by rw [if_pos heq, if_pos hng]; exact congrArg Value.bool (decide_eq_decide.2 (by omega)), rfl⟩
        | exact ⟨by rw [if_pos heq, if_neg hng]; exact congrArg Value.bool (decide_eq_decide.2 (by omega)), rfl⟩
    · intro hc27
      try simp only [decide_eq_true_eq, decide_eq_false_iff_not, Bool.not_eq_true', Bool.not_eq_false', Bool.and_eq_true, Bool.or_eq_false_iff] at hc27
      have hng : ¬ Wr.neg a 64 = true := by simpa using hc27
      refine KC.skip ?_
      refine KQ.seq ?_
      refine KC.seq ?_
      refine KC.region ?_
      refine KL.op (R.move rfl rfl) rfl rfl rfl ?_
      refine KL.op (R.move rfl rfl) rfl rfl rfl ?_
      refine KL.op (R.lss rfl rfl rfl) rfl rfl rfl ?_
      refine KL.op (R.assign rfl rfl) rfl rfl rfl ?_
      refine KL.nil ?_
      refine KQ.seq ?_
      refine KC.ret ?_
      refine KQ.ofRet ?_
      refine KQ.fin1 Tryd.results23 rfl ?_
      unfold Wr.below
      first
        | exact ⟨by rw [if_neg hne], rfl⟩
        | exact ⟨by rw [if_pos heq, if_pos hng]; exact congrArg Value.bool (decide_eq_decide.2 (by omega)), rfl⟩
        | exact ⟨by rw [if_pos heq, if_neg hng]; exact congrArg Value.bool (decide_eq_decide.2 (by omega)), rfl⟩

end Go.Proofs.YtkkhjaiaicmpaaaDoor
