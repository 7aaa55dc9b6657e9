/- The document's with and Count. No condition but sizes. -/
import Derived.Test.YtkkhjaiaicmpaaaDoorWordR
namespace Go.Proofs.YtkkhjaiaicmpaaaDoor
open Go Go.RowKit
set_option linter.unusedVariables false
set_option linter.unusedSimpArgs false
set_option linter.unnecessarySimpa false

namespace Wr
theorem with_R64 {l : List Int} (h : ∀ x ∈ l, 0 ≤ x ∧ x ≤ 1) (hl : l.length ≤ 64) : 0 ≤ with_ l ∧ with_ l < 18446744073709551616 := by
  have h1 := with_R h
  have h2 := Nat.pow_le_pow_right (n := 2) (by omega) hl
  have e2 : (2 : Int) ^ l.length = ((2 ^ l.length : Nat) : Int) := by rw [Int.natCast_pow]; rfl
  have e : (2 : Nat) ^ 64 = 18446744073709551616 := by decide +kernel
  rw [e2] at h1
  generalize 2 ^ l.length = p at *
  omega
/-- how many of the first k bits are set -/
def popc (a : Nat) : Nat → Nat
  | 0 => 0
  | k + 1 => popc a k + bit a k
theorem popc_le (a : Nat) : ∀ k, popc a k ≤ k
  | 0 => Nat.le_refl _
  | k + 1 => by have := popc_le a k; have := bit_lt a k; simp only [popc]; omega
def at_ (kind n j : Nat) : Nat := if kind = 0 then n - 1 - j else j
end Wr

set_option maxRecDepth 100000 in
set_option maxHeartbeats 4000000 in
theorem with_k {H : Heap} {v : Value} {l : List Int} (hs : Sl 1 (EInt .u64) H v l) (hb : ∀ x ∈ l, 0 ≤ x ∧ x ≤ 1) (hl : l.length ≤ 64) : Ct Tryd.prog 56 [v] H (fun u H' => u = .int .u64 (Wr.with_ l) ∧ H = H') := by
  refine Ct.mk Tryd.func56 rfl Tryd.ntmps56 rfl ?_
  intro W0 hW0
  have o0 : Old H H := Old.refl H
  have hll := hs.len
  refine KC.seq ?_
  refine KC.region ?_
  refine KL.op (R.assign rfl rfl) rfl rfl rfl ?_
  refine KL.nil ?_
  refine KQ.seq ?_
  refine KC.seq ?_
  refine KC.region ?_
  refine KL.op (R.assign rfl rfl) rfl rfl rfl ?_
  refine KL.nil ?_
  refine KQ.seq ?_
  refine KC.seq ?_
  refine KC.seq ?_
  refine KC.region ?_
  refine KL.op (R.move rfl rfl) rfl rfl rfl ?_
  refine KL.op (R.lenS rfl Tryd.underlying61 rfl hs) rfl rfl rfl ?_
  refine KL.op (R.sub rfl rfl rfl (by dsimp only [InR]; omega)) rfl rfl rfl ?_
  refine KL.op (R.assign rfl rfl) rfl rfl rfl ?_
  refine KL.nil ?_
  refine KQ.seq ?_
  refine KC.block ?_
  refine KC.loopD (κ := Nat) [8, 9, 12, 13, 14, 15, 16, 17, 18, 3, 10, 11, 4] (fun k => [(4, .int .i64 ((l.length : Int) - 1 - (k : Nat))), (3, .int .u64 (Wr.with_ (l.drop (l.length - k))))]) (fun k Hl => k ≤ l.length ∧ H = Hl) (fun k => l.length - k) 0 ?_ ?_ ?_
  · exact (Sub.cons (congrArg (fun x => some (Value.int .i64 x)) (show (l.length : Int) - 1 = (l.length : Int) - 1 - (0 : Nat) by omega)) (Sub.cons (congrArg (fun x => some (Value.int .u64 (Wr.with_ x))) (show ([] : List Int) = l.drop (l.length - 0) by rw [Nat.sub_zero, List.drop_length])) (Ext.sub (Ext.refl _ _))))
  · exact ⟨Nat.zero_le _, rfl⟩
  · rintro k H1 ⟨hk, rfl⟩
    refine KC.seq ?_
    refine KC.seq ?_
    refine KC.region ?_
    refine KL.op (R.move rfl rfl) rfl rfl rfl ?_
    refine KL.op (R.geq rfl rfl rfl) rfl rfl rfl ?_
    refine KL.nil ?_
    refine KQ.seq ?_
    refine KC.iteL rfl ?_ ?_
    · intro hc9
      try simp only [decide_eq_true_eq, decide_eq_false_iff_not, Bool.not_eq_true', Bool.not_eq_false', Bool.and_eq_true, Bool.or_eq_false_iff] at hc9
      have hk2 : k < l.length := by omega
      obtain ⟨hcx, hcr⟩ := hs.int (l.length - 1 - k) (by omega)
      have hd := Wr.drop_cons (l := l) (k := l.length - (k + 1)) (by omega)
      rw [show l.length - (k + 1) + 1 = l.length - k by omega, show l.length - (k + 1) = l.length - 1 - k by omega] at hd
      have hw : Wr.with_ (l.drop (l.length - 1 - k)) = 2 * Wr.with_ (l.drop (l.length - k)) + l.getD (l.length - 1 - k) default := by rw [hd]; rfl
      have hR := Wr.with_R64 (l := l.drop (l.length - 1 - k)) (fun x hx => hb x (List.mem_of_mem_drop hx)) (by rw [List.length_drop]; omega)
      have hR2 := Wr.with_R64 (l := l.drop (l.length - k)) (fun x hx => hb x (List.mem_of_mem_drop hx)) (by rw [List.length_drop]; omega)
      have hx01 := hb (l.getD (l.length - 1 - k) default) (by rw [List.getD_eq_getElem?_getD, List.getElem?_eq_getElem (by omega)]; exact List.getElem_mem _)
      have hix : l.length - (k + 1) = l.length - 1 - k := by omega
      refine KC.skip ?_
      refine KQ.seq ?_
      refine KC.seq ?_
      refine KC.block ?_
      refine KC.region ?_
      refine KL.op (R.move rfl rfl) rfl rfl rfl ?_
      refine KL.op (R.mul rfl rfl rfl (by dsimp only [InR]; omega)) rfl rfl rfl ?_
      refine KL.op (R.move rfl rfl) rfl rfl rfl ?_
      refine KL.op (R.move rfl rfl) rfl rfl rfl ?_
      refine KL.op (R.index1 (j := l.length - 1 - k) rfl Tryd.underlying61 sz22 rfl rfl hs (by omega) (by omega)) rfl rfl rfl ?_
      refine KL.op (R.load rfl Tryd.underlying22 rfl rfl hcx) rfl rfl rfl ?_
      refine KL.op ((R.add rfl rfl rfl (by dsimp only [InR]; omega)).val (congrArg (Value.int .u64) (show 2 * Wr.with_ (l.drop (l.length - k)) + l.getD (l.length - 1 - k) default = Wr.with_ (l.drop (l.length - (k + 1))) by rw [hix, hw]))) rfl rfl rfl ?_
      refine KL.op (R.assign rfl rfl) rfl rfl rfl ?_
      refine KL.nil ?_
      refine KQ.normBlock ?_
      refine KQ.seq ?_
      refine KC.region ?_
      refine KL.op (R.move rfl rfl) rfl rfl rfl ?_
      refine KL.op ((R.sub rfl rfl rfl (by dsimp only [InR]; omega)).val (congrArg (Value.int .i64) (show (l.length : Int) - 1 - (k : Nat) - 1 = (l.length : Int) - 1 - (k + 1 : Nat) by omega))) rfl rfl rfl ?_
      refine KL.op (R.assign rfl rfl) rfl rfl rfl ?_
      refine KL.nil ?_
      refine KQ.again (k + 1) ?_ ?_ ?_
      · exact (Sub.cons rfl (Sub.cons rfl (Ext.sub (by repeat (first | exact Ext.refl _ _ | refine Ext.put rfl ?_ | refine Ext.drop rfl ?_)))))
      · omega
      · exact ⟨by omega, rfl⟩
    · intro hc9
      try simp only [decide_eq_true_eq, decide_eq_false_iff_not, Bool.not_eq_true', Bool.not_eq_false', Bool.and_eq_true, Bool.or_eq_false_iff] at hc9
      have hkl : k = l.length := by omega
      subst hkl
      rw [Nat.sub_self]
      refine KC.exit ?_
      refine KQ.exitThen ?_
      refine KQ.exitThen ?_
      refine KQ.hit ?_
      refine KQ.seq ?_
      refine KC.seq ?_
      refine KC.region ?_
      refine KL.op (R.move rfl rfl) rfl rfl rfl ?_
      refine KL.op (R.assign rfl rfl) rfl rfl rfl ?_
      refine KL.nil ?_
      refine KQ.seq ?_
      refine KC.ret ?_
      refine KQ.ofRet ?_
      refine KQ.fin1 Tryd.results56 rfl ?_
      exact ⟨rfl, rfl⟩

set_option maxRecDepth 100000 in
set_option maxHeartbeats 4000000 in
theorem Count32_0 {H : Heap} (a : Nat) (ha : a < 18446744073709551616) : Ct Tryd.prog 25 [.int .i64 0, .int .u64 (a : Nat), .int .i64 32] H (fun u H' => (∃ c : Nat, c ≤ 32 ∧ u = .int .u64 (c : Nat) ∧ (∀ j, j < c → Wr.bit a (Wr.at_ 0 32 j) = 0) ∧ (c < 32 → Wr.bit a (Wr.at_ 0 32 c) = 1)) ∧ H = H') := by
  refine Ct.mk Tryd.func25 rfl Tryd.ntmps25 rfl ?_
  intro W0 hW0
  have o0 : Old H H := Old.refl H
  refine KC.seq ?_
  refine KC.region ?_
  refine KL.op (R.assign rfl rfl) rfl rfl rfl ?_
  refine KL.nil ?_
  refine KQ.seq ?_
  refine KC.seq ?_
  refine KC.region ?_
  refine KL.op (R.assign rfl rfl) rfl rfl rfl ?_
  refine KL.nil ?_
  refine KQ.seq ?_
  refine KC.seq ?_
  refine KC.seq ?_
  refine KC.region ?_
  refine KL.op (R.assign rfl rfl) rfl rfl rfl ?_
  refine KL.nil ?_
  refine KQ.seq ?_
  refine KC.block ?_
  refine KC.loopD (κ := Nat) [10, 11, 12, 15, 9, 16, 17, 18, 19, 20, 21, 22, 23, 24, 25, 26, 27, 28, 29, 30, 6, 31, 32, 33, 34, 35, 36, 37, 38, 39, 40, 7, 13, 14, 8] (fun k => [(8, .int .i64 (k : Nat)), (7, .int .u64 (k : Nat))]) (fun k Hl => k ≤ 32 ∧ (∀ j, j < k → Wr.bit a (Wr.at_ 0 32 j) = 0) ∧ H = Hl) (fun k => 32 - k) 0 ?_ ?_ ?_
  · exact (Sub.cons rfl (Sub.cons rfl (Ext.sub (Ext.refl _ _))))
  · exact ⟨Nat.zero_le _, fun j hj => by omega, rfl⟩
  · rintro k H1 ⟨hk, hlow, rfl⟩
    have hbl := Wr.bit_lt a (32 - 1 - k)
    have hpl := Wr.popc_le a k
    refine KC.seq ?_
    refine KC.seq ?_
    refine KC.region ?_
    refine KL.op (R.move rfl rfl) rfl rfl rfl ?_
    refine KL.op (R.move rfl rfl) rfl rfl rfl ?_
    refine KL.op (R.lss rfl rfl rfl) rfl rfl rfl ?_
    refine KL.nil ?_
    refine KQ.seq ?_
    refine KC.iteL rfl ?_ ?_
    · intro hc12
      try simp only [decide_eq_true_eq, decide_eq_false_iff_not, Bool.not_eq_true', Bool.not_eq_false', Bool.and_eq_true, Bool.or_eq_false_iff] at hc12
      refine KC.skip ?_
      refine KQ.seq ?_
      refine KC.seq ?_
      refine KC.block ?_
      refine KC.seq ?_
      refine KC.region ?_
      refine KL.op (R.move rfl rfl) rfl rfl rfl ?_
      refine KL.op (R.assign rfl rfl) rfl rfl rfl ?_
      refine KL.nil ?_
      refine KQ.seq ?_
      refine KC.seq ?_
      refine KC.seq ?_
      refine KC.region ?_
      refine KL.op (R.move rfl rfl) rfl rfl rfl ?_
      refine KL.op ((R.eql rfl rfl rfl).val (congrArg Value.bool (decide_eq_true (by rfl)))) rfl rfl rfl ?_
      refine KL.nil ?_
      refine KQ.seq ?_
      refine KC.condT rfl ?_
      refine KC.region ?_
      refine KL.op (R.move rfl rfl) rfl rfl rfl ?_
      refine KL.op (R.sub rfl rfl rfl (by dsimp only [InR]; omega)) rfl rfl rfl ?_
      refine KL.op (R.move rfl rfl) rfl rfl rfl ?_
      refine KL.op ((R.sub rfl rfl rfl (by dsimp only [InR]; omega)).val (congrArg (Value.int .i64) (show (32 : Int) - 1 - (k : Nat) = ((32 - 1 - k : Nat) : Int) by omega))) rfl rfl rfl ?_
      refine KL.op (R.assign rfl rfl) rfl rfl rfl ?_
      refine KL.nil ?_
      refine KQ.seq ?_
      refine KC.seq ?_
      refine KC.seq ?_
      refine KC.region ?_
      refine KL.op (R.move rfl rfl) rfl rfl rfl ?_
      refine KL.op (R.move rfl rfl) rfl rfl rfl ?_
      refine KL.call rfl rfl rfl rfl Tryd.call55 rfl rfl rfl (bit_k a (32 - 1 - k) ha (by omega)) ?_
      rintro _ _ ⟨rfl, rfl⟩
      refine KL.op (R.eql rfl rfl rfl) rfl rfl rfl ?_
      refine KL.op (R.move rfl rfl) rfl rfl rfl ?_
      refine KL.case (d := 26) rfl ?_ ?_
      · intro hg26
        try simp only [decide_eq_true_eq, decide_eq_false_iff_not, Bool.not_eq_true', Bool.not_eq_false', Bool.and_eq_true, Bool.or_eq_false_iff] at hg26
        refine KL.op (R.move rfl rfl) rfl rfl rfl ?_
        refine KL.op ((R.lss rfl rfl rfl).val (congrArg Value.bool (decide_eq_true (by decide)))) rfl rfl rfl ?_
        refine KL.op (R.pick rfl rfl rfl) rfl rfl rfl ?_
        refine KL.nil ?_
        refine KQ.seq ?_
        refine KC.condT rfl ?_
        refine KC.seq ?_
        refine KC.region ?_
        refine KL.op (R.move rfl rfl) rfl rfl rfl ?_
        refine KL.op (R.assign rfl rfl) rfl rfl rfl ?_
        refine KL.nil ?_
        refine KQ.seq ?_
        refine KC.ret ?_
        refine KQ.retThen ?_
        refine KQ.retBlock ?_
        refine KQ.retThen ?_
        refine KQ.retThen ?_
        refine KQ.retBlock ?_
        refine KQ.retThen ?_
        refine KQ.ofRet ?_
        refine KQ.fin1 Tryd.results25 rfl ?_
        first
          | exact ⟨⟨k, hk, rfl, hlow, fun h => absurd h (by omega)⟩, rfl⟩
          | exact ⟨⟨k, hk, rfl, hlow, fun _ => by show Wr.bit a (32 - 1 - k) = 1; omega⟩, rfl⟩
      · intro hg26
        try simp only [decide_eq_true_eq, decide_eq_false_iff_not, Bool.not_eq_true', Bool.not_eq_false', Bool.and_eq_true, Bool.or_eq_false_iff] at hg26
        refine KL.skip rfl rfl rfl ?_
        refine KL.skip rfl rfl rfl ?_
        refine KL.op (R.pick rfl rfl rfl) rfl rfl rfl ?_
        refine KL.nil ?_
        refine KQ.seq ?_
        refine KC.condF rfl ?_
        refine KC.skip ?_
        refine KQ.seq ?_
        refine KC.seq ?_
        refine KC.region ?_
        refine KL.op (R.move rfl rfl) rfl rfl rfl ?_
        refine KL.op ((R.lss rfl rfl rfl).val (congrArg Value.bool (decide_eq_true (by decide)))) rfl rfl rfl ?_
        refine KL.op (R.move rfl rfl) rfl rfl rfl ?_
        refine KL.skip rfl rfl rfl ?_
        refine KL.skip rfl rfl rfl ?_
        refine KL.skip rfl rfl rfl ?_
        refine KL.skip rfl rfl rfl ?_
        refine KL.op (R.pick rfl rfl rfl) rfl rfl rfl ?_
        refine KL.nil ?_
        refine KQ.seq ?_
        refine KC.condT rfl ?_
        refine KC.region ?_
        refine KL.op (R.move rfl rfl) rfl rfl rfl ?_
        refine KL.op ((R.add rfl rfl rfl (by dsimp only [InR]; omega)).val (congrArg (Value.int .u64) (show (k : Int) + 1 = ((k + 1 : Nat) : Int) by omega))) rfl rfl rfl ?_
        refine KL.op (R.assign rfl rfl) rfl rfl rfl ?_
        refine KL.nil ?_
        refine KQ.normBlock ?_
        refine KQ.seq ?_
        refine KC.region ?_
        refine KL.op (R.move rfl rfl) rfl rfl rfl ?_
        refine KL.op ((R.add rfl rfl rfl (by dsimp only [InR]; omega)).val (congrArg (Value.int .i64) (show (k : Int) + 1 = ((k + 1 : Nat) : Int) by omega))) rfl rfl rfl ?_
        refine KL.op (R.assign rfl rfl) rfl rfl rfl ?_
        refine KL.nil ?_
        skip
        refine KQ.again (k + 1) ?_ ?_ ?_
        · exact (Sub.cons rfl (Sub.cons rfl (Ext.sub (by repeat (first | exact Ext.refl _ _ | refine Ext.put rfl ?_ | refine Ext.drop rfl ?_)))))
        · omega
        · exact ⟨by omega, fun j hj => by
              by_cases e : j = k
              · subst e; show Wr.bit a (32 - 1 - j) = 0; first | omega | (simp at *; omega)
              · exact hlow j (by omega), rfl⟩
    · intro hc12
      try simp only [decide_eq_true_eq, decide_eq_false_iff_not, Bool.not_eq_true', Bool.not_eq_false', Bool.and_eq_true, Bool.or_eq_false_iff] at hc12
      refine KC.exit ?_
      refine KQ.exitThen ?_
      refine KQ.exitThen ?_
      refine KQ.hit ?_
      refine KQ.seq ?_
      refine KC.seq ?_
      refine KC.region ?_
      refine KL.op (R.move rfl rfl) rfl rfl rfl ?_
      refine KL.op (R.assign rfl rfl) rfl rfl rfl ?_
      refine KL.nil ?_
      refine KQ.seq ?_
      refine KC.ret ?_
      refine KQ.ofRet ?_
      refine KQ.fin1 Tryd.results25 rfl ?_
      first
        | exact ⟨⟨k, hk, rfl, hlow, fun h => absurd h (by omega)⟩, rfl⟩
        | exact ⟨⟨k, hk, rfl, hlow, fun _ => by show Wr.bit a (32 - 1 - k) = 1; omega⟩, rfl⟩

set_option maxRecDepth 100000 in
set_option maxHeartbeats 4000000 in
theorem Count32_1 {H : Heap} (a : Nat) (ha : a < 18446744073709551616) : Ct Tryd.prog 25 [.int .i64 1, .int .u64 (a : Nat), .int .i64 32] H (fun u H' => (∃ c : Nat, c ≤ 32 ∧ u = .int .u64 (c : Nat) ∧ (∀ j, j < c → Wr.bit a (Wr.at_ 1 32 j) = 0) ∧ (c < 32 → Wr.bit a (Wr.at_ 1 32 c) = 1)) ∧ H = H') := by
  refine Ct.mk Tryd.func25 rfl Tryd.ntmps25 rfl ?_
  intro W0 hW0
  have o0 : Old H H := Old.refl H
  refine KC.seq ?_
  refine KC.region ?_
  refine KL.op (R.assign rfl rfl) rfl rfl rfl ?_
  refine KL.nil ?_
  refine KQ.seq ?_
  refine KC.seq ?_
  refine KC.region ?_
  refine KL.op (R.assign rfl rfl) rfl rfl rfl ?_
  refine KL.nil ?_
  refine KQ.seq ?_
  refine KC.seq ?_
  refine KC.seq ?_
  refine KC.region ?_
  refine KL.op (R.assign rfl rfl) rfl rfl rfl ?_
  refine KL.nil ?_
  refine KQ.seq ?_
  refine KC.block ?_
  refine KC.loopD (κ := Nat) [10, 11, 12, 15, 9, 16, 17, 18, 19, 20, 21, 22, 23, 24, 25, 26, 27, 28, 29, 30, 6, 31, 32, 33, 34, 35, 36, 37, 38, 39, 40, 7, 13, 14, 8] (fun k => [(8, .int .i64 (k : Nat)), (7, .int .u64 (k : Nat))]) (fun k Hl => k ≤ 32 ∧ (∀ j, j < k → Wr.bit a (Wr.at_ 1 32 j) = 0) ∧ H = Hl) (fun k => 32 - k) 0 ?_ ?_ ?_
  · exact (Sub.cons rfl (Sub.cons rfl (Ext.sub (Ext.refl _ _))))
  · exact ⟨Nat.zero_le _, fun j hj => by omega, rfl⟩
  · rintro k H1 ⟨hk, hlow, rfl⟩
    have hbl := Wr.bit_lt a k
    have hpl := Wr.popc_le a k
    refine KC.seq ?_
    refine KC.seq ?_
    refine KC.region ?_
    refine KL.op (R.move rfl rfl) rfl rfl rfl ?_
    refine KL.op (R.move rfl rfl) rfl rfl rfl ?_
    refine KL.op (R.lss rfl rfl rfl) rfl rfl rfl ?_
    refine KL.nil ?_
    refine KQ.seq ?_
    refine KC.iteL rfl ?_ ?_
    · intro hc12
      try simp only [decide_eq_true_eq, decide_eq_false_iff_not, Bool.not_eq_true', Bool.not_eq_false', Bool.and_eq_true, Bool.or_eq_false_iff] at hc12
      refine KC.skip ?_
      refine KQ.seq ?_
      refine KC.seq ?_
      refine KC.block ?_
      refine KC.seq ?_
      refine KC.region ?_
      refine KL.op (R.move rfl rfl) rfl rfl rfl ?_
      refine KL.op (R.assign rfl rfl) rfl rfl rfl ?_
      refine KL.nil ?_
      refine KQ.seq ?_
      refine KC.seq ?_
      refine KC.seq ?_
      refine KC.region ?_
      refine KL.op (R.move rfl rfl) rfl rfl rfl ?_
      refine KL.op ((R.eql rfl rfl rfl).val (congrArg Value.bool (decide_eq_false (by decide)))) rfl rfl rfl ?_
      refine KL.nil ?_
      refine KQ.seq ?_
      refine KC.condF rfl ?_
      refine KC.skip ?_
      refine KQ.seq ?_
      refine KC.seq ?_
      refine KC.seq ?_
      refine KC.region ?_
      refine KL.op (R.move rfl rfl) rfl rfl rfl ?_
      refine KL.op (R.move rfl rfl) rfl rfl rfl ?_
      refine KL.call rfl rfl rfl rfl Tryd.call55 rfl rfl rfl (bit_k a k ha (by omega)) ?_
      rintro _ _ ⟨rfl, rfl⟩
      refine KL.op (R.eql rfl rfl rfl) rfl rfl rfl ?_
      refine KL.op (R.move rfl rfl) rfl rfl rfl ?_
      refine KL.case (d := 26) rfl ?_ ?_
      · intro hg26
        try simp only [decide_eq_true_eq, decide_eq_false_iff_not, Bool.not_eq_true', Bool.not_eq_false', Bool.and_eq_true, Bool.or_eq_false_iff] at hg26
        refine KL.op (R.move rfl rfl) rfl rfl rfl ?_
        refine KL.op ((R.lss rfl rfl rfl).val (congrArg Value.bool (decide_eq_true (by decide)))) rfl rfl rfl ?_
        refine KL.op (R.pick rfl rfl rfl) rfl rfl rfl ?_
        refine KL.nil ?_
        refine KQ.seq ?_
        refine KC.condT rfl ?_
        refine KC.seq ?_
        refine KC.region ?_
        refine KL.op (R.move rfl rfl) rfl rfl rfl ?_
        refine KL.op (R.assign rfl rfl) rfl rfl rfl ?_
        refine KL.nil ?_
        refine KQ.seq ?_
        refine KC.ret ?_
        refine KQ.retThen ?_
        refine KQ.retBlock ?_
        refine KQ.retThen ?_
        refine KQ.retThen ?_
        refine KQ.retBlock ?_
        refine KQ.retThen ?_
        refine KQ.ofRet ?_
        refine KQ.fin1 Tryd.results25 rfl ?_
        first
          | exact ⟨⟨k, hk, rfl, hlow, fun h => absurd h (by omega)⟩, rfl⟩
          | exact ⟨⟨k, hk, rfl, hlow, fun _ => by show Wr.bit a k = 1; omega⟩, rfl⟩
      · intro hg26
        try simp only [decide_eq_true_eq, decide_eq_false_iff_not, Bool.not_eq_true', Bool.not_eq_false', Bool.and_eq_true, Bool.or_eq_false_iff] at hg26
        refine KL.skip rfl rfl rfl ?_
        refine KL.skip rfl rfl rfl ?_
        refine KL.op (R.pick rfl rfl rfl) rfl rfl rfl ?_
        refine KL.nil ?_
        refine KQ.seq ?_
        refine KC.condF rfl ?_
        refine KC.skip ?_
        refine KQ.seq ?_
        refine KC.seq ?_
        refine KC.region ?_
        refine KL.op (R.move rfl rfl) rfl rfl rfl ?_
        refine KL.op ((R.lss rfl rfl rfl).val (congrArg Value.bool (decide_eq_true (by decide)))) rfl rfl rfl ?_
        refine KL.op (R.move rfl rfl) rfl rfl rfl ?_
        refine KL.skip rfl rfl rfl ?_
        refine KL.skip rfl rfl rfl ?_
        refine KL.skip rfl rfl rfl ?_
        refine KL.skip rfl rfl rfl ?_
        refine KL.op (R.pick rfl rfl rfl) rfl rfl rfl ?_
        refine KL.nil ?_
        refine KQ.seq ?_
        refine KC.condT rfl ?_
        refine KC.region ?_
        refine KL.op (R.move rfl rfl) rfl rfl rfl ?_
        refine KL.op ((R.add rfl rfl rfl (by dsimp only [InR]; omega)).val (congrArg (Value.int .u64) (show (k : Int) + 1 = ((k + 1 : Nat) : Int) by omega))) rfl rfl rfl ?_
        refine KL.op (R.assign rfl rfl) rfl rfl rfl ?_
        refine KL.nil ?_
        refine KQ.normBlock ?_
        refine KQ.seq ?_
        refine KC.region ?_
        refine KL.op (R.move rfl rfl) rfl rfl rfl ?_
        refine KL.op ((R.add rfl rfl rfl (by dsimp only [InR]; omega)).val (congrArg (Value.int .i64) (show (k : Int) + 1 = ((k + 1 : Nat) : Int) by omega))) rfl rfl rfl ?_
        refine KL.op (R.assign rfl rfl) rfl rfl rfl ?_
        refine KL.nil ?_
        skip
        refine KQ.again (k + 1) ?_ ?_ ?_
        · exact (Sub.cons rfl (Sub.cons rfl (Ext.sub (by repeat (first | exact Ext.refl _ _ | refine Ext.put rfl ?_ | refine Ext.drop rfl ?_)))))
        · omega
        · exact ⟨by omega, fun j hj => by
              by_cases e : j = k
              · subst e; show Wr.bit a j = 0; first | omega | (simp at *; omega)
              · exact hlow j (by omega), rfl⟩
    · intro hc12
      try simp only [decide_eq_true_eq, decide_eq_false_iff_not, Bool.not_eq_true', Bool.not_eq_false', Bool.and_eq_true, Bool.or_eq_false_iff] at hc12
      refine KC.exit ?_
      refine KQ.exitThen ?_
      refine KQ.exitThen ?_
      refine KQ.hit ?_
      refine KQ.seq ?_
      refine KC.seq ?_
      refine KC.region ?_
      refine KL.op (R.move rfl rfl) rfl rfl rfl ?_
      refine KL.op (R.assign rfl rfl) rfl rfl rfl ?_
      refine KL.nil ?_
      refine KQ.seq ?_
      refine KC.ret ?_
      refine KQ.ofRet ?_
      refine KQ.fin1 Tryd.results25 rfl ?_
      first
        | exact ⟨⟨k, hk, rfl, hlow, fun h => absurd h (by omega)⟩, rfl⟩
        | exact ⟨⟨k, hk, rfl, hlow, fun _ => by show Wr.bit a k = 1; omega⟩, rfl⟩

set_option maxRecDepth 100000 in
set_option maxHeartbeats 4000000 in
theorem Count32_2 {H : Heap} (a : Nat) (ha : a < 18446744073709551616) : Ct Tryd.prog 25 [.int .i64 2, .int .u64 (a : Nat), .int .i64 32] H (fun u H' => u = .int .u64 (Wr.popc a 32 : Nat) ∧ H = H') := by
  refine Ct.mk Tryd.func25 rfl Tryd.ntmps25 rfl ?_
  intro W0 hW0
  have o0 : Old H H := Old.refl H
  refine KC.seq ?_
  refine KC.region ?_
  refine KL.op (R.assign rfl rfl) rfl rfl rfl ?_
  refine KL.nil ?_
  refine KQ.seq ?_
  refine KC.seq ?_
  refine KC.region ?_
  refine KL.op (R.assign rfl rfl) rfl rfl rfl ?_
  refine KL.nil ?_
  refine KQ.seq ?_
  refine KC.seq ?_
  refine KC.seq ?_
  refine KC.region ?_
  refine KL.op (R.assign rfl rfl) rfl rfl rfl ?_
  refine KL.nil ?_
  refine KQ.seq ?_
  refine KC.block ?_
  refine KC.loopD (κ := Nat) [10, 11, 12, 15, 9, 16, 17, 18, 19, 20, 21, 22, 23, 24, 25, 26, 27, 28, 29, 30, 6, 31, 32, 33, 34, 35, 36, 37, 38, 39, 40, 7, 13, 14, 8] (fun k => [(8, .int .i64 (k : Nat)), (7, .int .u64 (Wr.popc a k : Nat))]) (fun k Hl => k ≤ 32 ∧ H = Hl) (fun k => 32 - k) 0 ?_ ?_ ?_
  · exact (Sub.cons rfl (Sub.cons rfl (Ext.sub (Ext.refl _ _))))
  · exact ⟨Nat.zero_le _, rfl⟩
  · rintro k H1 ⟨hk, rfl⟩
    have hbl := Wr.bit_lt a k
    have hpl := Wr.popc_le a k
    refine KC.seq ?_
    refine KC.seq ?_
    refine KC.region ?_
    refine KL.op (R.move rfl rfl) rfl rfl rfl ?_
    refine KL.op (R.move rfl rfl) rfl rfl rfl ?_
    refine KL.op (R.lss rfl rfl rfl) rfl rfl rfl ?_
    refine KL.nil ?_
    refine KQ.seq ?_
    refine KC.iteL rfl ?_ ?_
    · intro hc12
      try simp only [decide_eq_true_eq, decide_eq_false_iff_not, Bool.not_eq_true', Bool.not_eq_false', Bool.and_eq_true, Bool.or_eq_false_iff] at hc12
      refine KC.skip ?_
      refine KQ.seq ?_
      refine KC.seq ?_
      refine KC.block ?_
      refine KC.seq ?_
      refine KC.region ?_
      refine KL.op (R.move rfl rfl) rfl rfl rfl ?_
      refine KL.op (R.assign rfl rfl) rfl rfl rfl ?_
      refine KL.nil ?_
      refine KQ.seq ?_
      refine KC.seq ?_
      refine KC.seq ?_
      refine KC.region ?_
      refine KL.op (R.move rfl rfl) rfl rfl rfl ?_
      refine KL.op ((R.eql rfl rfl rfl).val (congrArg Value.bool (decide_eq_false (by decide)))) rfl rfl rfl ?_
      refine KL.nil ?_
      refine KQ.seq ?_
      refine KC.condF rfl ?_
      refine KC.skip ?_
      refine KQ.seq ?_
      refine KC.seq ?_
      refine KC.seq ?_
      refine KC.region ?_
      refine KL.op (R.move rfl rfl) rfl rfl rfl ?_
      refine KL.op (R.move rfl rfl) rfl rfl rfl ?_
      refine KL.call rfl rfl rfl rfl Tryd.call55 rfl rfl rfl (bit_k a k ha (by omega)) ?_
      rintro _ _ ⟨rfl, rfl⟩
      refine KL.op (R.eql rfl rfl rfl) rfl rfl rfl ?_
      refine KL.op (R.move rfl rfl) rfl rfl rfl ?_
      refine KL.case (d := 26) rfl ?_ ?_
      · intro hg26
        try simp only [decide_eq_true_eq, decide_eq_false_iff_not, Bool.not_eq_true', Bool.not_eq_false', Bool.and_eq_true, Bool.or_eq_false_iff] at hg26
        refine KL.op (R.move rfl rfl) rfl rfl rfl ?_
        refine KL.op ((R.lss rfl rfl rfl).val (congrArg Value.bool (decide_eq_false (by decide)))) rfl rfl rfl ?_
        refine KL.op (R.pick rfl rfl rfl) rfl rfl rfl ?_
        refine KL.nil ?_
        refine KQ.seq ?_
        refine KC.condF rfl ?_
        refine KC.skip ?_
        refine KQ.seq ?_
        refine KC.seq ?_
        refine KC.region ?_
        refine KL.op (R.move rfl rfl) rfl rfl rfl ?_
        refine KL.op ((R.lss rfl rfl rfl).val (congrArg Value.bool (decide_eq_false (by decide)))) rfl rfl rfl ?_
        refine KL.op (R.move rfl rfl) rfl rfl rfl ?_
        refine KL.op (R.move rfl rfl) rfl rfl rfl ?_
        refine KL.op (R.move rfl rfl) rfl rfl rfl ?_
        refine KL.call rfl rfl rfl rfl Tryd.call55 rfl rfl rfl (bit_k a k ha (by omega)) ?_
        rintro _ _ ⟨rfl, rfl⟩
        refine KL.op (R.eql rfl rfl rfl) rfl rfl rfl ?_
        refine KL.op (R.pick rfl rfl rfl) rfl rfl rfl ?_
        refine KL.nil ?_
        refine KQ.seq ?_
        refine KC.iteL rfl ?_ ?_
        · intro hc38
          try simp only [decide_eq_true_eq, decide_eq_false_iff_not, Bool.not_eq_true', Bool.not_eq_false', Bool.and_eq_true, Bool.or_eq_false_iff] at hc38
          refine KC.region ?_
          refine KL.op (R.move rfl rfl) rfl rfl rfl ?_
          refine KL.op ((R.add rfl rfl rfl (by dsimp only [InR]; omega)).val (congrArg (Value.int .u64) (show (Wr.popc a k : Int) + 1 = ((Wr.popc a (k + 1) : Nat) : Int) by simp only [Wr.popc]; omega))) rfl rfl rfl ?_
          refine KL.op (R.assign rfl rfl) rfl rfl rfl ?_
          refine KL.nil ?_
          refine KQ.normBlock ?_
          refine KQ.seq ?_
          refine KC.region ?_
          refine KL.op (R.move rfl rfl) rfl rfl rfl ?_
          refine KL.op ((R.add rfl rfl rfl (by dsimp only [InR]; omega)).val (congrArg (Value.int .i64) (show (k : Int) + 1 = ((k + 1 : Nat) : Int) by omega))) rfl rfl rfl ?_
          refine KL.op (R.assign rfl rfl) rfl rfl rfl ?_
          refine KL.nil ?_
          try rw [show Wr.popc a k = Wr.popc a (k + 1) by simp only [Wr.popc]; omega]
          refine KQ.again (k + 1) ?_ ?_ ?_
          · exact (Sub.cons rfl (Sub.cons rfl (Ext.sub (by repeat (first | exact Ext.refl _ _ | refine Ext.put rfl ?_ | refine Ext.drop rfl ?_)))))
          · omega
          · exact ⟨by omega, rfl⟩
        · intro hc38
          try simp only [decide_eq_true_eq, decide_eq_false_iff_not, Bool.not_eq_true', Bool.not_eq_false', Bool.and_eq_true, Bool.or_eq_false_iff] at hc38
          refine KC.skip ?_
          refine KQ.normBlock ?_
          refine KQ.seq ?_
          refine KC.region ?_
          refine KL.op (R.move rfl rfl) rfl rfl rfl ?_
          refine KL.op ((R.add rfl rfl rfl (by dsimp only [InR]; omega)).val (congrArg (Value.int .i64) (show (k : Int) + 1 = ((k + 1 : Nat) : Int) by omega))) rfl rfl rfl ?_
          refine KL.op (R.assign rfl rfl) rfl rfl rfl ?_
          refine KL.nil ?_
          try rw [show Wr.popc a k = Wr.popc a (k + 1) by simp only [Wr.popc]; omega]
          refine KQ.again (k + 1) ?_ ?_ ?_
          · exact (Sub.cons rfl (Sub.cons rfl (Ext.sub (by repeat (first | exact Ext.refl _ _ | refine Ext.put rfl ?_ | refine Ext.drop rfl ?_)))))
          · omega
          · exact ⟨by omega, rfl⟩
      · intro hg26
        try simp only [decide_eq_true_eq, decide_eq_false_iff_not, Bool.not_eq_true', Bool.not_eq_false', Bool.and_eq_true, Bool.or_eq_false_iff] at hg26
        refine KL.skip rfl rfl rfl ?_
        refine KL.skip rfl rfl rfl ?_
        refine KL.op (R.pick rfl rfl rfl) rfl rfl rfl ?_
        refine KL.nil ?_
        refine KQ.seq ?_
        refine KC.condF rfl ?_
        refine KC.skip ?_
        refine KQ.seq ?_
        refine KC.seq ?_
        refine KC.region ?_
        refine KL.op (R.move rfl rfl) rfl rfl rfl ?_
        refine KL.op ((R.lss rfl rfl rfl).val (congrArg Value.bool (decide_eq_false (by decide)))) rfl rfl rfl ?_
        refine KL.op (R.move rfl rfl) rfl rfl rfl ?_
        refine KL.op (R.move rfl rfl) rfl rfl rfl ?_
        refine KL.op (R.move rfl rfl) rfl rfl rfl ?_
        refine KL.call rfl rfl rfl rfl Tryd.call55 rfl rfl rfl (bit_k a k ha (by omega)) ?_
        rintro _ _ ⟨rfl, rfl⟩
        refine KL.op (R.eql rfl rfl rfl) rfl rfl rfl ?_
        refine KL.op (R.pick rfl rfl rfl) rfl rfl rfl ?_
        refine KL.nil ?_
        refine KQ.seq ?_
        refine KC.iteL rfl ?_ ?_
        · intro hc38
          try simp only [decide_eq_true_eq, decide_eq_false_iff_not, Bool.not_eq_true', Bool.not_eq_false', Bool.and_eq_true, Bool.or_eq_false_iff] at hc38
          refine KC.region ?_
          refine KL.op (R.move rfl rfl) rfl rfl rfl ?_
          refine KL.op ((R.add rfl rfl rfl (by dsimp only [InR]; omega)).val (congrArg (Value.int .u64) (show (Wr.popc a k : Int) + 1 = ((Wr.popc a (k + 1) : Nat) : Int) by simp only [Wr.popc]; omega))) rfl rfl rfl ?_
          refine KL.op (R.assign rfl rfl) rfl rfl rfl ?_
          refine KL.nil ?_
          refine KQ.normBlock ?_
          refine KQ.seq ?_
          refine KC.region ?_
          refine KL.op (R.move rfl rfl) rfl rfl rfl ?_
          refine KL.op ((R.add rfl rfl rfl (by dsimp only [InR]; omega)).val (congrArg (Value.int .i64) (show (k : Int) + 1 = ((k + 1 : Nat) : Int) by omega))) rfl rfl rfl ?_
          refine KL.op (R.assign rfl rfl) rfl rfl rfl ?_
          refine KL.nil ?_
          try rw [show Wr.popc a k = Wr.popc a (k + 1) by simp only [Wr.popc]; omega]
          refine KQ.again (k + 1) ?_ ?_ ?_
          · exact (Sub.cons rfl (Sub.cons rfl (Ext.sub (by repeat (first | exact Ext.refl _ _ | refine Ext.put rfl ?_ | refine Ext.drop rfl ?_)))))
          · omega
          · exact ⟨by omega, rfl⟩
        · intro hc38
          try simp only [decide_eq_true_eq, decide_eq_false_iff_not, Bool.not_eq_true', Bool.not_eq_false', Bool.and_eq_true, Bool.or_eq_false_iff] at hc38
          refine KC.skip ?_
          refine KQ.normBlock ?_
          refine KQ.seq ?_
          refine KC.region ?_
          refine KL.op (R.move rfl rfl) rfl rfl rfl ?_
          refine KL.op ((R.add rfl rfl rfl (by dsimp only [InR]; omega)).val (congrArg (Value.int .i64) (show (k : Int) + 1 = ((k + 1 : Nat) : Int) by omega))) rfl rfl rfl ?_
          refine KL.op (R.assign rfl rfl) rfl rfl rfl ?_
          refine KL.nil ?_
          try rw [show Wr.popc a k = Wr.popc a (k + 1) by simp only [Wr.popc]; omega]
          refine KQ.again (k + 1) ?_ ?_ ?_
          · exact (Sub.cons rfl (Sub.cons rfl (Ext.sub (by repeat (first | exact Ext.refl _ _ | refine Ext.put rfl ?_ | refine Ext.drop rfl ?_)))))
          · omega
          · exact ⟨by omega, rfl⟩
    · intro hc12
      try simp only [decide_eq_true_eq, decide_eq_false_iff_not, Bool.not_eq_true', Bool.not_eq_false', Bool.and_eq_true, Bool.or_eq_false_iff] at hc12
      refine KC.exit ?_
      refine KQ.exitThen ?_
      refine KQ.exitThen ?_
      refine KQ.hit ?_
      refine KQ.seq ?_
      refine KC.seq ?_
      refine KC.region ?_
      refine KL.op (R.move rfl rfl) rfl rfl rfl ?_
      refine KL.op (R.assign rfl rfl) rfl rfl rfl ?_
      refine KL.nil ?_
      refine KQ.seq ?_
      refine KC.ret ?_
      refine KQ.ofRet ?_
      refine KQ.fin1 Tryd.results25 rfl ?_
      have e : k = 32 := by omega
      subst e
      exact ⟨rfl, rfl⟩

set_option maxRecDepth 100000 in
set_option maxHeartbeats 4000000 in
theorem Count64_0 {H : Heap} (a : Nat) (ha : a < 18446744073709551616) : Ct Tryd.prog 25 [.int .i64 0, .int .u64 (a : Nat), .int .i64 64] H (fun u H' => (∃ c : Nat, c ≤ 64 ∧ u = .int .u64 (c : Nat) ∧ (∀ j, j < c → Wr.bit a (Wr.at_ 0 64 j) = 0) ∧ (c < 64 → Wr.bit a (Wr.at_ 0 64 c) = 1)) ∧ H = H') := by
  refine Ct.mk Tryd.func25 rfl Tryd.ntmps25 rfl ?_
  intro W0 hW0
  have o0 : Old H H := Old.refl H
  refine KC.seq ?_
  refine KC.region ?_
  refine KL.op (R.assign rfl rfl) rfl rfl rfl ?_
  refine KL.nil ?_
  refine KQ.seq ?_
  refine KC.seq ?_
  refine KC.region ?_
  refine KL.op (R.assign rfl rfl) rfl rfl rfl ?_
  refine KL.nil ?_
  refine KQ.seq ?_
  refine KC.seq ?_
  refine KC.seq ?_
  refine KC.region ?_
  refine KL.op (R.assign rfl rfl) rfl rfl rfl ?_
  refine KL.nil ?_
  refine KQ.seq ?_
  refine KC.block ?_
  refine KC.loopD (κ := Nat) [10, 11, 12, 15, 9, 16, 17, 18, 19, 20, 21, 22, 23, 24, 25, 26, 27, 28, 29, 30, 6, 31, 32, 33, 34, 35, 36, 37, 38, 39, 40, 7, 13, 14, 8] (fun k => [(8, .int .i64 (k : Nat)), (7, .int .u64 (k : Nat))]) (fun k Hl => k ≤ 64 ∧ (∀ j, j < k → Wr.bit a (Wr.at_ 0 64 j) = 0) ∧ H = Hl) (fun k => 64 - k) 0 ?_ ?_ ?_
  · exact (Sub.cons rfl (Sub.cons rfl (Ext.sub (Ext.refl _ _))))
  · exact ⟨Nat.zero_le _, fun j hj => by omega, rfl⟩
  · rintro k H1 ⟨hk, hlow, rfl⟩
    have hbl := Wr.bit_lt a (64 - 1 - k)
    have hpl := Wr.popc_le a k
    refine KC.seq ?_
    refine KC.seq ?_
    refine KC.region ?_
    refine KL.op (R.move rfl rfl) rfl rfl rfl ?_
    refine KL.op (R.move rfl rfl) rfl rfl rfl ?_
    refine KL.op (R.lss rfl rfl rfl) rfl rfl rfl ?_
    refine KL.nil ?_
    refine KQ.seq ?_
    refine KC.iteL rfl ?_ ?_
    · intro hc12
      try simp only [decide_eq_true_eq, decide_eq_false_iff_not, Bool.not_eq_true', Bool.not_eq_false', Bool.and_eq_true, Bool.or_eq_false_iff] at hc12
      refine KC.skip ?_
      refine KQ.seq ?_
      refine KC.seq ?_
      refine KC.block ?_
      refine KC.seq ?_
      refine KC.region ?_
      refine KL.op (R.move rfl rfl) rfl rfl rfl ?_
      refine KL.op (R.assign rfl rfl) rfl rfl rfl ?_
      refine KL.nil ?_
      refine KQ.seq ?_
      refine KC.seq ?_
      refine KC.seq ?_
      refine KC.region ?_
      refine KL.op (R.move rfl rfl) rfl rfl rfl ?_
      refine KL.op ((R.eql rfl rfl rfl).val (congrArg Value.bool (decide_eq_true (by rfl)))) rfl rfl rfl ?_
      refine KL.nil ?_
      refine KQ.seq ?_
      refine KC.condT rfl ?_
      refine KC.region ?_
      refine KL.op (R.move rfl rfl) rfl rfl rfl ?_
      refine KL.op (R.sub rfl rfl rfl (by dsimp only [InR]; omega)) rfl rfl rfl ?_
      refine KL.op (R.move rfl rfl) rfl rfl rfl ?_
      refine KL.op ((R.sub rfl rfl rfl (by dsimp only [InR]; omega)).val (congrArg (Value.int .i64) (show (64 : Int) - 1 - (k : Nat) = ((64 - 1 - k : Nat) : Int) by omega))) rfl rfl rfl ?_
      refine KL.op (R.assign rfl rfl) rfl rfl rfl ?_
      refine KL.nil ?_
      refine KQ.seq ?_
      refine KC.seq ?_
      refine KC.seq ?_
      refine KC.region ?_
      refine KL.op (R.move rfl rfl) rfl rfl rfl ?_
      refine KL.op (R.move rfl rfl) rfl rfl rfl ?_
      refine KL.call rfl rfl rfl rfl Tryd.call55 rfl rfl rfl (bit_k a (64 - 1 - k) ha (by omega)) ?_
      rintro _ _ ⟨rfl, rfl⟩
      refine KL.op (R.eql rfl rfl rfl) rfl rfl rfl ?_
      refine KL.op (R.move rfl rfl) rfl rfl rfl ?_
      refine KL.case (d := 26) rfl ?_ ?_
      · intro hg26
        try simp only [decide_eq_true_eq, decide_eq_false_iff_not, Bool.not_eq_true', Bool.not_eq_false', Bool.and_eq_true, Bool.or_eq_false_iff] at hg26
        refine KL.op (R.move rfl rfl) rfl rfl rfl ?_
        refine KL.op ((R.lss rfl rfl rfl).val (congrArg Value.bool (decide_eq_true (by decide)))) rfl rfl rfl ?_
        refine KL.op (R.pick rfl rfl rfl) rfl rfl rfl ?_
        refine KL.nil ?_
        refine KQ.seq ?_
        refine KC.condT rfl ?_
        refine KC.seq ?_
        refine KC.region ?_
        refine KL.op (R.move rfl rfl) rfl rfl rfl ?_
        refine KL.op (R.assign rfl rfl) rfl rfl rfl ?_
        refine KL.nil ?_
        refine KQ.seq ?_
        refine KC.ret ?_
        refine KQ.retThen ?_
        refine KQ.retBlock ?_
        refine KQ.retThen ?_
        refine KQ.retThen ?_
        refine KQ.retBlock ?_
        refine KQ.retThen ?_
        refine KQ.ofRet ?_
        refine KQ.fin1 Tryd.results25 rfl ?_
        first
          | exact ⟨⟨k, hk, rfl, hlow, fun h => absurd h (by omega)⟩, rfl⟩
          | exact ⟨⟨k, hk, rfl, hlow, fun _ => by show Wr.bit a (64 - 1 - k) = 1; omega⟩, rfl⟩
      · intro hg26
        try simp only [decide_eq_true_eq, decide_eq_false_iff_not, Bool.not_eq_true', Bool.not_eq_false', Bool.and_eq_true, Bool.or_eq_false_iff] at hg26
        refine KL.skip rfl rfl rfl ?_
        refine KL.skip rfl rfl rfl ?_
        refine KL.op (R.pick rfl rfl rfl) rfl rfl rfl ?_
        refine KL.nil ?_
        refine KQ.seq ?_
        refine KC.condF rfl ?_
        refine KC.skip ?_
        refine KQ.seq ?_
        refine KC.seq ?_
        refine KC.region ?_
        refine KL.op (R.move rfl rfl) rfl rfl rfl ?_
        refine KL.op ((R.lss rfl rfl rfl).val (congrArg Value.bool (decide_eq_true (by decide)))) rfl rfl rfl ?_
        refine KL.op (R.move rfl rfl) rfl rfl rfl ?_
        refine KL.skip rfl rfl rfl ?_
        refine KL.skip rfl rfl rfl ?_
        refine KL.skip rfl rfl rfl ?_
        refine KL.skip rfl rfl rfl ?_
        refine KL.op (R.pick rfl rfl rfl) rfl rfl rfl ?_
        refine KL.nil ?_
        refine KQ.seq ?_
        refine KC.condT rfl ?_
        refine KC.region ?_
        refine KL.op (R.move rfl rfl) rfl rfl rfl ?_
        refine KL.op ((R.add rfl rfl rfl (by dsimp only [InR]; omega)).val (congrArg (Value.int .u64) (show (k : Int) + 1 = ((k + 1 : Nat) : Int) by omega))) rfl rfl rfl ?_
        refine KL.op (R.assign rfl rfl) rfl rfl rfl ?_
        refine KL.nil ?_
        refine KQ.normBlock ?_
        refine KQ.seq ?_
        refine KC.region ?_
        refine KL.op (R.move rfl rfl) rfl rfl rfl ?_
        refine KL.op ((R.add rfl rfl rfl (by dsimp only [InR]; omega)).val (congrArg (Value.int .i64) (show (k : Int) + 1 = ((k + 1 : Nat) : Int) by omega))) rfl rfl rfl ?_
        refine KL.op (R.assign rfl rfl) rfl rfl rfl ?_
        refine KL.nil ?_
        skip
        refine KQ.again (k + 1) ?_ ?_ ?_
        · exact (Sub.cons rfl (Sub.cons rfl (Ext.sub (by repeat (first | exact Ext.refl _ _ | refine Ext.put rfl ?_ | refine Ext.drop rfl ?_)))))
        · omega
        · exact ⟨by omega, fun j hj => by
              by_cases e : j = k
              · subst e; show Wr.bit a (64 - 1 - j) = 0; first | omega | (simp at *; omega)
              · exact hlow j (by omega), rfl⟩
    · intro hc12
      try simp only [decide_eq_true_eq, decide_eq_false_iff_not, Bool.not_eq_true', Bool.not_eq_false', Bool.and_eq_true, Bool.or_eq_false_iff] at hc12
      refine KC.exit ?_
      refine KQ.exitThen ?_
      refine KQ.exitThen ?_
      refine KQ.hit ?_
      refine KQ.seq ?_
      refine KC.seq ?_
      refine KC.region ?_
      refine KL.op (R.move rfl rfl) rfl rfl rfl ?_
      refine KL.op (R.assign rfl rfl) rfl rfl rfl ?_
      refine KL.nil ?_
      refine KQ.seq ?_
      refine KC.ret ?_
      refine KQ.ofRet ?_
      refine KQ.fin1 Tryd.results25 rfl ?_
      first
        | exact ⟨⟨k, hk, rfl, hlow, fun h => absurd h (by omega)⟩, rfl⟩
        | exact ⟨⟨k, hk, rfl, hlow, fun _ => by show Wr.bit a (64 - 1 - k) = 1; omega⟩, rfl⟩

set_option maxRecDepth 100000 in
set_option maxHeartbeats 4000000 in
theorem Count64_1 {H : Heap} (a : Nat) (ha : a < 18446744073709551616) : Ct Tryd.prog 25 [.int .i64 1, .int .u64 (a : Nat), .int .i64 64] H (fun u H' => (∃ c : Nat, c ≤ 64 ∧ u = .int .u64 (c : Nat) ∧ (∀ j, j < c → Wr.bit a (Wr.at_ 1 64 j) = 0) ∧ (c < 64 → Wr.bit a (Wr.at_ 1 64 c) = 1)) ∧ H = H') := by
  refine Ct.mk Tryd.func25 rfl Tryd.ntmps25 rfl ?_
  intro W0 hW0
  have o0 : Old H H := Old.refl H
  refine KC.seq ?_
  refine KC.region ?_
  refine KL.op (R.assign rfl rfl) rfl rfl rfl ?_
  refine KL.nil ?_
  refine KQ.seq ?_
  refine KC.seq ?_
  refine KC.region ?_
  refine KL.op (R.assign rfl rfl) rfl rfl rfl ?_
  refine KL.nil ?_
  refine KQ.seq ?_
  refine KC.seq ?_
  refine KC.seq ?_
  refine KC.region ?_
  refine KL.op (R.assign rfl rfl) rfl rfl rfl ?_
  refine KL.nil ?_
  refine KQ.seq ?_
  refine KC.block ?_
  refine KC.loopD (κ := Nat) [10, 11, 12, 15, 9, 16, 17, 18, 19, 20, 21, 22, 23, 24, 25, 26, 27, 28, 29, 30, 6, 31, 32, 33, 34, 35, 36, 37, 38, 39, 40, 7, 13, 14, 8] (fun k => [(8, .int .i64 (k : Nat)), (7, .int .u64 (k : Nat))]) (fun k Hl => k ≤ 64 ∧ (∀ j, j < k → Wr.bit a (Wr.at_ 1 64 j) = 0) ∧ H = Hl) (fun k => 64 - k) 0 ?_ ?_ ?_
  · exact (Sub.cons rfl (Sub.cons rfl (Ext.sub (Ext.refl _ _))))
  · exact ⟨Nat.zero_le _, fun j hj => by omega, rfl⟩
  · rintro k H1 ⟨hk, hlow, rfl⟩
    have hbl := Wr.bit_lt a k
    have hpl := Wr.popc_le a k
    refine KC.seq ?_
    refine KC.seq ?_
    refine KC.region ?_
    refine KL.op (R.move rfl rfl) rfl rfl rfl ?_
    refine KL.op (R.move rfl rfl) rfl rfl rfl ?_
    refine KL.op (R.lss rfl rfl rfl) rfl rfl rfl ?_
    refine KL.nil ?_
    refine KQ.seq ?_
    refine KC.iteL rfl ?_ ?_
    · intro hc12
      try simp only [decide_eq_true_eq, decide_eq_false_iff_not, Bool.not_eq_true', Bool.not_eq_false', Bool.and_eq_true, Bool.or_eq_false_iff] at hc12
      refine KC.skip ?_
      refine KQ.seq ?_
      refine KC.seq ?_
      refine KC.block ?_
      refine KC.seq ?_
      refine KC.region ?_
      refine KL.op (R.move rfl rfl) rfl rfl rfl ?_
      refine KL.op (R.assign rfl rfl) rfl rfl rfl ?_
      refine KL.nil ?_
      refine KQ.seq ?_
      refine KC.seq ?_
      refine KC.seq ?_
      refine KC.region ?_
      refine KL.op (R.move rfl rfl) rfl rfl rfl ?_
      refine KL.op ((R.eql rfl rfl rfl).val (congrArg Value.bool (decide_eq_false (by decide)))) rfl rfl rfl ?_
      refine KL.nil ?_
      refine KQ.seq ?_
      refine KC.condF rfl ?_
      refine KC.skip ?_
      refine KQ.seq ?_
      refine KC.seq ?_
      refine KC.seq ?_
      refine KC.region ?_
      refine KL.op (R.move rfl rfl) rfl rfl rfl ?_
      refine KL.op (R.move rfl rfl) rfl rfl rfl ?_
      refine KL.call rfl rfl rfl rfl Tryd.call55 rfl rfl rfl (bit_k a k ha (by omega)) ?_
      rintro _ _ ⟨rfl, rfl⟩
      refine KL.op (R.eql rfl rfl rfl) rfl rfl rfl ?_
      refine KL.op (R.move rfl rfl) rfl rfl rfl ?_
      refine KL.case (d := 26) rfl ?_ ?_
      · intro hg26
        try simp only [decide_eq_true_eq, decide_eq_false_iff_not, Bool.not_eq_true', Bool.not_eq_false', Bool.and_eq_true, Bool.or_eq_false_iff] at hg26
        refine KL.op (R.move rfl rfl) rfl rfl rfl ?_
        refine KL.op ((R.lss rfl rfl rfl).val (congrArg Value.bool (decide_eq_true (by decide)))) rfl rfl rfl ?_
        refine KL.op (R.pick rfl rfl rfl) rfl rfl rfl ?_
        refine KL.nil ?_
        refine KQ.seq ?_
        refine KC.condT rfl ?_
        refine KC.seq ?_
        refine KC.region ?_
        refine KL.op (R.move rfl rfl) rfl rfl rfl ?_
        refine KL.op (R.assign rfl rfl) rfl rfl rfl ?_
        refine KL.nil ?_
        refine KQ.seq ?_
        refine KC.ret ?_
        refine KQ.retThen ?_
        refine KQ.retBlock ?_
        refine KQ.retThen ?_
        refine KQ.retThen ?_
        refine KQ.retBlock ?_
        refine KQ.retThen ?_
        refine KQ.ofRet ?_
        refine KQ.fin1 Tryd.results25 rfl ?_
        first
          | exact ⟨⟨k, hk, rfl, hlow, fun h => absurd h (by omega)⟩, rfl⟩
          | exact ⟨⟨k, hk, rfl, hlow, fun _ => by show Wr.bit a k = 1; omega⟩, rfl⟩
      · intro hg26
        try simp only [decide_eq_true_eq, decide_eq_false_iff_not, Bool.not_eq_true', Bool.not_eq_false', Bool.and_eq_true, Bool.or_eq_false_iff] at hg26
        refine KL.skip rfl rfl rfl ?_
        refine KL.skip rfl rfl rfl ?_
        refine KL.op (R.pick rfl rfl rfl) rfl rfl rfl ?_
        refine KL.nil ?_
        refine KQ.seq ?_
        refine KC.condF rfl ?_
        refine KC.skip ?_
        refine KQ.seq ?_
        refine KC.seq ?_
        refine KC.region ?_
        refine KL.op (R.move rfl rfl) rfl rfl rfl ?_
        refine KL.op ((R.lss rfl rfl rfl).val (congrArg Value.bool (decide_eq_true (by decide)))) rfl rfl rfl ?_
        refine KL.op (R.move rfl rfl) rfl rfl rfl ?_
        refine KL.skip rfl rfl rfl ?_
        refine KL.skip rfl rfl rfl ?_
        refine KL.skip rfl rfl rfl ?_
        refine KL.skip rfl rfl rfl ?_
        refine KL.op (R.pick rfl rfl rfl) rfl rfl rfl ?_
        refine KL.nil ?_
        refine KQ.seq ?_
        refine KC.condT rfl ?_
        refine KC.region ?_
        refine KL.op (R.move rfl rfl) rfl rfl rfl ?_
        refine KL.op ((R.add rfl rfl rfl (by dsimp only [InR]; omega)).val (congrArg (Value.int .u64) (show (k : Int) + 1 = ((k + 1 : Nat) : Int) by omega))) rfl rfl rfl ?_
        refine KL.op (R.assign rfl rfl) rfl rfl rfl ?_
        refine KL.nil ?_
        refine KQ.normBlock ?_
        refine KQ.seq ?_
        refine KC.region ?_
        refine KL.op (R.move rfl rfl) rfl rfl rfl ?_
        refine KL.op ((R.add rfl rfl rfl (by dsimp only [InR]; omega)).val (congrArg (Value.int .i64) (show (k : Int) + 1 = ((k + 1 : Nat) : Int) by omega))) rfl rfl rfl ?_
        refine KL.op (R.assign rfl rfl) rfl rfl rfl ?_
        refine KL.nil ?_
        skip
        refine KQ.again (k + 1) ?_ ?_ ?_
        · exact (Sub.cons rfl (Sub.cons rfl (Ext.sub (by repeat (first | exact Ext.refl _ _ | refine Ext.put rfl ?_ | refine Ext.drop rfl ?_)))))
        · omega
        · exact ⟨by omega, fun j hj => by
              by_cases e : j = k
              · subst e; show Wr.bit a j = 0; first | omega | (simp at *; omega)
              · exact hlow j (by omega), rfl⟩
    · intro hc12
      try simp only [decide_eq_true_eq, decide_eq_false_iff_not, Bool.not_eq_true', Bool.not_eq_false', Bool.and_eq_true, Bool.or_eq_false_iff] at hc12
      refine KC.exit ?_
      refine KQ.exitThen ?_
      refine KQ.exitThen ?_
      refine KQ.hit ?_
      refine KQ.seq ?_
      refine KC.seq ?_
      refine KC.region ?_
      refine KL.op (R.move rfl rfl) rfl rfl rfl ?_
      refine KL.op (R.assign rfl rfl) rfl rfl rfl ?_
      refine KL.nil ?_
      refine KQ.seq ?_
      refine KC.ret ?_
      refine KQ.ofRet ?_
      refine KQ.fin1 Tryd.results25 rfl ?_
      first
        | exact ⟨⟨k, hk, rfl, hlow, fun h => absurd h (by omega)⟩, rfl⟩
        | exact ⟨⟨k, hk, rfl, hlow, fun _ => by show Wr.bit a k = 1; omega⟩, rfl⟩

set_option maxRecDepth 100000 in
set_option maxHeartbeats 4000000 in
theorem Count64_2 {H : Heap} (a : Nat) (ha : a < 18446744073709551616) : Ct Tryd.prog 25 [.int .i64 2, .int .u64 (a : Nat), .int .i64 64] H (fun u H' => u = .int .u64 (Wr.popc a 64 : Nat) ∧ H = H') := by
  refine Ct.mk Tryd.func25 rfl Tryd.ntmps25 rfl ?_
  intro W0 hW0
  have o0 : Old H H := Old.refl H
  refine KC.seq ?_
  refine KC.region ?_
  refine KL.op (R.assign rfl rfl) rfl rfl rfl ?_
  refine KL.nil ?_
  refine KQ.seq ?_
  refine KC.seq ?_
  refine KC.region ?_
  refine KL.op (R.assign rfl rfl) rfl rfl rfl ?_
  refine KL.nil ?_
  refine KQ.seq ?_
  refine KC.seq ?_
  refine KC.seq ?_
  refine KC.region ?_
  refine KL.op (R.assign rfl rfl) rfl rfl rfl ?_
  refine KL.nil ?_
  refine KQ.seq ?_
  refine KC.block ?_
  refine KC.loopD (κ := Nat) [10, 11, 12, 15, 9, 16, 17, 18, 19, 20, 21, 22, 23, 24, 25, 26, 27, 28, 29, 30, 6, 31, 32, 33, 34, 35, 36, 37, 38, 39, 40, 7, 13, 14, 8] (fun k => [(8, .int .i64 (k : Nat)), (7, .int .u64 (Wr.popc a k : Nat))]) (fun k Hl => k ≤ 64 ∧ H = Hl) (fun k => 64 - k) 0 ?_ ?_ ?_
  · exact (Sub.cons rfl (Sub.cons rfl (Ext.sub (Ext.refl _ _))))
  · exact ⟨Nat.zero_le _, rfl⟩
  · rintro k H1 ⟨hk, rfl⟩
    have hbl := Wr.bit_lt a k
    have hpl := Wr.popc_le a k
    refine KC.seq ?_
    refine KC.seq ?_
    refine KC.region ?_
    refine KL.op (R.move rfl rfl) rfl rfl rfl ?_
    refine KL.op (R.move rfl rfl) rfl rfl rfl ?_
    refine KL.op (R.lss rfl rfl rfl) rfl rfl rfl ?_
    refine KL.nil ?_
    refine KQ.seq ?_
    refine KC.iteL rfl ?_ ?_
    · intro hc12
      try simp only [decide_eq_true_eq, decide_eq_false_iff_not, Bool.not_eq_true', Bool.not_eq_false', Bool.and_eq_true, Bool.or_eq_false_iff] at hc12
      refine KC.skip ?_
      refine KQ.seq ?_
      refine KC.seq ?_
      refine KC.block ?_
      refine KC.seq ?_
      refine KC.region ?_
      refine KL.op (R.move rfl rfl) rfl rfl rfl ?_
      refine KL.op (R.assign rfl rfl) rfl rfl rfl ?_
      refine KL.nil ?_
      refine KQ.seq ?_
      refine KC.seq ?_
      refine KC.seq ?_
      refine KC.region ?_
      refine KL.op (R.move rfl rfl) rfl rfl rfl ?_
      refine KL.op ((R.eql rfl rfl rfl).val (congrArg Value.bool (decide_eq_false (by decide)))) rfl rfl rfl ?_
      refine KL.nil ?_
      refine KQ.seq ?_
      refine KC.condF rfl ?_
      refine KC.skip ?_
      refine KQ.seq ?_
      refine KC.seq ?_
      refine KC.seq ?_
      refine KC.region ?_
      refine KL.op (R.move rfl rfl) rfl rfl rfl ?_
      refine KL.op (R.move rfl rfl) rfl rfl rfl ?_
      refine KL.call rfl rfl rfl rfl Tryd.call55 rfl rfl rfl (bit_k a k ha (by omega)) ?_
      rintro _ _ ⟨rfl, rfl⟩
      refine KL.op (R.eql rfl rfl rfl) rfl rfl rfl ?_
      refine KL.op (R.move rfl rfl) rfl rfl rfl ?_
      refine KL.case (d := 26) rfl ?_ ?_
      · intro hg26
        try simp only [decide_eq_true_eq, decide_eq_false_iff_not, Bool.not_eq_true', Bool.not_eq_false', Bool.and_eq_true, Bool.or_eq_false_iff] at hg26
        refine KL.op (R.move rfl rfl) rfl rfl rfl ?_
        refine KL.op ((R.lss rfl rfl rfl).val (congrArg Value.bool (decide_eq_false (by decide)))) rfl rfl rfl ?_
        refine KL.op (R.pick rfl rfl rfl) rfl rfl rfl ?_
        refine KL.nil ?_
        refine KQ.seq ?_
        refine KC.condF rfl ?_
        refine KC.skip ?_
        refine KQ.seq ?_
        refine KC.seq ?_
        refine KC.region ?_
        refine KL.op (R.move rfl rfl) rfl rfl rfl ?_
        refine KL.op ((R.lss rfl rfl rfl).val (congrArg Value.bool (decide_eq_false (by decide)))) rfl rfl rfl ?_
        refine KL.op (R.move rfl rfl) rfl rfl rfl ?_
        refine KL.op (R.move rfl rfl) rfl rfl rfl ?_
        refine KL.op (R.move rfl rfl) rfl rfl rfl ?_
        refine KL.call rfl rfl rfl rfl Tryd.call55 rfl rfl rfl (bit_k a k ha (by omega)) ?_
        rintro _ _ ⟨rfl, rfl⟩
        refine KL.op (R.eql rfl rfl rfl) rfl rfl rfl ?_
        refine KL.op (R.pick rfl rfl rfl) rfl rfl rfl ?_
        refine KL.nil ?_
        refine KQ.seq ?_
        refine KC.iteL rfl ?_ ?_
        · intro hc38
          try simp only [decide_eq_true_eq, decide_eq_false_iff_not, Bool.not_eq_true', Bool.not_eq_false', Bool.and_eq_true, Bool.or_eq_false_iff] at hc38
          refine KC.region ?_
          refine KL.op (R.move rfl rfl) rfl rfl rfl ?_
          refine KL.op ((R.add rfl rfl rfl (by dsimp only [InR]; omega)).val (congrArg (Value.int .u64) (show (Wr.popc a k : Int) + 1 = ((Wr.popc a (k + 1) : Nat) : Int) by simp only [Wr.popc]; omega))) rfl rfl rfl ?_
          refine KL.op (R.assign rfl rfl) rfl rfl rfl ?_
          refine KL.nil ?_
          refine KQ.normBlock ?_
          refine KQ.seq ?_
          refine KC.region ?_
          refine KL.op (R.move rfl rfl) rfl rfl rfl ?_
          refine KL.op ((R.add rfl rfl rfl (by dsimp only [InR]; omega)).val (congrArg (Value.int .i64) (show (k : Int) + 1 = ((k + 1 : Nat) : Int) by omega))) rfl rfl rfl ?_
          refine KL.op (R.assign rfl rfl) rfl rfl rfl ?_
          refine KL.nil ?_
          try rw [show Wr.popc a k = Wr.popc a (k + 1) by simp only [Wr.popc]; omega]
          refine KQ.again (k + 1) ?_ ?_ ?_
          · exact (Sub.cons rfl (Sub.cons rfl (Ext.sub (by repeat (first | exact Ext.refl _ _ | refine Ext.put rfl ?_ | refine Ext.drop rfl ?_)))))
          · omega
          · exact ⟨by omega, rfl⟩
        · intro hc38
          try simp only [decide_eq_true_eq, decide_eq_false_iff_not, Bool.not_eq_true', Bool.not_eq_false', Bool.and_eq_true, Bool.or_eq_false_iff] at hc38
          refine KC.skip ?_
          refine KQ.normBlock ?_
          refine KQ.seq ?_
          refine KC.region ?_
          refine KL.op (R.move rfl rfl) rfl rfl rfl ?_
          refine KL.op ((R.add rfl rfl rfl (by dsimp only [InR]; omega)).val (congrArg (Value.int .i64) (show (k : Int) + 1 = ((k + 1 : Nat) : Int) by omega))) rfl rfl rfl ?_
          refine KL.op (R.assign rfl rfl) rfl rfl rfl ?_
          refine KL.nil ?_
          try rw [show Wr.popc a k = Wr.popc a (k + 1) by simp only [Wr.popc]; omega]
          refine KQ.again (k + 1) ?_ ?_ ?_
          · exact (Sub.cons rfl (Sub.cons rfl (Ext.sub (by repeat (first | exact Ext.refl _ _ | refine Ext.put rfl ?_ | refine Ext.drop rfl ?_)))))
          · omega
          · exact ⟨by omega, rfl⟩
      · intro hg26
        try simp only [decide_eq_true_eq, decide_eq_false_iff_not, Bool.not_eq_true', Bool.not_eq_false', Bool.and_eq_true, Bool.or_eq_false_iff] at hg26
        refine KL.skip rfl rfl rfl ?_
        refine KL.skip rfl rfl rfl ?_
        refine KL.op (R.pick rfl rfl rfl) rfl rfl rfl ?_
        refine KL.nil ?_
        refine KQ.seq ?_
        refine KC.condF rfl ?_
        refine KC.skip ?_
        refine KQ.seq ?_
        refine KC.seq ?_
        refine KC.region ?_
        refine KL.op (R.move rfl rfl) rfl rfl rfl ?_
        refine KL.op ((R.lss rfl rfl rfl).val (congrArg Value.bool (decide_eq_false (by decide)))) rfl rfl rfl ?_
        refine KL.op (R.move rfl rfl) rfl rfl rfl ?_
        refine KL.op (R.move rfl rfl) rfl rfl rfl ?_
        refine KL.op (R.move rfl rfl) rfl rfl rfl ?_
        refine KL.call rfl rfl rfl rfl Tryd.call55 rfl rfl rfl (bit_k a k ha (by omega)) ?_
        rintro _ _ ⟨rfl, rfl⟩
        refine KL.op (R.eql rfl rfl rfl) rfl rfl rfl ?_
        refine KL.op (R.pick rfl rfl rfl) rfl rfl rfl ?_
        refine KL.nil ?_
        refine KQ.seq ?_
        refine KC.iteL rfl ?_ ?_
        · intro hc38
          try simp only [decide_eq_true_eq, decide_eq_false_iff_not, Bool.not_eq_true', Bool.not_eq_false', Bool.and_eq_true, Bool.or_eq_false_iff] at hc38
          refine KC.region ?_
          refine KL.op (R.move rfl rfl) rfl rfl rfl ?_
          refine KL.op ((R.add rfl rfl rfl (by dsimp only [InR]; omega)).val (congrArg (Value.int .u64) (show (Wr.popc a k : Int) + 1 = ((Wr.popc a (k + 1) : Nat) : Int) by simp only [Wr.popc]; omega))) rfl rfl rfl ?_
          refine KL.op (R.assign rfl rfl) rfl rfl rfl ?_
          refine KL.nil ?_
          refine KQ.normBlock ?_
          refine KQ.seq ?_
          refine KC.region ?_
          refine KL.op (R.move rfl rfl) rfl rfl rfl ?_
          refine KL.op ((R.add rfl rfl rfl (by dsimp only [InR]; omega)).val (congrArg (Value.int .i64) (show (k : Int) + 1 = ((k + 1 : Nat) : Int) by omega))) rfl rfl rfl ?_
          refine KL.op (R.assign rfl rfl) rfl rfl rfl ?_
          refine KL.nil ?_
          try rw [show Wr.popc a k = Wr.popc a (k + 1) by simp only [Wr.popc]; omega]
          refine KQ.again (k + 1) ?_ ?_ ?_
          · exact (Sub.cons rfl (Sub.cons rfl (Ext.sub (by repeat (first | exact Ext.refl _ _ | refine Ext.put rfl ?_ | refine Ext.drop rfl ?_)))))
          · omega
          · exact ⟨by omega, rfl⟩
        · intro hc38
          try simp only [decide_eq_true_eq, decide_eq_false_iff_not, Bool.not_eq_true', Bool.not_eq_false', Bool.and_eq_true, Bool.or_eq_false_iff] at hc38
          refine KC.skip ?_
          refine KQ.normBlock ?_
          refine KQ.seq ?_
          refine KC.region ?_
          refine KL.op (R.move rfl rfl) rfl rfl rfl ?_
          refine KL.op ((R.add rfl rfl rfl (by dsimp only [InR]; omega)).val (congrArg (Value.int .i64) (show (k : Int) + 1 = ((k + 1 : Nat) : Int) by omega))) rfl rfl rfl ?_
          refine KL.op (R.assign rfl rfl) rfl rfl rfl ?_
          refine KL.nil ?_
          try rw [show Wr.popc a k = Wr.popc a (k + 1) by simp only [Wr.popc]; omega]
          refine KQ.again (k + 1) ?_ ?_ ?_
          · exact (Sub.cons rfl (Sub.cons rfl (Ext.sub (by repeat (first | exact Ext.refl _ _ | refine Ext.put rfl ?_ | refine Ext.drop rfl ?_)))))
          · omega
          · exact ⟨by omega, rfl⟩
    · intro hc12
      try simp only [decide_eq_true_eq, decide_eq_false_iff_not, Bool.not_eq_true', Bool.not_eq_false', Bool.and_eq_true, Bool.or_eq_false_iff] at hc12
      refine KC.exit ?_
      refine KQ.exitThen ?_
      refine KQ.exitThen ?_
      refine KQ.hit ?_
      refine KQ.seq ?_
      refine KC.seq ?_
      refine KC.region ?_
      refine KL.op (R.move rfl rfl) rfl rfl rfl ?_
      refine KL.op (R.assign rfl rfl) rfl rfl rfl ?_
      refine KL.nil ?_
      refine KQ.seq ?_
      refine KC.ret ?_
      refine KQ.ofRet ?_
      refine KQ.fin1 Tryd.results25 rfl ?_
      have e : k = 64 := by omega
      subst e
      exact ⟨rfl, rfl⟩

end Go.Proofs.YtkkhjaiaicmpaaaDoor
