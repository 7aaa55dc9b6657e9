/- The document's Divide. No condition but sizes. -/
import Derived.Test.YtkkhjaiaicmpaaaDoorWordS
namespace Go.Proofs.YtkkhjaiaicmpaaaDoor
open Go Go.RowKit
set_option linter.unusedVariables false
set_option linter.unusedSimpArgs false
set_option linter.unnecessarySimpa false

namespace Wr
def dvv (kd a b n : Nat) : Int × Int :=
  if b = 0 then (0, 5) else if kd = 1 then (((a / b : Nat) : Int), 0) else if kd = 3 then (((a % b : Nat) : Int), 0)
  else if kd = 2 then ((if neg a n = true then (0 - ((mag a n % mag b n : Nat) : Int)) else ((mag a n % mag b n : Nat) : Int)) % (2 ^ n : Nat), 0)
  else if neg a n = neg b n then (if mag a n / mag b n = 2 ^ (n - 1) then (0, 6) else (((mag a n / mag b n : Nat) : Int), 0)) else ((0 - ((mag a n / mag b n : Nat) : Int)) % (2 ^ n : Nat), 0)
theorem mag_pos {b n : Nat} (h : b ≠ 0) (hb : b < 2 ^ n) : 0 < mag b n := by unfold mag; split <;> omega
theorem mag_lt {a n : Nat} (ha : a < 2 ^ n) (h0 : 0 < a ∨ 0 < 2 ^ (n - 1)) : mag a n < 2 ^ n := by
  unfold mag
  split
  · have : 0 < 2 ^ (n - 1) := Nat.two_pow_pos _
    omega
  · exact ha
theorem e64 : (2 : Nat) ^ 64 = 18446744073709551616 := by decide
theorem e32 : (2 : Nat) ^ 32 = 4294967296 := by decide
theorem tupE {x y t : Int} (h : x = y) : Value.tuple #[.int .u64 x, .int .u8 t] = Value.tuple #[.int .u64 y, .int .u8 t] := by rw [h]
theorem cutneg32 (r : Nat) : (IntKind.u64.wrap (0 - (r : Int))) % 4294967296 = (0 - (r : Int)) % ((2 ^ 32 : Nat) : Int) := by
  rw [Wd.w64, e32]; omega
theorem cutneg64 (r : Nat) : IntKind.u64.wrap (0 - (r : Int)) = (0 - (r : Int)) % ((2 ^ 64 : Nat) : Int) := by
  rw [Wd.w64, e64]; rfl
theorem cutpos32 (r : Nat) (h : r < 18446744073709551616) : (r : Int) % 4294967296 = (r : Int) % ((2 ^ 32 : Nat) : Int) := by
  rw [e32]; rfl
theorem cutpos64 (r : Nat) (h : r < 18446744073709551616) : (r : Int) = (r : Int) % ((2 ^ 64 : Nat) : Int) := by
  rw [e64]; omega
end Wr

set_option maxRecDepth 100000 in
set_option maxHeartbeats 4000000 in
theorem Div32_0 {H : Heap} (a b : Nat) (ha : a < 4294967296) (hb : b < 4294967296) : Ct Tryd.prog 26 [.int .i64 0, .int .u64 (a : Nat), .int .u64 (b : Nat), .int .i64 32] H (fun u H' => u = .tuple #[.int .u64 (Wr.dvv 0 a b 32).1, .int .u8 (Wr.dvv 0 a b 32).2] ∧ H = H') := by
  refine Ct.mk Tryd.func26 rfl Tryd.ntmps26 rfl ?_
  intro W0 hW0
  have o0 : Old H H := Old.refl H
  refine KC.seq ?_
  refine KC.region ?_
  refine KL.op (R.assign rfl rfl) rfl rfl rfl ?_
  refine KL.op (R.assign rfl rfl) rfl rfl rfl ?_
  refine KL.nil ?_
  refine KQ.seq ?_
  refine KC.seq ?_
  refine KC.seq ?_
  refine KC.region ?_
  refine KL.op (R.move rfl rfl) rfl rfl rfl ?_
  refine KL.op (R.eql rfl rfl rfl) rfl rfl rfl ?_
  refine KL.nil ?_
  refine KQ.seq ?_
  refine KC.iteL rfl ?_ ?_
  · intro hc17
    try simp only [decide_eq_true_eq, decide_eq_false_iff_not, Bool.not_eq_true', Bool.not_eq_false', Bool.and_eq_true, Bool.or_eq_false_iff] at hc17
    have hb0 : b = 0 := by omega
    refine KC.seq ?_
    refine KC.region ?_
    refine KL.op (R.assign rfl rfl) rfl rfl rfl ?_
    refine KL.op (R.assign rfl rfl) rfl rfl rfl ?_
    refine KL.nil ?_
    refine KQ.seq ?_
    refine KC.ret ?_
    refine KQ.retThen ?_
    refine KQ.ofRet ?_
    refine KQ.fin2 Tryd.results26 rfl rfl ?_
    refine ⟨?_, rfl⟩
    unfold Wr.dvv
    first
      | (rw [if_pos hb0]; done)
      | (rw [if_neg hb0, if_pos (by decide)]; done)
      | (rw [if_neg hb0, if_neg (by decide), if_pos (by decide)]; done)
      | (rw [if_neg hb0, if_neg (by decide), if_neg (by decide), if_pos (by decide), if_pos hng]; exact Wr.tupE (Wr.cutneg32 _))
      | (rw [if_neg hb0, if_neg (by decide), if_neg (by decide), if_pos (by decide), if_neg hng]; exact Wr.tupE (Wr.cutpos32 _ (by omega)))
      | (rw [if_neg hb0, if_neg (by decide), if_neg (by decide), if_neg (by decide), if_neg hne]; exact Wr.tupE (Wr.cutneg32 _))
      | (rw [if_neg hb0, if_neg (by decide), if_neg (by decide), if_neg (by decide), if_pos heq, if_pos hq]; done)
      | (rw [if_neg hb0, if_neg (by decide), if_neg (by decide), if_neg (by decide), if_pos heq, if_neg hq]; done)
  · intro hc17
    try simp only [decide_eq_true_eq, decide_eq_false_iff_not, Bool.not_eq_true', Bool.not_eq_false', Bool.and_eq_true, Bool.or_eq_false_iff] at hc17
    have hb0 : ¬ b = 0 := by omega
    have hmb := Wr.mag_pos hb0 (show b < 2 ^ 32 by rw [Wr.e32]; omega)
    have hma := Wr.mag_lt (show a < 2 ^ 32 by rw [Wr.e32]; omega) (.inr (Nat.two_pow_pos _))
    rw [Wr.e32] at hma
    have hqd := Nat.div_le_self (Wr.mag a 32) (Wr.mag b 32)
    have hrd := Nat.mod_le (Wr.mag a 32) (Wr.mag b 32)
    refine KC.skip ?_
    refine KQ.seq ?_
    refine KC.seq ?_
    refine KC.seq ?_
    refine KC.region ?_
    refine KL.op (R.move rfl rfl) rfl rfl rfl ?_
    refine KL.op ((R.eql rfl rfl rfl).val (congrArg Value.bool (decide_eq_false (by decide)))) rfl rfl rfl ?_
    refine KL.nil ?_
    refine KQ.seq ?_
    refine KC.condF rfl ?_
    refine KC.skip ?_
    refine KQ.seq ?_
    refine KC.seq ?_
    refine KC.seq ?_
    refine KC.region ?_
    refine KL.op (R.move rfl rfl) rfl rfl rfl ?_
    refine KL.op ((R.eql rfl rfl rfl).val (congrArg Value.bool (decide_eq_false (by decide)))) rfl rfl rfl ?_
    refine KL.nil ?_
    refine KQ.seq ?_
    refine KC.condF rfl ?_
    refine KC.skip ?_
    refine KQ.seq ?_
    refine KC.seq ?_
    refine KC.region ?_
    refine KL.op (R.move rfl rfl) rfl rfl rfl ?_
    refine KL.op (R.move rfl rfl) rfl rfl rfl ?_
    refine KL.call rfl rfl rfl rfl Tryd.call54 rfl rfl rfl (Signed32_k a ha) ?_
    rintro _ _ ⟨rfl, rfl⟩
    refine KL.op (R.move rfl rfl) rfl rfl rfl ?_
    refine KL.op (R.extract rfl rfl rfl) rfl rfl rfl ?_
    refine KL.op (R.extract rfl rfl rfl) rfl rfl rfl ?_
    refine KL.op (R.assign rfl rfl) rfl rfl rfl ?_
    refine KL.op (R.assign rfl rfl) rfl rfl rfl ?_
    refine KL.nil ?_
    refine KQ.seq ?_
    refine KC.seq ?_
    refine KC.region ?_
    refine KL.op (R.move rfl rfl) rfl rfl rfl ?_
    refine KL.op (R.move rfl rfl) rfl rfl rfl ?_
    refine KL.call rfl rfl rfl rfl Tryd.call54 rfl rfl rfl (Signed32_k b hb) ?_
    rintro _ _ ⟨rfl, rfl⟩
    refine KL.op (R.move rfl rfl) rfl rfl rfl ?_
    refine KL.op (R.extract rfl rfl rfl) rfl rfl rfl ?_
    refine KL.op (R.extract rfl rfl rfl) rfl rfl rfl ?_
    refine KL.op (R.assign rfl rfl) rfl rfl rfl ?_
    refine KL.op (R.assign rfl rfl) rfl rfl rfl ?_
    refine KL.nil ?_
    refine KQ.seq ?_
    refine KC.seq ?_
    refine KC.region ?_
    refine KL.op (R.move rfl rfl) rfl rfl rfl ?_
    refine KL.op (R.move rfl rfl) rfl rfl rfl ?_
    refine KL.op ((R.quo rfl rfl rfl (Int.natCast_nonneg _) (by omega) (by dsimp only [InR]; omega)).val (congrArg (Value.int .u64) (Int.natCast_ediv (Wr.mag a 32) (Wr.mag b 32)).symm)) rfl rfl rfl ?_
    refine KL.op (R.assign rfl rfl) rfl rfl rfl ?_
    refine KL.nil ?_
    refine KQ.seq ?_
    refine KC.seq ?_
    refine KC.region ?_
    refine KL.op (R.move rfl rfl) rfl rfl rfl ?_
    refine KL.op (R.move rfl rfl) rfl rfl rfl ?_
    refine KL.op ((R.rem rfl rfl rfl (Int.natCast_nonneg _) (by omega)).val (congrArg (Value.int .u64) (Int.natCast_emod (Wr.mag a 32) (Wr.mag b 32)).symm)) rfl rfl rfl ?_
    refine KL.op (R.assign rfl rfl) rfl rfl rfl ?_
    refine KL.nil ?_
    refine KQ.seq ?_
    refine KC.seq ?_
    refine KC.seq ?_
    refine KC.region ?_
    refine KL.op (R.move rfl rfl) rfl rfl rfl ?_
    refine KL.op ((R.eql rfl rfl rfl).val (congrArg Value.bool (decide_eq_false (by decide)))) rfl rfl rfl ?_
    refine KL.nil ?_
    refine KQ.seq ?_
    refine KC.condF rfl ?_
    refine KC.skip ?_
    refine KQ.seq ?_
    refine KC.seq ?_
    refine KC.seq ?_
    refine KC.region ?_
    refine KL.op (R.move rfl rfl) rfl rfl rfl ?_
    refine KL.op (R.move rfl rfl) rfl rfl rfl ?_
    refine KL.op (R.neqB rfl Tryd.underlying4 rfl rfl) rfl rfl rfl ?_
    refine KL.nil ?_
    refine KQ.seq ?_
    refine KC.iteL rfl ?_ ?_
    · intro hc56
      try simp only [decide_eq_true_eq, decide_eq_false_iff_not, Bool.not_eq_true', Bool.not_eq_false', Bool.and_eq_true, Bool.or_eq_false_iff] at hc56
      have hne : ¬ Wr.neg a 32 = Wr.neg b 32 := by simpa using hc56
      refine KC.seq ?_
      refine KC.region ?_
      refine KL.op (R.move rfl rfl) rfl rfl rfl ?_
      refine KL.op (R.subW rfl rfl rfl) rfl rfl rfl ?_
      refine KL.op (R.move rfl rfl) rfl rfl rfl ?_
      refine KL.call rfl rfl rfl rfl Tryd.call22 rfl rfl rfl (cut32_k _ (Wd.r64 _)) ?_
      rintro _ _ ⟨rfl, rfl⟩
      refine KL.op (R.assign rfl rfl) rfl rfl rfl ?_
      refine KL.op (R.assign rfl rfl) rfl rfl rfl ?_
      refine KL.nil ?_
      refine KQ.seq ?_
      refine KC.ret ?_
      refine KQ.retThen ?_
      refine KQ.ofRet ?_
      refine KQ.fin2 Tryd.results26 rfl rfl ?_
      refine ⟨?_, rfl⟩
      unfold Wr.dvv
      first
        | (rw [if_pos hb0]; done)
        | (rw [if_neg hb0, if_pos (by decide)]; done)
        | (rw [if_neg hb0, if_neg (by decide), if_pos (by decide)]; done)
        | (rw [if_neg hb0, if_neg (by decide), if_neg (by decide), if_pos (by decide), if_pos hng]; exact Wr.tupE (Wr.cutneg32 _))
        | (rw [if_neg hb0, if_neg (by decide), if_neg (by decide), if_pos (by decide), if_neg hng]; exact Wr.tupE (Wr.cutpos32 _ (by omega)))
        | (rw [if_neg hb0, if_neg (by decide), if_neg (by decide), if_neg (by decide), if_neg hne]; exact Wr.tupE (Wr.cutneg32 _))
        | (rw [if_neg hb0, if_neg (by decide), if_neg (by decide), if_neg (by decide), if_pos heq, if_pos hq]; done)
        | (rw [if_neg hb0, if_neg (by decide), if_neg (by decide), if_neg (by decide), if_pos heq, if_neg hq]; done)
    · intro hc56
      try simp only [decide_eq_true_eq, decide_eq_false_iff_not, Bool.not_eq_true', Bool.not_eq_false', Bool.and_eq_true, Bool.or_eq_false_iff] at hc56
      have heq : Wr.neg a 32 = Wr.neg b 32 := by simpa using hc56
      refine KC.skip ?_
      refine KQ.seq ?_
      refine KC.seq ?_
      refine KC.seq ?_
      refine KC.region ?_
      refine KL.op (R.move rfl rfl) rfl rfl rfl ?_
      refine KL.op (R.move rfl rfl) rfl rfl rfl ?_
      refine KL.op ((R.sub rfl rfl rfl (by dsimp only [InR]; omega)).val (congrArg (Value.int .i64) (show (32 : Int) - 1 = ((32 - 1 : Nat) : Int) by decide))) rfl rfl rfl ?_
      refine KL.call rfl rfl rfl rfl Tryd.call53 rfl rfl rfl (power_k (32 - 1) (by decide)) ?_
      rintro _ _ ⟨rfl, rfl⟩
      refine KL.op (R.eql rfl rfl rfl) rfl rfl rfl ?_
      refine KL.nil ?_
      refine KQ.seq ?_
      refine KC.iteL rfl ?_ ?_
      · intro hc65
        try simp only [decide_eq_true_eq, decide_eq_false_iff_not, Bool.not_eq_true', Bool.not_eq_false', Bool.and_eq_true, Bool.or_eq_false_iff] at hc65
        have hq : Wr.mag a 32 / Wr.mag b 32 = 2 ^ (32 - 1) := Int.ofNat.inj hc65
        refine KC.seq ?_
        refine KC.region ?_
        refine KL.op (R.assign rfl rfl) rfl rfl rfl ?_
        refine KL.op (R.assign rfl rfl) rfl rfl rfl ?_
        refine KL.nil ?_
        refine KQ.seq ?_
        refine KC.ret ?_
        refine KQ.retThen ?_
        refine KQ.ofRet ?_
        refine KQ.fin2 Tryd.results26 rfl rfl ?_
        refine ⟨?_, rfl⟩
        unfold Wr.dvv
        first
          | (rw [if_pos hb0]; done)
          | (rw [if_neg hb0, if_pos (by decide)]; done)
          | (rw [if_neg hb0, if_neg (by decide), if_pos (by decide)]; done)
          | (rw [if_neg hb0, if_neg (by decide), if_neg (by decide), if_pos (by decide), if_pos hng]; exact Wr.tupE (Wr.cutneg32 _))
          | (rw [if_neg hb0, if_neg (by decide), if_neg (by decide), if_pos (by decide), if_neg hng]; exact Wr.tupE (Wr.cutpos32 _ (by omega)))
          | (rw [if_neg hb0, if_neg (by decide), if_neg (by decide), if_neg (by decide), if_neg hne]; exact Wr.tupE (Wr.cutneg32 _))
          | (rw [if_neg hb0, if_neg (by decide), if_neg (by decide), if_neg (by decide), if_pos heq, if_pos hq]; done)
          | (rw [if_neg hb0, if_neg (by decide), if_neg (by decide), if_neg (by decide), if_pos heq, if_neg hq]; done)
      · intro hc65
        try simp only [decide_eq_true_eq, decide_eq_false_iff_not, Bool.not_eq_true', Bool.not_eq_false', Bool.and_eq_true, Bool.or_eq_false_iff] at hc65
        have hq : ¬ Wr.mag a 32 / Wr.mag b 32 = 2 ^ (32 - 1) := fun h => hc65 (by rw [h])
        refine KC.skip ?_
        refine KQ.seq ?_
        refine KC.seq ?_
        refine KC.region ?_
        refine KL.op (R.move rfl rfl) rfl rfl rfl ?_
        refine KL.op (R.assign rfl rfl) rfl rfl rfl ?_
        refine KL.op (R.assign rfl rfl) rfl rfl rfl ?_
        refine KL.nil ?_
        refine KQ.seq ?_
        refine KC.ret ?_
        refine KQ.ofRet ?_
        refine KQ.fin2 Tryd.results26 rfl rfl ?_
        refine ⟨?_, rfl⟩
        unfold Wr.dvv
        first
          | (rw [if_pos hb0]; done)
          | (rw [if_neg hb0, if_pos (by decide)]; done)
          | (rw [if_neg hb0, if_neg (by decide), if_pos (by decide)]; done)
          | (rw [if_neg hb0, if_neg (by decide), if_neg (by decide), if_pos (by decide), if_pos hng]; exact Wr.tupE (Wr.cutneg32 _))
          | (rw [if_neg hb0, if_neg (by decide), if_neg (by decide), if_pos (by decide), if_neg hng]; exact Wr.tupE (Wr.cutpos32 _ (by omega)))
          | (rw [if_neg hb0, if_neg (by decide), if_neg (by decide), if_neg (by decide), if_neg hne]; exact Wr.tupE (Wr.cutneg32 _))
          | (rw [if_neg hb0, if_neg (by decide), if_neg (by decide), if_neg (by decide), if_pos heq, if_pos hq]; done)
          | (rw [if_neg hb0, if_neg (by decide), if_neg (by decide), if_neg (by decide), if_pos heq, if_neg hq]; done)

set_option maxRecDepth 100000 in
set_option maxHeartbeats 4000000 in
theorem Div32_1 {H : Heap} (a b : Nat) (ha : a < 4294967296) (hb : b < 4294967296) : Ct Tryd.prog 26 [.int .i64 1, .int .u64 (a : Nat), .int .u64 (b : Nat), .int .i64 32] H (fun u H' => u = .tuple #[.int .u64 (Wr.dvv 1 a b 32).1, .int .u8 (Wr.dvv 1 a b 32).2] ∧ H = H') := by
  refine Ct.mk Tryd.func26 rfl Tryd.ntmps26 rfl ?_
  intro W0 hW0
  have o0 : Old H H := Old.refl H
  refine KC.seq ?_
  refine KC.region ?_
  refine KL.op (R.assign rfl rfl) rfl rfl rfl ?_
  refine KL.op (R.assign rfl rfl) rfl rfl rfl ?_
  refine KL.nil ?_
  refine KQ.seq ?_
  refine KC.seq ?_
  refine KC.seq ?_
  refine KC.region ?_
  refine KL.op (R.move rfl rfl) rfl rfl rfl ?_
  refine KL.op (R.eql rfl rfl rfl) rfl rfl rfl ?_
  refine KL.nil ?_
  refine KQ.seq ?_
  refine KC.iteL rfl ?_ ?_
  · intro hc17
    try simp only [decide_eq_true_eq, decide_eq_false_iff_not, Bool.not_eq_true', Bool.not_eq_false', Bool.and_eq_true, Bool.or_eq_false_iff] at hc17
    have hb0 : b = 0 := by omega
    refine KC.seq ?_
    refine KC.region ?_
    refine KL.op (R.assign rfl rfl) rfl rfl rfl ?_
    refine KL.op (R.assign rfl rfl) rfl rfl rfl ?_
    refine KL.nil ?_
    refine KQ.seq ?_
    refine KC.ret ?_
    refine KQ.retThen ?_
    refine KQ.ofRet ?_
    refine KQ.fin2 Tryd.results26 rfl rfl ?_
    refine ⟨?_, rfl⟩
    unfold Wr.dvv
    first
      | (rw [if_pos hb0]; done)
      | (rw [if_neg hb0, if_pos (by decide)]; done)
      | (rw [if_neg hb0, if_neg (by decide), if_pos (by decide)]; done)
      | (rw [if_neg hb0, if_neg (by decide), if_neg (by decide), if_pos (by decide), if_pos hng]; exact Wr.tupE (Wr.cutneg32 _))
      | (rw [if_neg hb0, if_neg (by decide), if_neg (by decide), if_pos (by decide), if_neg hng]; exact Wr.tupE (Wr.cutpos32 _ (by omega)))
      | (rw [if_neg hb0, if_neg (by decide), if_neg (by decide), if_neg (by decide), if_neg hne]; exact Wr.tupE (Wr.cutneg32 _))
      | (rw [if_neg hb0, if_neg (by decide), if_neg (by decide), if_neg (by decide), if_pos heq, if_pos hq]; done)
      | (rw [if_neg hb0, if_neg (by decide), if_neg (by decide), if_neg (by decide), if_pos heq, if_neg hq]; done)
  · intro hc17
    try simp only [decide_eq_true_eq, decide_eq_false_iff_not, Bool.not_eq_true', Bool.not_eq_false', Bool.and_eq_true, Bool.or_eq_false_iff] at hc17
    have hb0 : ¬ b = 0 := by omega
    have hmb := Wr.mag_pos hb0 (show b < 2 ^ 32 by rw [Wr.e32]; omega)
    have hma := Wr.mag_lt (show a < 2 ^ 32 by rw [Wr.e32]; omega) (.inr (Nat.two_pow_pos _))
    rw [Wr.e32] at hma
    have hqd := Nat.div_le_self (Wr.mag a 32) (Wr.mag b 32)
    have hrd := Nat.mod_le (Wr.mag a 32) (Wr.mag b 32)
    refine KC.skip ?_
    refine KQ.seq ?_
    refine KC.seq ?_
    refine KC.seq ?_
    refine KC.region ?_
    refine KL.op (R.move rfl rfl) rfl rfl rfl ?_
    refine KL.op ((R.eql rfl rfl rfl).val (congrArg Value.bool (decide_eq_true (by decide)))) rfl rfl rfl ?_
    refine KL.nil ?_
    refine KQ.seq ?_
    refine KC.condT rfl ?_
    refine KC.seq ?_
    refine KC.region ?_
    refine KL.op (R.move rfl rfl) rfl rfl rfl ?_
    refine KL.op (R.move rfl rfl) rfl rfl rfl ?_
    refine KL.op ((R.quo rfl rfl rfl (Int.natCast_nonneg _) (by omega) (by dsimp only [InR]; omega)).val (congrArg (Value.int .u64) (Int.natCast_ediv a b).symm)) rfl rfl rfl ?_
    refine KL.op (R.assign rfl rfl) rfl rfl rfl ?_
    refine KL.op (R.assign rfl rfl) rfl rfl rfl ?_
    refine KL.nil ?_
    refine KQ.seq ?_
    refine KC.ret ?_
    refine KQ.retThen ?_
    refine KQ.ofRet ?_
    refine KQ.fin2 Tryd.results26 rfl rfl ?_
    refine ⟨?_, rfl⟩
    unfold Wr.dvv
    first
      | (rw [if_pos hb0]; done)
      | (rw [if_neg hb0, if_pos (by decide)]; done)
      | (rw [if_neg hb0, if_neg (by decide), if_pos (by decide)]; done)
      | (rw [if_neg hb0, if_neg (by decide), if_neg (by decide), if_pos (by decide), if_pos hng]; exact Wr.tupE (Wr.cutneg32 _))
      | (rw [if_neg hb0, if_neg (by decide), if_neg (by decide), if_pos (by decide), if_neg hng]; exact Wr.tupE (Wr.cutpos32 _ (by omega)))
      | (rw [if_neg hb0, if_neg (by decide), if_neg (by decide), if_neg (by decide), if_neg hne]; exact Wr.tupE (Wr.cutneg32 _))
      | (rw [if_neg hb0, if_neg (by decide), if_neg (by decide), if_neg (by decide), if_pos heq, if_pos hq]; done)
      | (rw [if_neg hb0, if_neg (by decide), if_neg (by decide), if_neg (by decide), if_pos heq, if_neg hq]; done)

set_option maxRecDepth 100000 in
set_option maxHeartbeats 4000000 in
theorem Div32_2 {H : Heap} (a b : Nat) (ha : a < 4294967296) (hb : b < 4294967296) : Ct Tryd.prog 26 [.int .i64 2, .int .u64 (a : Nat), .int .u64 (b : Nat), .int .i64 32] H (fun u H' => u = .tuple #[.int .u64 (Wr.dvv 2 a b 32).1, .int .u8 (Wr.dvv 2 a b 32).2] ∧ H = H') := by
  refine Ct.mk Tryd.func26 rfl Tryd.ntmps26 rfl ?_
  intro W0 hW0
  have o0 : Old H H := Old.refl H
  refine KC.seq ?_
  refine KC.region ?_
  refine KL.op (R.assign rfl rfl) rfl rfl rfl ?_
  refine KL.op (R.assign rfl rfl) rfl rfl rfl ?_
  refine KL.nil ?_
  refine KQ.seq ?_
  refine KC.seq ?_
  refine KC.seq ?_
  refine KC.region ?_
  refine KL.op (R.move rfl rfl) rfl rfl rfl ?_
  refine KL.op (R.eql rfl rfl rfl) rfl rfl rfl ?_
  refine KL.nil ?_
  refine KQ.seq ?_
  refine KC.iteL rfl ?_ ?_
  · intro hc17
    try simp only [decide_eq_true_eq, decide_eq_false_iff_not, Bool.not_eq_true', Bool.not_eq_false', Bool.and_eq_true, Bool.or_eq_false_iff] at hc17
    have hb0 : b = 0 := by omega
    refine KC.seq ?_
    refine KC.region ?_
    refine KL.op (R.assign rfl rfl) rfl rfl rfl ?_
    refine KL.op (R.assign rfl rfl) rfl rfl rfl ?_
    refine KL.nil ?_
    refine KQ.seq ?_
    refine KC.ret ?_
    refine KQ.retThen ?_
    refine KQ.ofRet ?_
    refine KQ.fin2 Tryd.results26 rfl rfl ?_
    refine ⟨?_, rfl⟩
    unfold Wr.dvv
    first
      | (rw [if_pos hb0]; done)
      | (rw [if_neg hb0, if_pos (by decide)]; done)
      | (rw [if_neg hb0, if_neg (by decide), if_pos (by decide)]; done)
      | (rw [if_neg hb0, if_neg (by decide), if_neg (by decide), if_pos (by decide), if_pos hng]; exact Wr.tupE (Wr.cutneg32 _))
      | (rw [if_neg hb0, if_neg (by decide), if_neg (by decide), if_pos (by decide), if_neg hng]; exact Wr.tupE (Wr.cutpos32 _ (by omega)))
      | (rw [if_neg hb0, if_neg (by decide), if_neg (by decide), if_neg (by decide), if_neg hne]; exact Wr.tupE (Wr.cutneg32 _))
      | (rw [if_neg hb0, if_neg (by decide), if_neg (by decide), if_neg (by decide), if_pos heq, if_pos hq]; done)
      | (rw [if_neg hb0, if_neg (by decide), if_neg (by decide), if_neg (by decide), if_pos heq, if_neg hq]; done)
  · intro hc17
    try simp only [decide_eq_true_eq, decide_eq_false_iff_not, Bool.not_eq_true', Bool.not_eq_false', Bool.and_eq_true, Bool.or_eq_false_iff] at hc17
    have hb0 : ¬ b = 0 := by omega
    have hmb := Wr.mag_pos hb0 (show b < 2 ^ 32 by rw [Wr.e32]; omega)
    have hma := Wr.mag_lt (show a < 2 ^ 32 by rw [Wr.e32]; omega) (.inr (Nat.two_pow_pos _))
    rw [Wr.e32] at hma
    have hqd := Nat.div_le_self (Wr.mag a 32) (Wr.mag b 32)
    have hrd := Nat.mod_le (Wr.mag a 32) (Wr.mag b 32)
    refine KC.skip ?_
    refine KQ.seq ?_
    refine KC.seq ?_
    refine KC.seq ?_
    refine KC.region ?_
    refine KL.op (R.move rfl rfl) rfl rfl rfl ?_
    refine KL.op ((R.eql rfl rfl rfl).val (congrArg Value.bool (decide_eq_false (by decide)))) rfl rfl rfl ?_
    refine KL.nil ?_
    refine KQ.seq ?_
    refine KC.condF rfl ?_
    refine KC.skip ?_
    refine KQ.seq ?_
    refine KC.seq ?_
    refine KC.seq ?_
    refine KC.region ?_
    refine KL.op (R.move rfl rfl) rfl rfl rfl ?_
    refine KL.op ((R.eql rfl rfl rfl).val (congrArg Value.bool (decide_eq_false (by decide)))) rfl rfl rfl ?_
    refine KL.nil ?_
    refine KQ.seq ?_
    refine KC.condF rfl ?_
    refine KC.skip ?_
    refine KQ.seq ?_
    refine KC.seq ?_
    refine KC.region ?_
    refine KL.op (R.move rfl rfl) rfl rfl rfl ?_
    refine KL.op (R.move rfl rfl) rfl rfl rfl ?_
    refine KL.call rfl rfl rfl rfl Tryd.call54 rfl rfl rfl (Signed32_k a ha) ?_
    rintro _ _ ⟨rfl, rfl⟩
    refine KL.op (R.move rfl rfl) rfl rfl rfl ?_
    refine KL.op (R.extract rfl rfl rfl) rfl rfl rfl ?_
    refine KL.op (R.extract rfl rfl rfl) rfl rfl rfl ?_
    refine KL.op (R.assign rfl rfl) rfl rfl rfl ?_
    refine KL.op (R.assign rfl rfl) rfl rfl rfl ?_
    refine KL.nil ?_
    refine KQ.seq ?_
    refine KC.seq ?_
    refine KC.region ?_
    refine KL.op (R.move rfl rfl) rfl rfl rfl ?_
    refine KL.op (R.move rfl rfl) rfl rfl rfl ?_
    refine KL.call rfl rfl rfl rfl Tryd.call54 rfl rfl rfl (Signed32_k b hb) ?_
    rintro _ _ ⟨rfl, rfl⟩
    refine KL.op (R.move rfl rfl) rfl rfl rfl ?_
    refine KL.op (R.extract rfl rfl rfl) rfl rfl rfl ?_
    refine KL.op (R.extract rfl rfl rfl) rfl rfl rfl ?_
    refine KL.op (R.assign rfl rfl) rfl rfl rfl ?_
    refine KL.op (R.assign rfl rfl) rfl rfl rfl ?_
    refine KL.nil ?_
    refine KQ.seq ?_
    refine KC.seq ?_
    refine KC.region ?_
    refine KL.op (R.move rfl rfl) rfl rfl rfl ?_
    refine KL.op (R.move rfl rfl) rfl rfl rfl ?_
    refine KL.op ((R.quo rfl rfl rfl (Int.natCast_nonneg _) (by omega) (by dsimp only [InR]; omega)).val (congrArg (Value.int .u64) (Int.natCast_ediv (Wr.mag a 32) (Wr.mag b 32)).symm)) rfl rfl rfl ?_
    refine KL.op (R.assign rfl rfl) rfl rfl rfl ?_
    refine KL.nil ?_
    refine KQ.seq ?_
    refine KC.seq ?_
    refine KC.region ?_
    refine KL.op (R.move rfl rfl) rfl rfl rfl ?_
    refine KL.op (R.move rfl rfl) rfl rfl rfl ?_
    refine KL.op ((R.rem rfl rfl rfl (Int.natCast_nonneg _) (by omega)).val (congrArg (Value.int .u64) (Int.natCast_emod (Wr.mag a 32) (Wr.mag b 32)).symm)) rfl rfl rfl ?_
    refine KL.op (R.assign rfl rfl) rfl rfl rfl ?_
    refine KL.nil ?_
    refine KQ.seq ?_
    refine KC.seq ?_
    refine KC.seq ?_
    refine KC.region ?_
    refine KL.op (R.move rfl rfl) rfl rfl rfl ?_
    refine KL.op ((R.eql rfl rfl rfl).val (congrArg Value.bool (decide_eq_true (by decide)))) rfl rfl rfl ?_
    refine KL.nil ?_
    refine KQ.seq ?_
    refine KC.condT rfl ?_
    refine KC.seq ?_
    refine KC.seq ?_
    refine KC.region ?_
    refine KL.op (R.move rfl rfl) rfl rfl rfl ?_
    refine KL.nil ?_
    refine KQ.seq ?_
    refine KC.iteL rfl ?_ ?_
    · intro hc48
      try simp only [decide_eq_true_eq, decide_eq_false_iff_not, Bool.not_eq_true', Bool.not_eq_false', Bool.and_eq_true, Bool.or_eq_false_iff] at hc48
      have hng : Wr.neg a 32 = true := hc48
      refine KC.region ?_
      refine KL.op (R.move rfl rfl) rfl rfl rfl ?_
      refine KL.op (R.subW rfl rfl rfl) rfl rfl rfl ?_
      refine KL.op (R.assign rfl rfl) rfl rfl rfl ?_
      refine KL.nil ?_
      refine KQ.seq ?_
      refine KC.seq ?_
      refine KC.region ?_
      refine KL.op (R.move rfl rfl) rfl rfl rfl ?_
      refine KL.op (R.move rfl rfl) rfl rfl rfl ?_
      refine KL.call rfl rfl rfl rfl Tryd.call22 rfl rfl rfl (cut32_k _ (by first | exact Wd.r64 _ | (dsimp only [InR]; omega))) ?_
      rintro _ _ ⟨rfl, rfl⟩
      refine KL.op (R.assign rfl rfl) rfl rfl rfl ?_
      refine KL.op (R.assign rfl rfl) rfl rfl rfl ?_
      refine KL.nil ?_
      refine KQ.seq ?_
      refine KC.ret ?_
      refine KQ.retThen ?_
      refine KQ.ofRet ?_
      refine KQ.fin2 Tryd.results26 rfl rfl ?_
      refine ⟨?_, rfl⟩
      unfold Wr.dvv
      first
        | (rw [if_pos hb0]; done)
        | (rw [if_neg hb0, if_pos (by decide)]; done)
        | (rw [if_neg hb0, if_neg (by decide), if_pos (by decide)]; done)
        | (rw [if_neg hb0, if_neg (by decide), if_neg (by decide), if_pos (by decide), if_pos hng]; exact Wr.tupE (Wr.cutneg32 _))
        | (rw [if_neg hb0, if_neg (by decide), if_neg (by decide), if_pos (by decide), if_neg hng]; exact Wr.tupE (Wr.cutpos32 _ (by omega)))
        | (rw [if_neg hb0, if_neg (by decide), if_neg (by decide), if_neg (by decide), if_neg hne]; exact Wr.tupE (Wr.cutneg32 _))
        | (rw [if_neg hb0, if_neg (by decide), if_neg (by decide), if_neg (by decide), if_pos heq, if_pos hq]; done)
        | (rw [if_neg hb0, if_neg (by decide), if_neg (by decide), if_neg (by decide), if_pos heq, if_neg hq]; done)
    · intro hc48
      try simp only [decide_eq_true_eq, decide_eq_false_iff_not, Bool.not_eq_true', Bool.not_eq_false', Bool.and_eq_true, Bool.or_eq_false_iff] at hc48
      have hng : ¬ Wr.neg a 32 = true := by simpa using hc48
      refine KC.skip ?_
      refine KQ.seq ?_
      refine KC.seq ?_
      refine KC.region ?_
      refine KL.op (R.move rfl rfl) rfl rfl rfl ?_
      refine KL.op (R.move rfl rfl) rfl rfl rfl ?_
      refine KL.call rfl rfl rfl rfl Tryd.call22 rfl rfl rfl (cut32_k _ (by first | exact Wd.r64 _ | (dsimp only [InR]; omega))) ?_
      rintro _ _ ⟨rfl, rfl⟩
      refine KL.op (R.assign rfl rfl) rfl rfl rfl ?_
      refine KL.op (R.assign rfl rfl) rfl rfl rfl ?_
      refine KL.nil ?_
      refine KQ.seq ?_
      refine KC.ret ?_
      refine KQ.retThen ?_
      refine KQ.ofRet ?_
      refine KQ.fin2 Tryd.results26 rfl rfl ?_
      refine ⟨?_, rfl⟩
      unfold Wr.dvv
      first
        | (rw [if_pos hb0]; done)
        | (rw [if_neg hb0, if_pos (by decide)]; done)
        | (rw [if_neg hb0, if_neg (by decide), if_pos (by decide)]; done)
        | (rw [if_neg hb0, if_neg (by decide), if_neg (by decide), if_pos (by decide), if_pos hng]; exact Wr.tupE (Wr.cutneg32 _))
        | (rw [if_neg hb0, if_neg (by decide), if_neg (by decide), if_pos (by decide), if_neg hng]; exact Wr.tupE (Wr.cutpos32 _ (by omega)))
        | (rw [if_neg hb0, if_neg (by decide), if_neg (by decide), if_neg (by decide), if_neg hne]; exact Wr.tupE (Wr.cutneg32 _))
        | (rw [if_neg hb0, if_neg (by decide), if_neg (by decide), if_neg (by decide), if_pos heq, if_pos hq]; done)
        | (rw [if_neg hb0, if_neg (by decide), if_neg (by decide), if_neg (by decide), if_pos heq, if_neg hq]; done)

set_option maxRecDepth 100000 in
set_option maxHeartbeats 4000000 in
theorem Div32_3 {H : Heap} (a b : Nat) (ha : a < 4294967296) (hb : b < 4294967296) : Ct Tryd.prog 26 [.int .i64 3, .int .u64 (a : Nat), .int .u64 (b : Nat), .int .i64 32] H (fun u H' => u = .tuple #[.int .u64 (Wr.dvv 3 a b 32).1, .int .u8 (Wr.dvv 3 a b 32).2] ∧ H = H') := by
  refine Ct.mk Tryd.func26 rfl Tryd.ntmps26 rfl ?_
  intro W0 hW0
  have o0 : Old H H := Old.refl H
  refine KC.seq ?_
  refine KC.region ?_
  refine KL.op (R.assign rfl rfl) rfl rfl rfl ?_
  refine KL.op (R.assign rfl rfl) rfl rfl rfl ?_
  refine KL.nil ?_
  refine KQ.seq ?_
  refine KC.seq ?_
  refine KC.seq ?_
  refine KC.region ?_
  refine KL.op (R.move rfl rfl) rfl rfl rfl ?_
  refine KL.op (R.eql rfl rfl rfl) rfl rfl rfl ?_
  refine KL.nil ?_
  refine KQ.seq ?_
  refine KC.iteL rfl ?_ ?_
  · intro hc17
    try simp only [decide_eq_true_eq, decide_eq_false_iff_not, Bool.not_eq_true', Bool.not_eq_false', Bool.and_eq_true, Bool.or_eq_false_iff] at hc17
    have hb0 : b = 0 := by omega
    refine KC.seq ?_
    refine KC.region ?_
    refine KL.op (R.assign rfl rfl) rfl rfl rfl ?_
    refine KL.op (R.assign rfl rfl) rfl rfl rfl ?_
    refine KL.nil ?_
    refine KQ.seq ?_
    refine KC.ret ?_
    refine KQ.retThen ?_
    refine KQ.ofRet ?_
    refine KQ.fin2 Tryd.results26 rfl rfl ?_
    refine ⟨?_, rfl⟩
    unfold Wr.dvv
    first
      | (rw [if_pos hb0]; done)
      | (rw [if_neg hb0, if_pos (by decide)]; done)
      | (rw [if_neg hb0, if_neg (by decide), if_pos (by decide)]; done)
      | (rw [if_neg hb0, if_neg (by decide), if_neg (by decide), if_pos (by decide), if_pos hng]; exact Wr.tupE (Wr.cutneg32 _))
      | (rw [if_neg hb0, if_neg (by decide), if_neg (by decide), if_pos (by decide), if_neg hng]; exact Wr.tupE (Wr.cutpos32 _ (by omega)))
      | (rw [if_neg hb0, if_neg (by decide), if_neg (by decide), if_neg (by decide), if_neg hne]; exact Wr.tupE (Wr.cutneg32 _))
      | (rw [if_neg hb0, if_neg (by decide), if_neg (by decide), if_neg (by decide), if_pos heq, if_pos hq]; done)
      | (rw [if_neg hb0, if_neg (by decide), if_neg (by decide), if_neg (by decide), if_pos heq, if_neg hq]; done)
  · intro hc17
    try simp only [decide_eq_true_eq, decide_eq_false_iff_not, Bool.not_eq_true', Bool.not_eq_false', Bool.and_eq_true, Bool.or_eq_false_iff] at hc17
    have hb0 : ¬ b = 0 := by omega
    have hmb := Wr.mag_pos hb0 (show b < 2 ^ 32 by rw [Wr.e32]; omega)
    have hma := Wr.mag_lt (show a < 2 ^ 32 by rw [Wr.e32]; omega) (.inr (Nat.two_pow_pos _))
    rw [Wr.e32] at hma
    have hqd := Nat.div_le_self (Wr.mag a 32) (Wr.mag b 32)
    have hrd := Nat.mod_le (Wr.mag a 32) (Wr.mag b 32)
    refine KC.skip ?_
    refine KQ.seq ?_
    refine KC.seq ?_
    refine KC.seq ?_
    refine KC.region ?_
    refine KL.op (R.move rfl rfl) rfl rfl rfl ?_
    refine KL.op ((R.eql rfl rfl rfl).val (congrArg Value.bool (decide_eq_false (by decide)))) rfl rfl rfl ?_
    refine KL.nil ?_
    refine KQ.seq ?_
    refine KC.condF rfl ?_
    refine KC.skip ?_
    refine KQ.seq ?_
    refine KC.seq ?_
    refine KC.seq ?_
    refine KC.region ?_
    refine KL.op (R.move rfl rfl) rfl rfl rfl ?_
    refine KL.op ((R.eql rfl rfl rfl).val (congrArg Value.bool (decide_eq_true (by decide)))) rfl rfl rfl ?_
    refine KL.nil ?_
    refine KQ.seq ?_
    refine KC.condT rfl ?_
    refine KC.seq ?_
    refine KC.region ?_
    refine KL.op (R.move rfl rfl) rfl rfl rfl ?_
    refine KL.op (R.move rfl rfl) rfl rfl rfl ?_
    refine KL.op ((R.rem rfl rfl rfl (Int.natCast_nonneg _) (by omega)).val (congrArg (Value.int .u64) (Int.natCast_emod a b).symm)) rfl rfl rfl ?_
    refine KL.op (R.assign rfl rfl) rfl rfl rfl ?_
    refine KL.op (R.assign rfl rfl) rfl rfl rfl ?_
    refine KL.nil ?_
    refine KQ.seq ?_
    refine KC.ret ?_
    refine KQ.retThen ?_
    refine KQ.ofRet ?_
    refine KQ.fin2 Tryd.results26 rfl rfl ?_
    refine ⟨?_, rfl⟩
    unfold Wr.dvv
    first
      | (rw [if_pos hb0]; done)
      | (rw [if_neg hb0, if_pos (by decide)]; done)
      | (rw [if_neg hb0, if_neg (by decide), if_pos (by decide)]; done)
      | (rw [if_neg hb0, if_neg (by decide), if_neg (by decide), if_pos (by decide), if_pos hng]; exact Wr.tupE (Wr.cutneg32 _))
      | (rw [if_neg hb0, if_neg (by decide), if_neg (by decide), if_pos (by decide), if_neg hng]; exact Wr.tupE (Wr.cutpos32 _ (by omega)))
      | (rw [if_neg hb0, if_neg (by decide), if_neg (by decide), if_neg (by decide), if_neg hne]; exact Wr.tupE (Wr.cutneg32 _))
      | (rw [if_neg hb0, if_neg (by decide), if_neg (by decide), if_neg (by decide), if_pos heq, if_pos hq]; done)
      | (rw [if_neg hb0, if_neg (by decide), if_neg (by decide), if_neg (by decide), if_pos heq, if_neg hq]; done)

set_option maxRecDepth 100000 in
set_option maxHeartbeats 4000000 in
theorem Div64_0 {H : Heap} (a b : Nat) (ha : a < 18446744073709551616) (hb : b < 18446744073709551616) : Ct Tryd.prog 26 [.int .i64 0, .int .u64 (a : Nat), .int .u64 (b : Nat), .int .i64 64] H (fun u H' => u = .tuple #[.int .u64 (Wr.dvv 0 a b 64).1, .int .u8 (Wr.dvv 0 a b 64).2] ∧ H = H') := by
  refine Ct.mk Tryd.func26 rfl Tryd.ntmps26 rfl ?_
  intro W0 hW0
  have o0 : Old H H := Old.refl H
  refine KC.seq ?_
  refine KC.region ?_
  refine KL.op (R.assign rfl rfl) rfl rfl rfl ?_
  refine KL.op (R.assign rfl rfl) rfl rfl rfl ?_
  refine KL.nil ?_
  refine KQ.seq ?_
  refine KC.seq ?_
  refine KC.seq ?_
  refine KC.region ?_
  refine KL.op (R.move rfl rfl) rfl rfl rfl ?_
  refine KL.op (R.eql rfl rfl rfl) rfl rfl rfl ?_
  refine KL.nil ?_
  refine KQ.seq ?_
  refine KC.iteL rfl ?_ ?_
  · intro hc17
    try simp only [decide_eq_true_eq, decide_eq_false_iff_not, Bool.not_eq_true', Bool.not_eq_false', Bool.and_eq_true, Bool.or_eq_false_iff] at hc17
    have hb0 : b = 0 := by omega
    refine KC.seq ?_
    refine KC.region ?_
    refine KL.op (R.assign rfl rfl) rfl rfl rfl ?_
    refine KL.op (R.assign rfl rfl) rfl rfl rfl ?_
    refine KL.nil ?_
    refine KQ.seq ?_
    refine KC.ret ?_
    refine KQ.retThen ?_
    refine KQ.ofRet ?_
    refine KQ.fin2 Tryd.results26 rfl rfl ?_
    refine ⟨?_, rfl⟩
    unfold Wr.dvv
    first
      | (rw [if_pos hb0]; done)
      | (rw [if_neg hb0, if_pos (by decide)]; done)
      | (rw [if_neg hb0, if_neg (by decide), if_pos (by decide)]; done)
      | (rw [if_neg hb0, if_neg (by decide), if_neg (by decide), if_pos (by decide), if_pos hng]; exact Wr.tupE (Wr.cutneg64 _))
      | (rw [if_neg hb0, if_neg (by decide), if_neg (by decide), if_pos (by decide), if_neg hng]; exact Wr.tupE (Wr.cutpos64 _ (by omega)))
      | (rw [if_neg hb0, if_neg (by decide), if_neg (by decide), if_neg (by decide), if_neg hne]; exact Wr.tupE (Wr.cutneg64 _))
      | (rw [if_neg hb0, if_neg (by decide), if_neg (by decide), if_neg (by decide), if_pos heq, if_pos hq]; done)
      | (rw [if_neg hb0, if_neg (by decide), if_neg (by decide), if_neg (by decide), if_pos heq, if_neg hq]; done)
  · intro hc17
    try simp only [decide_eq_true_eq, decide_eq_false_iff_not, Bool.not_eq_true', Bool.not_eq_false', Bool.and_eq_true, Bool.or_eq_false_iff] at hc17
    have hb0 : ¬ b = 0 := by omega
    have hmb := Wr.mag_pos hb0 (show b < 2 ^ 64 by rw [Wr.e64]; omega)
    have hma := Wr.mag_lt (show a < 2 ^ 64 by rw [Wr.e64]; omega) (.inr (Nat.two_pow_pos _))
    rw [Wr.e64] at hma
    have hqd := Nat.div_le_self (Wr.mag a 64) (Wr.mag b 64)
    have hrd := Nat.mod_le (Wr.mag a 64) (Wr.mag b 64)
    refine KC.skip ?_
    refine KQ.seq ?_
    refine KC.seq ?_
    refine KC.seq ?_
    refine KC.region ?_
    refine KL.op (R.move rfl rfl) rfl rfl rfl ?_
    refine KL.op ((R.eql rfl rfl rfl).val (congrArg Value.bool (decide_eq_false (by decide)))) rfl rfl rfl ?_
    refine KL.nil ?_
    refine KQ.seq ?_
    refine KC.condF rfl ?_
    refine KC.skip ?_
    refine KQ.seq ?_
    refine KC.seq ?_
    refine KC.seq ?_
    refine KC.region ?_
    refine KL.op (R.move rfl rfl) rfl rfl rfl ?_
    refine KL.op ((R.eql rfl rfl rfl).val (congrArg Value.bool (decide_eq_false (by decide)))) rfl rfl rfl ?_
    refine KL.nil ?_
    refine KQ.seq ?_
    refine KC.condF rfl ?_
    refine KC.skip ?_
    refine KQ.seq ?_
    refine KC.seq ?_
    refine KC.region ?_
    refine KL.op (R.move rfl rfl) rfl rfl rfl ?_
    refine KL.op (R.move rfl rfl) rfl rfl rfl ?_
    refine KL.call rfl rfl rfl rfl Tryd.call54 rfl rfl rfl (Signed64_k a ha) ?_
    rintro _ _ ⟨rfl, rfl⟩
    refine KL.op (R.move rfl rfl) rfl rfl rfl ?_
    refine KL.op (R.extract rfl rfl rfl) rfl rfl rfl ?_
    refine KL.op (R.extract rfl rfl rfl) rfl rfl rfl ?_
    refine KL.op (R.assign rfl rfl) rfl rfl rfl ?_
    refine KL.op (R.assign rfl rfl) rfl rfl rfl ?_
    refine KL.nil ?_
    refine KQ.seq ?_
    refine KC.seq ?_
    refine KC.region ?_
    refine KL.op (R.move rfl rfl) rfl rfl rfl ?_
    refine KL.op (R.move rfl rfl) rfl rfl rfl ?_
    refine KL.call rfl rfl rfl rfl Tryd.call54 rfl rfl rfl (Signed64_k b hb) ?_
    rintro _ _ ⟨rfl, rfl⟩
    refine KL.op (R.move rfl rfl) rfl rfl rfl ?_
    refine KL.op (R.extract rfl rfl rfl) rfl rfl rfl ?_
    refine KL.op (R.extract rfl rfl rfl) rfl rfl rfl ?_
    refine KL.op (R.assign rfl rfl) rfl rfl rfl ?_
    refine KL.op (R.assign rfl rfl) rfl rfl rfl ?_
    refine KL.nil ?_
    refine KQ.seq ?_
    refine KC.seq ?_
    refine KC.region ?_
    refine KL.op (R.move rfl rfl) rfl rfl rfl ?_
    refine KL.op (R.move rfl rfl) rfl rfl rfl ?_
    refine KL.op ((R.quo rfl rfl rfl (Int.natCast_nonneg _) (by omega) (by dsimp only [InR]; omega)).val (congrArg (Value.int .u64) (Int.natCast_ediv (Wr.mag a 64) (Wr.mag b 64)).symm)) rfl rfl rfl ?_
    refine KL.op (R.assign rfl rfl) rfl rfl rfl ?_
    refine KL.nil ?_
    refine KQ.seq ?_
    refine KC.seq ?_
    refine KC.region ?_
    refine KL.op (R.move rfl rfl) rfl rfl rfl ?_
    refine KL.op (R.move rfl rfl) rfl rfl rfl ?_
    refine KL.op ((R.rem rfl rfl rfl (Int.natCast_nonneg _) (by omega)).val (congrArg (Value.int .u64) (Int.natCast_emod (Wr.mag a 64) (Wr.mag b 64)).symm)) rfl rfl rfl ?_
    refine KL.op (R.assign rfl rfl) rfl rfl rfl ?_
    refine KL.nil ?_
    refine KQ.seq ?_
    refine KC.seq ?_
    refine KC.seq ?_
    refine KC.region ?_
    refine KL.op (R.move rfl rfl) rfl rfl rfl ?_
    refine KL.op ((R.eql rfl rfl rfl).val (congrArg Value.bool (decide_eq_false (by decide)))) rfl rfl rfl ?_
    refine KL.nil ?_
    refine KQ.seq ?_
    refine KC.condF rfl ?_
    refine KC.skip ?_
    refine KQ.seq ?_
    refine KC.seq ?_
    refine KC.seq ?_
    refine KC.region ?_
    refine KL.op (R.move rfl rfl) rfl rfl rfl ?_
    refine KL.op (R.move rfl rfl) rfl rfl rfl ?_
    refine KL.op (R.neqB rfl Tryd.underlying4 rfl rfl) rfl rfl rfl ?_
    refine KL.nil ?_
    refine KQ.seq ?_
    refine KC.iteL rfl ?_ ?_
    · intro hc56
      try simp only [decide_eq_true_eq, decide_eq_false_iff_not, Bool.not_eq_true', Bool.not_eq_false', Bool.and_eq_true, Bool.or_eq_false_iff] at hc56
      have hne : ¬ Wr.neg a 64 = Wr.neg b 64 := by simpa using hc56
      refine KC.seq ?_
      refine KC.region ?_
      refine KL.op (R.move rfl rfl) rfl rfl rfl ?_
      refine KL.op (R.subW rfl rfl rfl) rfl rfl rfl ?_
      refine KL.op (R.move rfl rfl) rfl rfl rfl ?_
      refine KL.call rfl rfl rfl rfl Tryd.call22 rfl rfl rfl (cut64_k _) ?_
      rintro _ _ ⟨rfl, rfl⟩
      refine KL.op (R.assign rfl rfl) rfl rfl rfl ?_
      refine KL.op (R.assign rfl rfl) rfl rfl rfl ?_
      refine KL.nil ?_
      refine KQ.seq ?_
      refine KC.ret ?_
      refine KQ.retThen ?_
      refine KQ.ofRet ?_
      refine KQ.fin2 Tryd.results26 rfl rfl ?_
      refine ⟨?_, rfl⟩
      unfold Wr.dvv
      first
        | (rw [if_pos hb0]; done)
        | (rw [if_neg hb0, if_pos (by decide)]; done)
        | (rw [if_neg hb0, if_neg (by decide), if_pos (by decide)]; done)
        | (rw [if_neg hb0, if_neg (by decide), if_neg (by decide), if_pos (by decide), if_pos hng]; exact Wr.tupE (Wr.cutneg64 _))
        | (rw [if_neg hb0, if_neg (by decide), if_neg (by decide), if_pos (by decide), if_neg hng]; exact Wr.tupE (Wr.cutpos64 _ (by omega)))
        | (rw [if_neg hb0, if_neg (by decide), if_neg (by decide), if_neg (by decide), if_neg hne]; exact Wr.tupE (Wr.cutneg64 _))
        | (rw [if_neg hb0, if_neg (by decide), if_neg (by decide), if_neg (by decide), if_pos heq, if_pos hq]; done)
        | (rw [if_neg hb0, if_neg (by decide), if_neg (by decide), if_neg (by decide), if_pos heq, if_neg hq]; done)
    · intro hc56
      try simp only [decide_eq_true_eq, decide_eq_false_iff_not, Bool.not_eq_true', Bool.not_eq_false', Bool.and_eq_true, Bool.or_eq_false_iff] at hc56
      have heq : Wr.neg a 64 = Wr.neg b 64 := by simpa using hc56
      refine KC.skip ?_
      refine KQ.seq ?_
      refine KC.seq ?_
      refine KC.seq ?_
      refine KC.region ?_
      refine KL.op (R.move rfl rfl) rfl rfl rfl ?_
      refine KL.op (R.move rfl rfl) rfl rfl rfl ?_
      refine KL.op ((R.sub rfl rfl rfl (by dsimp only [InR]; omega)).val (congrArg (Value.int .i64) (show (64 : Int) - 1 = ((64 - 1 : Nat) : Int) by decide))) rfl rfl rfl ?_
      refine KL.call rfl rfl rfl rfl Tryd.call53 rfl rfl rfl (power_k (64 - 1) (by decide)) ?_
      rintro _ _ ⟨rfl, rfl⟩
      refine KL.op (R.eql rfl rfl rfl) rfl rfl rfl ?_
      refine KL.nil ?_
      refine KQ.seq ?_
      refine KC.iteL rfl ?_ ?_
      · intro hc65
        try simp only [decide_eq_true_eq, decide_eq_false_iff_not, Bool.not_eq_true', Bool.not_eq_false', Bool.and_eq_true, Bool.or_eq_false_iff] at hc65
        have hq : Wr.mag a 64 / Wr.mag b 64 = 2 ^ (64 - 1) := Int.ofNat.inj hc65
        refine KC.seq ?_
        refine KC.region ?_
        refine KL.op (R.assign rfl rfl) rfl rfl rfl ?_
        refine KL.op (R.assign rfl rfl) rfl rfl rfl ?_
        refine KL.nil ?_
        refine KQ.seq ?_
        refine KC.ret ?_
        refine KQ.retThen ?_
        refine KQ.ofRet ?_
        refine KQ.fin2 Tryd.results26 rfl rfl ?_
        refine ⟨?_, rfl⟩
        unfold Wr.dvv
        first
          | (rw [if_pos hb0]; done)
          | (rw [if_neg hb0, if_pos (by decide)]; done)
          | (rw [if_neg hb0, if_neg (by decide), if_pos (by decide)]; done)
          | (rw [if_neg hb0, if_neg (by decide), if_neg (by decide), if_pos (by decide), if_pos hng]; exact Wr.tupE (Wr.cutneg64 _))
          | (rw [if_neg hb0, if_neg (by decide), if_neg (by decide), if_pos (by decide), if_neg hng]; exact Wr.tupE (Wr.cutpos64 _ (by omega)))
          | (rw [if_neg hb0, if_neg (by decide), if_neg (by decide), if_neg (by decide), if_neg hne]; exact Wr.tupE (Wr.cutneg64 _))
          | (rw [if_neg hb0, if_neg (by decide), if_neg (by decide), if_neg (by decide), if_pos heq, if_pos hq]; done)
          | (rw [if_neg hb0, if_neg (by decide), if_neg (by decide), if_neg (by decide), if_pos heq, if_neg hq]; done)
      · intro hc65
        try simp only [decide_eq_true_eq, decide_eq_false_iff_not, Bool.not_eq_true', Bool.not_eq_false', Bool.and_eq_true, Bool.or_eq_false_iff] at hc65
        have hq : ¬ Wr.mag a 64 / Wr.mag b 64 = 2 ^ (64 - 1) := fun h => hc65 (by rw [h])
        refine KC.skip ?_
        refine KQ.seq ?_
        refine KC.seq ?_
        refine KC.region ?_
        refine KL.op (R.move rfl rfl) rfl rfl rfl ?_
        refine KL.op (R.assign rfl rfl) rfl rfl rfl ?_
        refine KL.op (R.assign rfl rfl) rfl rfl rfl ?_
        refine KL.nil ?_
        refine KQ.seq ?_
        refine KC.ret ?_
        refine KQ.ofRet ?_
        refine KQ.fin2 Tryd.results26 rfl rfl ?_
        refine ⟨?_, rfl⟩
        unfold Wr.dvv
        first
          | (rw [if_pos hb0]; done)
          | (rw [if_neg hb0, if_pos (by decide)]; done)
          | (rw [if_neg hb0, if_neg (by decide), if_pos (by decide)]; done)
          | (rw [if_neg hb0, if_neg (by decide), if_neg (by decide), if_pos (by decide), if_pos hng]; exact Wr.tupE (Wr.cutneg64 _))
          | (rw [if_neg hb0, if_neg (by decide), if_neg (by decide), if_pos (by decide), if_neg hng]; exact Wr.tupE (Wr.cutpos64 _ (by omega)))
          | (rw [if_neg hb0, if_neg (by decide), if_neg (by decide), if_neg (by decide), if_neg hne]; exact Wr.tupE (Wr.cutneg64 _))
          | (rw [if_neg hb0, if_neg (by decide), if_neg (by decide), if_neg (by decide), if_pos heq, if_pos hq]; done)
          | (rw [if_neg hb0, if_neg (by decide), if_neg (by decide), if_neg (by decide), if_pos heq, if_neg hq]; done)

set_option maxRecDepth 100000 in
set_option maxHeartbeats 4000000 in
theorem Div64_1 {H : Heap} (a b : Nat) (ha : a < 18446744073709551616) (hb : b < 18446744073709551616) : Ct Tryd.prog 26 [.int .i64 1, .int .u64 (a : Nat), .int .u64 (b : Nat), .int .i64 64] H (fun u H' => u = .tuple #[.int .u64 (Wr.dvv 1 a b 64).1, .int .u8 (Wr.dvv 1 a b 64).2] ∧ H = H') := by
  refine Ct.mk Tryd.func26 rfl Tryd.ntmps26 rfl ?_
  intro W0 hW0
  have o0 : Old H H := Old.refl H
  refine KC.seq ?_
  refine KC.region ?_
  refine KL.op (R.assign rfl rfl) rfl rfl rfl ?_
  refine KL.op (R.assign rfl rfl) rfl rfl rfl ?_
  refine KL.nil ?_
  refine KQ.seq ?_
  refine KC.seq ?_
  refine KC.seq ?_
  refine KC.region ?_
  refine KL.op (R.move rfl rfl) rfl rfl rfl ?_
  refine KL.op (R.eql rfl rfl rfl) rfl rfl rfl ?_
  refine KL.nil ?_
  refine KQ.seq ?_
  refine KC.iteL rfl ?_ ?_
  · intro hc17
    try simp only [decide_eq_true_eq, decide_eq_false_iff_not, Bool.not_eq_true', Bool.not_eq_false', Bool.and_eq_true, Bool.or_eq_false_iff] at hc17
    have hb0 : b = 0 := by omega
    refine KC.seq ?_
    refine KC.region ?_
    refine KL.op (R.assign rfl rfl) rfl rfl rfl ?_
    refine KL.op (R.assign rfl rfl) rfl rfl rfl ?_
    refine KL.nil ?_
    refine KQ.seq ?_
    refine KC.ret ?_
    refine KQ.retThen ?_
    refine KQ.ofRet ?_
    refine KQ.fin2 Tryd.results26 rfl rfl ?_
    refine ⟨?_, rfl⟩
    unfold Wr.dvv
    first
      | (rw [if_pos hb0]; done)
      | (rw [if_neg hb0, if_pos (by decide)]; done)
      | (rw [if_neg hb0, if_neg (by decide), if_pos (by decide)]; done)
      | (rw [if_neg hb0, if_neg (by decide), if_neg (by decide), if_pos (by decide), if_pos hng]; exact Wr.tupE (Wr.cutneg64 _))
      | (rw [if_neg hb0, if_neg (by decide), if_neg (by decide), if_pos (by decide), if_neg hng]; exact Wr.tupE (Wr.cutpos64 _ (by omega)))
      | (rw [if_neg hb0, if_neg (by decide), if_neg (by decide), if_neg (by decide), if_neg hne]; exact Wr.tupE (Wr.cutneg64 _))
      | (rw [if_neg hb0, if_neg (by decide), if_neg (by decide), if_neg (by decide), if_pos heq, if_pos hq]; done)
      | (rw [if_neg hb0, if_neg (by decide), if_neg (by decide), if_neg (by decide), if_pos heq, if_neg hq]; done)
  · intro hc17
    try simp only [decide_eq_true_eq, decide_eq_false_iff_not, Bool.not_eq_true', Bool.not_eq_false', Bool.and_eq_true, Bool.or_eq_false_iff] at hc17
    have hb0 : ¬ b = 0 := by omega
    have hmb := Wr.mag_pos hb0 (show b < 2 ^ 64 by rw [Wr.e64]; omega)
    have hma := Wr.mag_lt (show a < 2 ^ 64 by rw [Wr.e64]; omega) (.inr (Nat.two_pow_pos _))
    rw [Wr.e64] at hma
    have hqd := Nat.div_le_self (Wr.mag a 64) (Wr.mag b 64)
    have hrd := Nat.mod_le (Wr.mag a 64) (Wr.mag b 64)
    refine KC.skip ?_
    refine KQ.seq ?_
    refine KC.seq ?_
    refine KC.seq ?_
    refine KC.region ?_
    refine KL.op (R.move rfl rfl) rfl rfl rfl ?_
    refine KL.op ((R.eql rfl rfl rfl).val (congrArg Value.bool (decide_eq_true (by decide)))) rfl rfl rfl ?_
    refine KL.nil ?_
    refine KQ.seq ?_
    refine KC.condT rfl ?_
    refine KC.seq ?_
    refine KC.region ?_
    refine KL.op (R.move rfl rfl) rfl rfl rfl ?_
    refine KL.op (R.move rfl rfl) rfl rfl rfl ?_
    refine KL.op ((R.quo rfl rfl rfl (Int.natCast_nonneg _) (by omega) (by dsimp only [InR]; omega)).val (congrArg (Value.int .u64) (Int.natCast_ediv a b).symm)) rfl rfl rfl ?_
    refine KL.op (R.assign rfl rfl) rfl rfl rfl ?_
    refine KL.op (R.assign rfl rfl) rfl rfl rfl ?_
    refine KL.nil ?_
    refine KQ.seq ?_
    refine KC.ret ?_
    refine KQ.retThen ?_
    refine KQ.ofRet ?_
    refine KQ.fin2 Tryd.results26 rfl rfl ?_
    refine ⟨?_, rfl⟩
    unfold Wr.dvv
    first
      | (rw [if_pos hb0]; done)
      | (rw [if_neg hb0, if_pos (by decide)]; done)
      | (rw [if_neg hb0, if_neg (by decide), if_pos (by decide)]; done)
      | (rw [if_neg hb0, if_neg (by decide), if_neg (by decide), if_pos (by decide), if_pos hng]; exact Wr.tupE (Wr.cutneg64 _))
      | (rw [if_neg hb0, if_neg (by decide), if_neg (by decide), if_pos (by decide), if_neg hng]; exact Wr.tupE (Wr.cutpos64 _ (by omega)))
      | (rw [if_neg hb0, if_neg (by decide), if_neg (by decide), if_neg (by decide), if_neg hne]; exact Wr.tupE (Wr.cutneg64 _))
      | (rw [if_neg hb0, if_neg (by decide), if_neg (by decide), if_neg (by decide), if_pos heq, if_pos hq]; done)
      | (rw [if_neg hb0, if_neg (by decide), if_neg (by decide), if_neg (by decide), if_pos heq, if_neg hq]; done)

set_option maxRecDepth 100000 in
set_option maxHeartbeats 4000000 in
theorem Div64_2 {H : Heap} (a b : Nat) (ha : a < 18446744073709551616) (hb : b < 18446744073709551616) : Ct Tryd.prog 26 [.int .i64 2, .int .u64 (a : Nat), .int .u64 (b : Nat), .int .i64 64] H (fun u H' => u = .tuple #[.int .u64 (Wr.dvv 2 a b 64).1, .int .u8 (Wr.dvv 2 a b 64).2] ∧ H = H') := by
  refine Ct.mk Tryd.func26 rfl Tryd.ntmps26 rfl ?_
  intro W0 hW0
  have o0 : Old H H := Old.refl H
  refine KC.seq ?_
  refine KC.region ?_
  refine KL.op (R.assign rfl rfl) rfl rfl rfl ?_
  refine KL.op (R.assign rfl rfl) rfl rfl rfl ?_
  refine KL.nil ?_
  refine KQ.seq ?_
  refine KC.seq ?_
  refine KC.seq ?_
  refine KC.region ?_
  refine KL.op (R.move rfl rfl) rfl rfl rfl ?_
  refine KL.op (R.eql rfl rfl rfl) rfl rfl rfl ?_
  refine KL.nil ?_
  refine KQ.seq ?_
  refine KC.iteL rfl ?_ ?_
  · intro hc17
    try simp only [decide_eq_true_eq, decide_eq_false_iff_not, Bool.not_eq_true', Bool.not_eq_false', Bool.and_eq_true, Bool.or_eq_false_iff] at hc17
    have hb0 : b = 0 := by omega
    refine KC.seq ?_
    refine KC.region ?_
    refine KL.op (R.assign rfl rfl) rfl rfl rfl ?_
    refine KL.op (R.assign rfl rfl) rfl rfl rfl ?_
    refine KL.nil ?_
    refine KQ.seq ?_
    refine KC.ret ?_
    refine KQ.retThen ?_
    refine KQ.ofRet ?_
    refine KQ.fin2 Tryd.results26 rfl rfl ?_
    refine ⟨?_, rfl⟩
    unfold Wr.dvv
    first
      | (rw [if_pos hb0]; done)
      | (rw [if_neg hb0, if_pos (by decide)]; done)
      | (rw [if_neg hb0, if_neg (by decide), if_pos (by decide)]; done)
      | (rw [if_neg hb0, if_neg (by decide), if_neg (by decide), if_pos (by decide), if_pos hng]; exact Wr.tupE (Wr.cutneg64 _))
      | (rw [if_neg hb0, if_neg (by decide), if_neg (by decide), if_pos (by decide), if_neg hng]; exact Wr.tupE (Wr.cutpos64 _ (by omega)))
      | (rw [if_neg hb0, if_neg (by decide), if_neg (by decide), if_neg (by decide), if_neg hne]; exact Wr.tupE (Wr.cutneg64 _))
      | (rw [if_neg hb0, if_neg (by decide), if_neg (by decide), if_neg (by decide), if_pos heq, if_pos hq]; done)
      | (rw [if_neg hb0, if_neg (by decide), if_neg (by decide), if_neg (by decide), if_pos heq, if_neg hq]; done)
  · intro hc17
    try simp only [decide_eq_true_eq, decide_eq_false_iff_not, Bool.not_eq_true', Bool.not_eq_false', Bool.and_eq_true, Bool.or_eq_false_iff] at hc17
    have hb0 : ¬ b = 0 := by omega
    have hmb := Wr.mag_pos hb0 (show b < 2 ^ 64 by rw [Wr.e64]; omega)
    have hma := Wr.mag_lt (show a < 2 ^ 64 by rw [Wr.e64]; omega) (.inr (Nat.two_pow_pos _))
    rw [Wr.e64] at hma
    have hqd := Nat.div_le_self (Wr.mag a 64) (Wr.mag b 64)
    have hrd := Nat.mod_le (Wr.mag a 64) (Wr.mag b 64)
    refine KC.skip ?_
    refine KQ.seq ?_
    refine KC.seq ?_
    refine KC.seq ?_
    refine KC.region ?_
    refine KL.op (R.move rfl rfl) rfl rfl rfl ?_
    refine KL.op ((R.eql rfl rfl rfl).val (congrArg Value.bool (decide_eq_false (by decide)))) rfl rfl rfl ?_
    refine KL.nil ?_
    refine KQ.seq ?_
    refine KC.condF rfl ?_
    refine KC.skip ?_
    refine KQ.seq ?_
    refine KC.seq ?_
    refine KC.seq ?_
    refine KC.region ?_
    refine KL.op (R.move rfl rfl) rfl rfl rfl ?_
    refine KL.op ((R.eql rfl rfl rfl).val (congrArg Value.bool (decide_eq_false (by decide)))) rfl rfl rfl ?_
    refine KL.nil ?_
    refine KQ.seq ?_
    refine KC.condF rfl ?_
    refine KC.skip ?_
    refine KQ.seq ?_
    refine KC.seq ?_
    refine KC.region ?_
    refine KL.op (R.move rfl rfl) rfl rfl rfl ?_
    refine KL.op (R.move rfl rfl) rfl rfl rfl ?_
    refine KL.call rfl rfl rfl rfl Tryd.call54 rfl rfl rfl (Signed64_k a ha) ?_
    rintro _ _ ⟨rfl, rfl⟩
    refine KL.op (R.move rfl rfl) rfl rfl rfl ?_
    refine KL.op (R.extract rfl rfl rfl) rfl rfl rfl ?_
    refine KL.op (R.extract rfl rfl rfl) rfl rfl rfl ?_
    refine KL.op (R.assign rfl rfl) rfl rfl rfl ?_
    refine KL.op (R.assign rfl rfl) rfl rfl rfl ?_
    refine KL.nil ?_
    refine KQ.seq ?_
    refine KC.seq ?_
    refine KC.region ?_
    refine KL.op (R.move rfl rfl) rfl rfl rfl ?_
    refine KL.op (R.move rfl rfl) rfl rfl rfl ?_
    refine KL.call rfl rfl rfl rfl Tryd.call54 rfl rfl rfl (Signed64_k b hb) ?_
    rintro _ _ ⟨rfl, rfl⟩
    refine KL.op (R.move rfl rfl) rfl rfl rfl ?_
    refine KL.op (R.extract rfl rfl rfl) rfl rfl rfl ?_
    refine KL.op (R.extract rfl rfl rfl) rfl rfl rfl ?_
    refine KL.op (R.assign rfl rfl) rfl rfl rfl ?_
    refine KL.op (R.assign rfl rfl) rfl rfl rfl ?_
    refine KL.nil ?_
    refine KQ.seq ?_
    refine KC.seq ?_
    refine KC.region ?_
    refine KL.op (R.move rfl rfl) rfl rfl rfl ?_
    refine KL.op (R.move rfl rfl) rfl rfl rfl ?_
    refine KL.op ((R.quo rfl rfl rfl (Int.natCast_nonneg _) (by omega) (by dsimp only [InR]; omega)).val (congrArg (Value.int .u64) (Int.natCast_ediv (Wr.mag a 64) (Wr.mag b 64)).symm)) rfl rfl rfl ?_
    refine KL.op (R.assign rfl rfl) rfl rfl rfl ?_
    refine KL.nil ?_
    refine KQ.seq ?_
    refine KC.seq ?_
    refine KC.region ?_
    refine KL.op (R.move rfl rfl) rfl rfl rfl ?_
    refine KL.op (R.move rfl rfl) rfl rfl rfl ?_
    refine KL.op ((R.rem rfl rfl rfl (Int.natCast_nonneg _) (by omega)).val (congrArg (Value.int .u64) (Int.natCast_emod (Wr.mag a 64) (Wr.mag b 64)).symm)) rfl rfl rfl ?_
    refine KL.op (R.assign rfl rfl) rfl rfl rfl ?_
    refine KL.nil ?_
    refine KQ.seq ?_
    refine KC.seq ?_
    refine KC.seq ?_
    refine KC.region ?_
    refine KL.op (R.move rfl rfl) rfl rfl rfl ?_
    refine KL.op ((R.eql rfl rfl rfl).val (congrArg Value.bool (decide_eq_true (by decide)))) rfl rfl rfl ?_
    refine KL.nil ?_
    refine KQ.seq ?_
    refine KC.condT rfl ?_
    refine KC.seq ?_
    refine KC.seq ?_
    refine KC.region ?_
    refine KL.op (R.move rfl rfl) rfl rfl rfl ?_
    refine KL.nil ?_
    refine KQ.seq ?_
    refine KC.iteL rfl ?_ ?_
    · intro hc48
      try simp only [decide_eq_true_eq, decide_eq_false_iff_not, Bool.not_eq_true', Bool.not_eq_false', Bool.and_eq_true, Bool.or_eq_false_iff] at hc48
      have hng : Wr.neg a 64 = true := hc48
      refine KC.region ?_
      refine KL.op (R.move rfl rfl) rfl rfl rfl ?_
      refine KL.op (R.subW rfl rfl rfl) rfl rfl rfl ?_
      refine KL.op (R.assign rfl rfl) rfl rfl rfl ?_
      refine KL.nil ?_
      refine KQ.seq ?_
      refine KC.seq ?_
      refine KC.region ?_
      refine KL.op (R.move rfl rfl) rfl rfl rfl ?_
      refine KL.op (R.move rfl rfl) rfl rfl rfl ?_
      refine KL.call rfl rfl rfl rfl Tryd.call22 rfl rfl rfl (cut64_k _) ?_
      rintro _ _ ⟨rfl, rfl⟩
      refine KL.op (R.assign rfl rfl) rfl rfl rfl ?_
      refine KL.op (R.assign rfl rfl) rfl rfl rfl ?_
      refine KL.nil ?_
      refine KQ.seq ?_
      refine KC.ret ?_
      refine KQ.retThen ?_
      refine KQ.ofRet ?_
      refine KQ.fin2 Tryd.results26 rfl rfl ?_
      refine ⟨?_, rfl⟩
      unfold Wr.dvv
      first
        | (rw [if_pos hb0]; done)
        | (rw [if_neg hb0, if_pos (by decide)]; done)
        | (rw [if_neg hb0, if_neg (by decide), if_pos (by decide)]; done)
        | (rw [if_neg hb0, if_neg (by decide), if_neg (by decide), if_pos (by decide), if_pos hng]; exact Wr.tupE (Wr.cutneg64 _))
        | (rw [if_neg hb0, if_neg (by decide), if_neg (by decide), if_pos (by decide), if_neg hng]; exact Wr.tupE (Wr.cutpos64 _ (by omega)))
        | (rw [if_neg hb0, if_neg (by decide), if_neg (by decide), if_neg (by decide), if_neg hne]; exact Wr.tupE (Wr.cutneg64 _))
        | (rw [if_neg hb0, if_neg (by decide), if_neg (by decide), if_neg (by decide), if_pos heq, if_pos hq]; done)
        | (rw [if_neg hb0, if_neg (by decide), if_neg (by decide), if_neg (by decide), if_pos heq, if_neg hq]; done)
    · intro hc48
      try simp only [decide_eq_true_eq, decide_eq_false_iff_not, Bool.not_eq_true', Bool.not_eq_false', Bool.and_eq_true, Bool.or_eq_false_iff] at hc48
      have hng : ¬ Wr.neg a 64 = true := by simpa using hc48
      refine KC.skip ?_
      refine KQ.seq ?_
      refine KC.seq ?_
      refine KC.region ?_
      refine KL.op (R.move rfl rfl) rfl rfl rfl ?_
      refine KL.op (R.move rfl rfl) rfl rfl rfl ?_
      refine KL.call rfl rfl rfl rfl Tryd.call22 rfl rfl rfl (cut64_k _) ?_
      rintro _ _ ⟨rfl, rfl⟩
      refine KL.op (R.assign rfl rfl) rfl rfl rfl ?_
      refine KL.op (R.assign rfl rfl) rfl rfl rfl ?_
      refine KL.nil ?_
      refine KQ.seq ?_
      refine KC.ret ?_
      refine KQ.retThen ?_
      refine KQ.ofRet ?_
      refine KQ.fin2 Tryd.results26 rfl rfl ?_
      refine ⟨?_, rfl⟩
      unfold Wr.dvv
      first
        | (rw [if_pos hb0]; done)
        | (rw [if_neg hb0, if_pos (by decide)]; done)
        | (rw [if_neg hb0, if_neg (by decide), if_pos (by decide)]; done)
        | (rw [if_neg hb0, if_neg (by decide), if_neg (by decide), if_pos (by decide), if_pos hng]; exact Wr.tupE (Wr.cutneg64 _))
        | (rw [if_neg hb0, if_neg (by decide), if_neg (by decide), if_pos (by decide), if_neg hng]; exact Wr.tupE (Wr.cutpos64 _ (by omega)))
        | (rw [if_neg hb0, if_neg (by decide), if_neg (by decide), if_neg (by decide), if_neg hne]; exact Wr.tupE (Wr.cutneg64 _))
        | (rw [if_neg hb0, if_neg (by decide), if_neg (by decide), if_neg (by decide), if_pos heq, if_pos hq]; done)
        | (rw [if_neg hb0, if_neg (by decide), if_neg (by decide), if_neg (by decide), if_pos heq, if_neg hq]; done)

set_option maxRecDepth 100000 in
set_option maxHeartbeats 4000000 in
theorem Div64_3 {H : Heap} (a b : Nat) (ha : a < 18446744073709551616) (hb : b < 18446744073709551616) : Ct Tryd.prog 26 [.int .i64 3, .int .u64 (a : Nat), .int .u64 (b : Nat), .int .i64 64] H (fun u H' => u = .tuple #[.int .u64 (Wr.dvv 3 a b 64).1, .int .u8 (Wr.dvv 3 a b 64).2] ∧ H = H') := by
  refine Ct.mk Tryd.func26 rfl Tryd.ntmps26 rfl ?_
  intro W0 hW0
  have o0 : Old H H := Old.refl H
  refine KC.seq ?_
  refine KC.region ?_
  refine KL.op (R.assign rfl rfl) rfl rfl rfl ?_
  refine KL.op (R.assign rfl rfl) rfl rfl rfl ?_
  refine KL.nil ?_
  refine KQ.seq ?_
  refine KC.seq ?_
  refine KC.seq ?_
  refine KC.region ?_
  refine KL.op (R.move rfl rfl) rfl rfl rfl ?_
  refine KL.op (R.eql rfl rfl rfl) rfl rfl rfl ?_
  refine KL.nil ?_
  refine KQ.seq ?_
  refine KC.iteL rfl ?_ ?_
  · intro hc17
    try simp only [decide_eq_true_eq, decide_eq_false_iff_not, Bool.not_eq_true', Bool.not_eq_false', Bool.and_eq_true, Bool.or_eq_false_iff] at hc17
    have hb0 : b = 0 := by omega
    refine KC.seq ?_
    refine KC.region ?_
    refine KL.op (R.assign rfl rfl) rfl rfl rfl ?_
    refine KL.op (R.assign rfl rfl) rfl rfl rfl ?_
    refine KL.nil ?_
    refine KQ.seq ?_
    refine KC.ret ?_
    refine KQ.retThen ?_
    refine KQ.ofRet ?_
    refine KQ.fin2 Tryd.results26 rfl rfl ?_
    refine ⟨?_, rfl⟩
    unfold Wr.dvv
    first
      | (rw [if_pos hb0]; done)
      | (rw [if_neg hb0, if_pos (by decide)]; done)
      | (rw [if_neg hb0, if_neg (by decide), if_pos (by decide)]; done)
      | (rw [if_neg hb0, if_neg (by decide), if_neg (by decide), if_pos (by decide), if_pos hng]; exact Wr.tupE (Wr.cutneg64 _))
      | (rw [if_neg hb0, if_neg (by decide), if_neg (by decide), if_pos (by decide), if_neg hng]; exact Wr.tupE (Wr.cutpos64 _ (by omega)))
      | (rw [if_neg hb0, if_neg (by decide), if_neg (by decide), if_neg (by decide), if_neg hne]; exact Wr.tupE (Wr.cutneg64 _))
      | (rw [if_neg hb0, if_neg (by decide), if_neg (by decide), if_neg (by decide), if_pos heq, if_pos hq]; done)
      | (rw [if_neg hb0, if_neg (by decide), if_neg (by decide), if_neg (by decide), if_pos heq, if_neg hq]; done)
  · intro hc17
    try simp only [decide_eq_true_eq, decide_eq_false_iff_not, Bool.not_eq_true', Bool.not_eq_false', Bool.and_eq_true, Bool.or_eq_false_iff] at hc17
    have hb0 : ¬ b = 0 := by omega
    have hmb := Wr.mag_pos hb0 (show b < 2 ^ 64 by rw [Wr.e64]; omega)
    have hma := Wr.mag_lt (show a < 2 ^ 64 by rw [Wr.e64]; omega) (.inr (Nat.two_pow_pos _))
    rw [Wr.e64] at hma
    have hqd := Nat.div_le_self (Wr.mag a 64) (Wr.mag b 64)
    have hrd := Nat.mod_le (Wr.mag a 64) (Wr.mag b 64)
    refine KC.skip ?_
    refine KQ.seq ?_
    refine KC.seq ?_
    refine KC.seq ?_
    refine KC.region ?_
    refine KL.op (R.move rfl rfl) rfl rfl rfl ?_
    refine KL.op ((R.eql rfl rfl rfl).val (congrArg Value.bool (decide_eq_false (by decide)))) rfl rfl rfl ?_
    refine KL.nil ?_
    refine KQ.seq ?_
    refine KC.condF rfl ?_
    refine KC.skip ?_
    refine KQ.seq ?_
    refine KC.seq ?_
    refine KC.seq ?_
    refine KC.region ?_
    refine KL.op (R.move rfl rfl) rfl rfl rfl ?_
    refine KL.op ((R.eql rfl rfl rfl).val (congrArg Value.bool (decide_eq_true (by decide)))) rfl rfl rfl ?_
    refine KL.nil ?_
    refine KQ.seq ?_
    refine KC.condT rfl ?_
    refine KC.seq ?_
    refine KC.region ?_
    refine KL.op (R.move rfl rfl) rfl rfl rfl ?_
    refine KL.op (R.move rfl rfl) rfl rfl rfl ?_
    refine KL.op ((R.rem rfl rfl rfl (Int.natCast_nonneg _) (by omega)).val (congrArg (Value.int .u64) (Int.natCast_emod a b).symm)) rfl rfl rfl ?_
    refine KL.op (R.assign rfl rfl) rfl rfl rfl ?_
    refine KL.op (R.assign rfl rfl) rfl rfl rfl ?_
    refine KL.nil ?_
    refine KQ.seq ?_
    refine KC.ret ?_
    refine KQ.retThen ?_
    refine KQ.ofRet ?_
    refine KQ.fin2 Tryd.results26 rfl rfl ?_
    refine ⟨?_, rfl⟩
    unfold Wr.dvv
    first
      | (rw [if_pos hb0]; done)
      | (rw [if_neg hb0, if_pos (by decide)]; done)
      | (rw [if_neg hb0, if_neg (by decide), if_pos (by decide)]; done)
      | (rw [if_neg hb0, if_neg (by decide), if_neg (by decide), if_pos (by decide), if_pos hng]; exact Wr.tupE (Wr.cutneg64 _))
      | (rw [if_neg hb0, if_neg (by decide), if_neg (by decide), if_pos (by decide), if_neg hng]; exact Wr.tupE (Wr.cutpos64 _ (by omega)))
      | (rw [if_neg hb0, if_neg (by decide), if_neg (by decide), if_neg (by decide), if_neg hne]; exact Wr.tupE (Wr.cutneg64 _))
      | (rw [if_neg hb0, if_neg (by decide), if_neg (by decide), if_neg (by decide), if_pos heq, if_pos hq]; done)
      | (rw [if_neg hb0, if_neg (by decide), if_neg (by decide), if_neg (by decide), if_pos heq, if_neg hq]; done)

end Go.Proofs.YtkkhjaiaicmpaaaDoor
