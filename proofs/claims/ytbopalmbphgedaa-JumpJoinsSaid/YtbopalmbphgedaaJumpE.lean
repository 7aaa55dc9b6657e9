/- The documents jumps, walked. No condition. -/
import Derived.Test.YtbopalmbphgedaaJumpD
namespace Go.Proofs.Ytbopalmbphgedaa
open Go Go.RowKit
set_option linter.unusedVariables false
set_option linter.unusedSimpArgs false
set_option linter.unnecessarySimpa false

def isOpn (x : Int) : Prop := x = 2 ∨ x = 3 ∨ x = 4
instance (x : Int) : Decidable (isOpn x) := by unfold isOpn; infer_instance
/-- by how much an instruction moves the depth -/
def dl (x : Int) : Int := if isOpn x then 1 else if x = 11 then -1 else 0
/-- where what is open d times from i on is closed; fuel: how many instructions are left -/
def rEnd (body : List Ins) : Nat → Nat → Int → Int
  | 0, _, _ => -1
  | m + 1, i, d => if d + dl (body.getD i default).op = 0 then i else rEnd body m (i + 1) (d + dl (body.getD i default).op)
def rElses (body : List Ins) : Nat → Nat → Int → List Int
  | 0, _, _ => []
  | m + 1, i, d => if (body.getD i default).op = 5 ∧ d + dl (body.getD i default).op = 0 then (i : Int) :: rElses body m (i + 1) (d + dl (body.getD i default).op) else rElses body m (i + 1) (d + dl (body.getD i default).op)
def rOwner (body : List Ins) : Nat → Int → Int
  | 0, _ => -1
  | k + 1, d => if isOpn (body.getD k default).op then (if d = 0 then k else rOwner body k (d - 1)) else if (body.getD k default).op = 11 then rOwner body k (d + 1) else rOwner body k d
/-- an else at i that may not stand there -/
def badElse (body : List Ins) (i : Nat) : Prop := (body.getD i default).op = 5 ∧ (rOwner body i 0 < 0 ∨ (body.getD (rOwner body i 0).toNat default).op ≠ 4 ∨ 0 < (rElses body (i - ((rOwner body i 0).toNat + 1)) ((rOwner body i 0).toNat + 1) 0).length)
instance (body : List Ins) (i : Nat) : Decidable (badElse body i) := by unfold badElse; infer_instance
def rCl (body : List Ins) : Nat → Nat → Int → Int → Bool × Int
  | 0, _, d, m => (decide (d = 0), m)
  | f + 1, i, d, m => if badElse body i ∨ d + dl (body.getD i default).op < 0 then (false, 0) else rCl body f (i + 1) (d + dl (body.getD i default).op) (max m (d + dl (body.getD i default).op))
theorem rOwner_range (body : List Ins) : ∀ (k : Nat) (d : Int), -1 ≤ rOwner body k d ∧ rOwner body k d < k := by
  intro k
  induction k with
  | zero => intro d; simp [rOwner]
  | succ k ih =>
    intro d
    unfold rOwner
    split
    · split
      · omega
      · have := ih (d - 1); omega
    · split
      · have := ih (d + 1); omega
      · have := ih d; omega
theorem rElses_len (body : List Ins) : ∀ (m i : Nat) (d : Int), (rElses body m i d).length ≤ m := by
  intro m
  induction m with
  | zero => intro i d; simp [rElses]
  | succ m ih =>
    intro i d
    unfold rElses
    split
    · have := ih (i + 1) (d + dl (body.getD i default).op); simp only [List.length_cons]; omega
    · have := ih (i + 1) (d + dl (body.getD i default).op); omega
theorem dl_range (x : Int) : -1 ≤ dl x ∧ dl x ≤ 1 := by
  unfold dl
  repeat' split
  all_goals omega

set_option maxRecDepth 100000 in
set_option maxHeartbeats 4000000 in
theorem rOpens_any {H : Heap} (x : Int) : Ct Try.prog 16 [.int .u8 x] H (fun u H' => u = .bool (decide (isOpn x)) ∧ H = H') := by
  refine Ct.mk Try.func16 rfl Try.ntmps16 rfl ?_
  intro W0 hW0
  have o0 : Old H H := Old.refl H
  refine KC.seq ?_
  refine KC.region ?_
  refine KL.op (R.assign rfl rfl) rfl rfl rfl ?_
  refine KL.nil ?_
  refine KQ.seq ?_
  refine KC.seq ?_
  refine KC.region ?_
  refine KL.op (R.move rfl rfl) rfl rfl rfl ?_
  refine KL.op (R.eql rfl rfl rfl) rfl rfl rfl ?_
  refine KL.op (R.move rfl rfl) rfl rfl rfl ?_
  refine KL.case (d := 5) rfl ?_ ?_
  · intro hg5
    try simp only [decide_eq_true_eq, decide_eq_false_iff_not, Bool.not_eq_true', Bool.not_eq_false', Bool.and_eq_true, Bool.or_eq_false_iff] at hg5
    refine KL.skip rfl rfl rfl ?_
    refine KL.skip rfl rfl rfl ?_
    refine KL.op (R.pick rfl rfl rfl) rfl rfl rfl ?_
    refine KL.op (R.move rfl rfl) rfl rfl rfl ?_
    refine KL.skip rfl rfl rfl ?_
    refine KL.skip rfl rfl rfl ?_
    refine KL.op (R.pick rfl rfl rfl) rfl rfl rfl ?_
    refine KL.op (R.assign rfl rfl) rfl rfl rfl ?_
    refine KL.nil ?_
    refine KQ.seq ?_
    refine KC.ret ?_
    refine KQ.ofRet ?_
    refine KQ.fin1 Try.results16 rfl ?_
    refine ⟨congrArg Value.bool ?_, rfl⟩
    unfold isOpn
    first
      | (symm; exact decide_eq_true (by omega))
      | (rw [show decide (x = 4) = decide (x = 2 ∨ x = 3 ∨ x = 4) from decide_eq_decide.2 (by omega)])
  · intro hg5
    try simp only [decide_eq_true_eq, decide_eq_false_iff_not, Bool.not_eq_true', Bool.not_eq_false', Bool.and_eq_true, Bool.or_eq_false_iff] at hg5
    refine KL.op (R.move rfl rfl) rfl rfl rfl ?_
    refine KL.op (R.eql rfl rfl rfl) rfl rfl rfl ?_
    refine KL.op (R.pick rfl rfl rfl) rfl rfl rfl ?_
    refine KL.op (R.move rfl rfl) rfl rfl rfl ?_
    refine KL.case (d := 9) rfl ?_ ?_
    · intro hg9
      try simp only [decide_eq_true_eq, decide_eq_false_iff_not, Bool.not_eq_true', Bool.not_eq_false', Bool.and_eq_true, Bool.or_eq_false_iff] at hg9
      refine KL.skip rfl rfl rfl ?_
      refine KL.skip rfl rfl rfl ?_
      refine KL.op (R.pick rfl rfl rfl) rfl rfl rfl ?_
      refine KL.op (R.assign rfl rfl) rfl rfl rfl ?_
      refine KL.nil ?_
      refine KQ.seq ?_
      refine KC.ret ?_
      refine KQ.ofRet ?_
      refine KQ.fin1 Try.results16 rfl ?_
      refine ⟨congrArg Value.bool ?_, rfl⟩
      unfold isOpn
      first
        | (symm; exact decide_eq_true (by omega))
        | (rw [show decide (x = 4) = decide (x = 2 ∨ x = 3 ∨ x = 4) from decide_eq_decide.2 (by omega)])
    · intro hg9
      try simp only [decide_eq_true_eq, decide_eq_false_iff_not, Bool.not_eq_true', Bool.not_eq_false', Bool.and_eq_true, Bool.or_eq_false_iff] at hg9
      refine KL.op (R.move rfl rfl) rfl rfl rfl ?_
      refine KL.op (R.eql rfl rfl rfl) rfl rfl rfl ?_
      refine KL.op (R.pick rfl rfl rfl) rfl rfl rfl ?_
      refine KL.op (R.assign rfl rfl) rfl rfl rfl ?_
      refine KL.nil ?_
      refine KQ.seq ?_
      refine KC.ret ?_
      refine KQ.ofRet ?_
      refine KQ.fin1 Try.results16 rfl ?_
      refine ⟨congrArg Value.bool ?_, rfl⟩
      unfold isOpn
      first
        | (symm; exact decide_eq_true (by omega))
        | (rw [show decide (x = 4) = decide (x = 2 ∨ x = 3 ∨ x = 4) from decide_eq_decide.2 (by omega)])

set_option maxRecDepth 100000 in
set_option maxHeartbeats 4000000 in
theorem rEnd_any {H : Heap} (v : Value) (l : List Ins) (hs : Sl 5 EIns H v l) (hl : l.length ≤ 1000000) (i : Nat) (hi : i ≤ l.length) : Ct Try.prog 17 [v, .int .i64 (i : Nat)] H (fun u H' => u = .int .i64 (rEnd l (l.length - i) i 1) ∧ H = H') := by
  refine Ct.mk Try.func17 rfl Try.ntmps17 rfl ?_
  intro W0 hW0
  have o0 : Old H H := Old.refl H
  refine KC.seq ?_
  refine KC.region ?_
  refine KL.op (R.assign rfl rfl) rfl rfl rfl ?_
  refine KL.nil ?_
  refine KQ.seq ?_
  refine KC.seq ?_
  refine KC.region ?_
  refine KL.op (R.assign rfl rfl) rfl rfl rfl ?_
  refine KL.nil ?_
  refine KQ.seq ?_
  refine KC.seq ?_
  refine KC.seq ?_
  refine KC.region ?_
  refine KL.op (R.move rfl rfl) rfl rfl rfl ?_
  refine KL.op (R.assign rfl rfl) rfl rfl rfl ?_
  refine KL.nil ?_
  refine KQ.seq ?_
  refine KC.block ?_
  refine KC.loopD (κ := Nat × Int) [8, 9, 10, 11, 14, 15, 16, 17, 18, 19, 20, 21, 5, 22, 23, 24, 25, 26, 27, 28, 29, 30, 31, 32, 4, 12, 13, 6] (fun k => [(6, .int .i64 (k.1 : Nat)), (5, .int .i64 k.2)]) (fun k Hl => k.1 ≤ l.length ∧ -(k.1 : Int) ≤ k.2 ∧ k.2 ≤ 1 + (k.1 : Int) ∧ rEnd l (l.length - k.1) k.1 k.2 = rEnd l (l.length - i) i 1 ∧ H = Hl) (fun k => l.length - k.1) (i, 1) ?_ ?_ ?_
  · exact (Sub.cons rfl (Sub.cons rfl (Ext.sub (Ext.refl _ _))))
  · exact ⟨hi, by show -(i : Int) ≤ 1; omega, by show (1 : Int) ≤ 1 + i; omega, rfl, rfl⟩
  · rintro ⟨k, d⟩ H1 ⟨hk, hd1, hd2, he, rfl⟩
    dsimp only
    dsimp only at hk hd1 hd2 he
    refine KC.seq ?_
    refine KC.seq ?_
    refine KC.region ?_
    refine KL.op (R.move rfl rfl) rfl rfl rfl ?_
    refine KL.op (R.move rfl rfl) rfl rfl rfl ?_
    refine KL.op ((by first | exact R.lenS rfl Try.underlying27 rfl (by first | exact hs | assumption) | exact R.len (ty := 0) rfl Try.underlying27 rfl)) rfl rfl rfl ?_
    refine KL.op (R.lss rfl rfl rfl) rfl rfl rfl ?_
    refine KL.nil ?_
    refine KQ.seq ?_
    refine KC.iteL rfl ?_ ?_
    · intro hc11
      try simp only [decide_eq_true_eq, decide_eq_false_iff_not, Bool.not_eq_true', Bool.not_eq_false', Bool.and_eq_true, Bool.or_eq_false_iff] at hc11
      have hu : l.length - k = (l.length - (k + 1)) + 1 := (by omega)
      refine KC.skip ?_
      refine KQ.seq ?_
      refine KC.seq ?_
      refine KC.block ?_
      refine KC.seq ?_
      refine KC.seq ?_
      refine KC.region ?_
      refine KL.op (R.move rfl rfl) rfl rfl rfl ?_
      refine KL.op (R.move rfl rfl) rfl rfl rfl ?_
      refine KL.op (R.index (j := k) rfl Try.underlying27 sz37 rfl rfl hs (by first | rfl | omega) (by omega)) rfl rfl rfl ?_
      refine KL.op ((by first | exact R.fieldAddr rfl Try.underlying37 rfl rfl sz5 rfl | exact R.fieldAddrP rfl Try.underlying37 rfl rfl sz5 rfl)) rfl rfl rfl ?_
      refine KL.op (R.load rfl Try.underlying5 rfl rfl (by first | exact (hs.insOp k (by omega)).1 | assumption)) rfl rfl rfl ?_
      refine KL.call rfl rfl rfl rfl Try.call16 rfl rfl rfl (rOpens_any _) ?_
      rintro _ _ ⟨rfl, rfl⟩
      refine KL.nil ?_
      refine KQ.seq ?_
      refine KC.iteL rfl ?_ ?_
      · intro hc19
        try simp only [decide_eq_true_eq, decide_eq_false_iff_not, Bool.not_eq_true', Bool.not_eq_false', Bool.and_eq_true, Bool.or_eq_false_iff] at hc19
        refine KC.region ?_
        refine KL.op (R.move rfl rfl) rfl rfl rfl ?_
        refine KL.op (R.add rfl rfl rfl (by dsimp only [InR]; omega)) rfl rfl rfl ?_
        refine KL.op (R.assign rfl rfl) rfl rfl rfl ?_
        refine KL.nil ?_
        refine KQ.seq ?_
        refine KC.seq ?_
        refine KC.seq ?_
        refine KC.region ?_
        refine KL.op (R.move rfl rfl) rfl rfl rfl ?_
        refine KL.op (R.move rfl rfl) rfl rfl rfl ?_
        refine KL.op (R.index (j := k) rfl Try.underlying27 sz37 rfl rfl hs (by first | rfl | omega) (by omega)) rfl rfl rfl ?_
        refine KL.op ((by first | exact R.fieldAddr rfl Try.underlying37 rfl rfl sz5 rfl | exact R.fieldAddrP rfl Try.underlying37 rfl rfl sz5 rfl)) rfl rfl rfl ?_
        refine KL.op (R.load rfl Try.underlying5 rfl rfl (by first | exact (hs.insOp k (by omega)).1 | assumption)) rfl rfl rfl ?_
        refine KL.op (R.eql rfl rfl rfl) rfl rfl rfl ?_
        refine KL.nil ?_
        refine KQ.seq ?_
        refine KC.iteL rfl ?_ ?_
        · intro hc27
          try simp only [decide_eq_true_eq, decide_eq_false_iff_not, Bool.not_eq_true', Bool.not_eq_false', Bool.and_eq_true, Bool.or_eq_false_iff] at hc27
          exfalso; unfold isOpn at hc19; omega
        · intro hc27
          try simp only [decide_eq_true_eq, decide_eq_false_iff_not, Bool.not_eq_true', Bool.not_eq_false', Bool.and_eq_true, Bool.or_eq_false_iff] at hc27
          have hdl : dl (l.getD k default).op = 1 := (by unfold dl; first | rw [if_pos hc19] | rw [if_neg hc19, if_pos hc27] | rw [if_neg hc19, if_neg hc27])
          refine KC.skip ?_
          refine KQ.seq ?_
          refine KC.seq ?_
          refine KC.region ?_
          refine KL.op (R.move rfl rfl) rfl rfl rfl ?_
          refine KL.op (R.eql rfl rfl rfl) rfl rfl rfl ?_
          refine KL.nil ?_
          refine KQ.seq ?_
          refine KC.iteL rfl ?_ ?_
          · intro hc31
            try simp only [decide_eq_true_eq, decide_eq_false_iff_not, Bool.not_eq_true', Bool.not_eq_false', Bool.and_eq_true, Bool.or_eq_false_iff] at hc31
            refine KC.seq ?_
            refine KC.region ?_
            refine KL.op (R.move rfl rfl) rfl rfl rfl ?_
            refine KL.op (R.assign rfl rfl) rfl rfl rfl ?_
            refine KL.nil ?_
            refine KQ.seq ?_
            refine KC.ret ?_
            refine KQ.retBlock ?_
            refine KQ.retThen ?_
            refine KQ.retThen ?_
            refine KQ.retBlock ?_
            refine KQ.retThen ?_
            refine KQ.ofRet ?_
            refine KQ.fin1 Try.results17 rfl ?_
            first
              | (subst ek
                 rw [Nat.sub_self] at he
                 exact ⟨by rw [← he]; rfl, rfl⟩)
              | (refine ⟨congrArg (Value.int .i64) ?_, rfl⟩
                 rw [← he, hu, rEnd, hdl, if_pos (by omega)])
          · intro hc31
            try simp only [decide_eq_true_eq, decide_eq_false_iff_not, Bool.not_eq_true', Bool.not_eq_false', Bool.and_eq_true, Bool.or_eq_false_iff] at hc31
            refine KC.skip ?_
            refine KQ.normBlock ?_
            refine KQ.seq ?_
            refine KC.region ?_
            refine KL.op (R.move rfl rfl) rfl rfl rfl ?_
            refine KL.op (R.add rfl rfl rfl (by dsimp only [InR]; omega)) rfl rfl rfl ?_
            refine KL.op (R.assign rfl rfl) rfl rfl rfl ?_
            refine KL.nil ?_
            refine KQ.again ((k + 1, d + 1)) ?_ ?_ ?_
            · exact (Sub.cons rfl (Sub.cons rfl (Ext.sub (by repeat (first | exact Ext.refl _ _ | refine Ext.put rfl ?_ | refine Ext.drop rfl ?_)))))
            · show l.length - (k + 1) < l.length - k; omega
            · exact by
                refine ⟨by show k + 1 ≤ _; omega, by dsimp only; omega, by dsimp only; omega, ?_, rfl⟩
                rw [← he, hu, rEnd, hdl, if_neg (by omega)]
                try first | rfl | rw [Int.sub_eq_add_neg] | rw [Int.add_zero]
      · intro hc19
        try simp only [decide_eq_true_eq, decide_eq_false_iff_not, Bool.not_eq_true', Bool.not_eq_false', Bool.and_eq_true, Bool.or_eq_false_iff] at hc19
        refine KC.skip ?_
        refine KQ.seq ?_
        refine KC.seq ?_
        refine KC.seq ?_
        refine KC.region ?_
        refine KL.op (R.move rfl rfl) rfl rfl rfl ?_
        refine KL.op (R.move rfl rfl) rfl rfl rfl ?_
        refine KL.op (R.index (j := k) rfl Try.underlying27 sz37 rfl rfl hs (by first | rfl | omega) (by omega)) rfl rfl rfl ?_
        refine KL.op ((by first | exact R.fieldAddr rfl Try.underlying37 rfl rfl sz5 rfl | exact R.fieldAddrP rfl Try.underlying37 rfl rfl sz5 rfl)) rfl rfl rfl ?_
        refine KL.op (R.load rfl Try.underlying5 rfl rfl (by first | exact (hs.insOp k (by omega)).1 | assumption)) rfl rfl rfl ?_
        refine KL.op (R.eql rfl rfl rfl) rfl rfl rfl ?_
        refine KL.nil ?_
        refine KQ.seq ?_
        refine KC.iteL rfl ?_ ?_
        · intro hc27
          try simp only [decide_eq_true_eq, decide_eq_false_iff_not, Bool.not_eq_true', Bool.not_eq_false', Bool.and_eq_true, Bool.or_eq_false_iff] at hc27
          have hdl : dl (l.getD k default).op = -1 := (by unfold dl; first | rw [if_pos hc19] | rw [if_neg hc19, if_pos hc27] | rw [if_neg hc19, if_neg hc27])
          refine KC.region ?_
          refine KL.op (R.move rfl rfl) rfl rfl rfl ?_
          refine KL.op (R.sub rfl rfl rfl (by dsimp only [InR]; omega)) rfl rfl rfl ?_
          refine KL.op (R.assign rfl rfl) rfl rfl rfl ?_
          refine KL.nil ?_
          refine KQ.seq ?_
          refine KC.seq ?_
          refine KC.region ?_
          refine KL.op (R.move rfl rfl) rfl rfl rfl ?_
          refine KL.op (R.eql rfl rfl rfl) rfl rfl rfl ?_
          refine KL.nil ?_
          refine KQ.seq ?_
          refine KC.iteL rfl ?_ ?_
          · intro hc31
            try simp only [decide_eq_true_eq, decide_eq_false_iff_not, Bool.not_eq_true', Bool.not_eq_false', Bool.and_eq_true, Bool.or_eq_false_iff] at hc31
            refine KC.seq ?_
            refine KC.region ?_
            refine KL.op (R.move rfl rfl) rfl rfl rfl ?_
            refine KL.op (R.assign rfl rfl) rfl rfl rfl ?_
            refine KL.nil ?_
            refine KQ.seq ?_
            refine KC.ret ?_
            refine KQ.retBlock ?_
            refine KQ.retThen ?_
            refine KQ.retThen ?_
            refine KQ.retBlock ?_
            refine KQ.retThen ?_
            refine KQ.ofRet ?_
            refine KQ.fin1 Try.results17 rfl ?_
            first
              | (subst ek
                 rw [Nat.sub_self] at he
                 exact ⟨by rw [← he]; rfl, rfl⟩)
              | (refine ⟨congrArg (Value.int .i64) ?_, rfl⟩
                 rw [← he, hu, rEnd, hdl, if_pos (by omega)])
          · intro hc31
            try simp only [decide_eq_true_eq, decide_eq_false_iff_not, Bool.not_eq_true', Bool.not_eq_false', Bool.and_eq_true, Bool.or_eq_false_iff] at hc31
            refine KC.skip ?_
            refine KQ.normBlock ?_
            refine KQ.seq ?_
            refine KC.region ?_
            refine KL.op (R.move rfl rfl) rfl rfl rfl ?_
            refine KL.op (R.add rfl rfl rfl (by dsimp only [InR]; omega)) rfl rfl rfl ?_
            refine KL.op (R.assign rfl rfl) rfl rfl rfl ?_
            refine KL.nil ?_
            refine KQ.again ((k + 1, d - 1)) ?_ ?_ ?_
            · exact (Sub.cons rfl (Sub.cons rfl (Ext.sub (by repeat (first | exact Ext.refl _ _ | refine Ext.put rfl ?_ | refine Ext.drop rfl ?_)))))
            · show l.length - (k + 1) < l.length - k; omega
            · exact by
                refine ⟨by show k + 1 ≤ _; omega, by dsimp only; omega, by dsimp only; omega, ?_, rfl⟩
                rw [← he, hu, rEnd, hdl, if_neg (by omega)]
                try first | rfl | rw [Int.sub_eq_add_neg] | rw [Int.add_zero]
        · intro hc27
          try simp only [decide_eq_true_eq, decide_eq_false_iff_not, Bool.not_eq_true', Bool.not_eq_false', Bool.and_eq_true, Bool.or_eq_false_iff] at hc27
          have hdl : dl (l.getD k default).op = 0 := (by unfold dl; first | rw [if_pos hc19] | rw [if_neg hc19, if_pos hc27] | rw [if_neg hc19, if_neg hc27])
          refine KC.skip ?_
          refine KQ.seq ?_
          refine KC.seq ?_
          refine KC.region ?_
          refine KL.op (R.move rfl rfl) rfl rfl rfl ?_
          refine KL.op (R.eql rfl rfl rfl) rfl rfl rfl ?_
          refine KL.nil ?_
          refine KQ.seq ?_
          refine KC.iteL rfl ?_ ?_
          · intro hc31
            try simp only [decide_eq_true_eq, decide_eq_false_iff_not, Bool.not_eq_true', Bool.not_eq_false', Bool.and_eq_true, Bool.or_eq_false_iff] at hc31
            refine KC.seq ?_
            refine KC.region ?_
            refine KL.op (R.move rfl rfl) rfl rfl rfl ?_
            refine KL.op (R.assign rfl rfl) rfl rfl rfl ?_
            refine KL.nil ?_
            refine KQ.seq ?_
            refine KC.ret ?_
            refine KQ.retBlock ?_
            refine KQ.retThen ?_
            refine KQ.retThen ?_
            refine KQ.retBlock ?_
            refine KQ.retThen ?_
            refine KQ.ofRet ?_
            refine KQ.fin1 Try.results17 rfl ?_
            first
              | (subst ek
                 rw [Nat.sub_self] at he
                 exact ⟨by rw [← he]; rfl, rfl⟩)
              | (refine ⟨congrArg (Value.int .i64) ?_, rfl⟩
                 rw [← he, hu, rEnd, hdl, if_pos (by omega)])
          · intro hc31
            try simp only [decide_eq_true_eq, decide_eq_false_iff_not, Bool.not_eq_true', Bool.not_eq_false', Bool.and_eq_true, Bool.or_eq_false_iff] at hc31
            refine KC.skip ?_
            refine KQ.normBlock ?_
            refine KQ.seq ?_
            refine KC.region ?_
            refine KL.op (R.move rfl rfl) rfl rfl rfl ?_
            refine KL.op (R.add rfl rfl rfl (by dsimp only [InR]; omega)) rfl rfl rfl ?_
            refine KL.op (R.assign rfl rfl) rfl rfl rfl ?_
            refine KL.nil ?_
            refine KQ.again ((k + 1, d)) ?_ ?_ ?_
            · exact (Sub.cons rfl (Sub.cons rfl (Ext.sub (by repeat (first | exact Ext.refl _ _ | refine Ext.put rfl ?_ | refine Ext.drop rfl ?_)))))
            · show l.length - (k + 1) < l.length - k; omega
            · exact by
                refine ⟨by show k + 1 ≤ _; omega, by dsimp only; omega, by dsimp only; omega, ?_, rfl⟩
                rw [← he, hu, rEnd, hdl, if_neg (by omega)]
                try first | rfl | rw [Int.sub_eq_add_neg] | rw [Int.add_zero]
    · intro hc11
      try simp only [decide_eq_true_eq, decide_eq_false_iff_not, Bool.not_eq_true', Bool.not_eq_false', Bool.and_eq_true, Bool.or_eq_false_iff] at hc11
      have ek : k = l.length := (by omega)
      refine KC.exit ?_
      refine KQ.exitThen ?_
      refine KQ.exitThen ?_
      refine KQ.hit ?_
      refine KQ.seq ?_
      refine KC.seq ?_
      refine KC.region ?_
      refine KL.op (R.assign rfl rfl) rfl rfl rfl ?_
      refine KL.nil ?_
      refine KQ.seq ?_
      refine KC.ret ?_
      refine KQ.ofRet ?_
      refine KQ.fin1 Try.results17 rfl ?_
      first
        | (subst ek
           rw [Nat.sub_self] at he
           exact ⟨by rw [← he]; rfl, rfl⟩)
        | (refine ⟨congrArg (Value.int .i64) ?_, rfl⟩
           rw [← he, hu, rEnd, hdl, if_pos (by omega)])

set_option maxRecDepth 100000 in
set_option maxHeartbeats 4000000 in
theorem rOwner_any {H : Heap} (v : Value) (l : List Ins) (hs : Sl 5 EIns H v l) (hl : l.length ≤ 1000000) (i : Nat) (hi : i ≤ l.length) : Ct Try.prog 19 [v, .int .i64 (i : Nat)] H (fun u H' => u = .int .i64 (rOwner l i 0) ∧ H = H') := by
  refine Ct.mk Try.func19 rfl Try.ntmps19 rfl ?_
  intro W0 hW0
  have o0 : Old H H := Old.refl H
  refine KC.seq ?_
  refine KC.region ?_
  refine KL.op (R.assign rfl rfl) rfl rfl rfl ?_
  refine KL.nil ?_
  refine KQ.seq ?_
  refine KC.seq ?_
  refine KC.region ?_
  refine KL.op (R.assign rfl rfl) rfl rfl rfl ?_
  refine KL.nil ?_
  refine KQ.seq ?_
  refine KC.seq ?_
  refine KC.seq ?_
  refine KC.region ?_
  refine KL.op (R.move rfl rfl) rfl rfl rfl ?_
  refine KL.op (R.sub rfl rfl rfl (by dsimp only [InR]; omega)) rfl rfl rfl ?_
  refine KL.op (R.assign rfl rfl) rfl rfl rfl ?_
  refine KL.nil ?_
  refine KQ.seq ?_
  refine KC.block ?_
  refine KC.loopD (κ := Nat × Int) [9, 10, 13, 14, 15, 16, 17, 18, 19, 20, 5, 21, 22, 23, 24, 25, 26, 27, 28, 29, 4, 30, 31, 11, 12, 6] (fun k => [(6, .int .i64 ((k.1 : Int) - 1)), (5, .int .i64 k.2)]) (fun k Hl => k.1 ≤ i ∧ 0 ≤ k.2 ∧ k.2 ≤ (i : Int) - k.1 ∧ rOwner l k.1 k.2 = rOwner l i 0 ∧ H = Hl) (fun k => k.1) (i, 0) ?_ ?_ ?_
  · exact (Sub.cons rfl (Sub.cons rfl (Ext.sub (Ext.refl _ _))))
  · exact ⟨Nat.le_refl _, by show (0 : Int) ≤ 0; omega, by show (0 : Int) ≤ (i : Int) - i; omega, rfl, rfl⟩
  · rintro ⟨k0, d⟩ H1 ⟨hk, hd1, hd2, he, rfl⟩
    dsimp only
    dsimp only at hk hd1 hd2 he
    refine KC.seq ?_
    refine KC.seq ?_
    refine KC.region ?_
    refine KL.op (R.move rfl rfl) rfl rfl rfl ?_
    refine KL.op (R.geq rfl rfl rfl) rfl rfl rfl ?_
    refine KL.nil ?_
    refine KQ.seq ?_
    refine KC.iteL rfl ?_ ?_
    · intro hc10
      try simp only [decide_eq_true_eq, decide_eq_false_iff_not, Bool.not_eq_true', Bool.not_eq_false', Bool.and_eq_true, Bool.or_eq_false_iff] at hc10
      obtain ⟨k, rfl⟩ : ∃ k, k0 = k + 1 := ⟨k0 - 1, by omega⟩
      refine KC.skip ?_
      refine KQ.seq ?_
      refine KC.seq ?_
      refine KC.block ?_
      refine KC.seq ?_
      refine KC.seq ?_
      refine KC.region ?_
      refine KL.op (R.move rfl rfl) rfl rfl rfl ?_
      refine KL.op (R.move rfl rfl) rfl rfl rfl ?_
      refine KL.op (R.index (j := k) rfl Try.underlying27 sz37 rfl rfl hs (by first | rfl | omega) (by omega)) rfl rfl rfl ?_
      refine KL.op ((by first | exact R.fieldAddr rfl Try.underlying37 rfl rfl sz5 rfl | exact R.fieldAddrP rfl Try.underlying37 rfl rfl sz5 rfl)) rfl rfl rfl ?_
      refine KL.op (R.load rfl Try.underlying5 rfl rfl (by first | exact (hs.insOp k (by omega)).1 | assumption)) rfl rfl rfl ?_
      refine KL.op (R.eql rfl rfl rfl) rfl rfl rfl ?_
      refine KL.nil ?_
      refine KQ.seq ?_
      refine KC.iteL rfl ?_ ?_
      · intro hc18
        try simp only [decide_eq_true_eq, decide_eq_false_iff_not, Bool.not_eq_true', Bool.not_eq_false', Bool.and_eq_true, Bool.or_eq_false_iff] at hc18
        refine KC.region ?_
        refine KL.op (R.move rfl rfl) rfl rfl rfl ?_
        refine KL.op (R.add rfl rfl rfl (by dsimp only [InR]; omega)) rfl rfl rfl ?_
        refine KL.op (R.assign rfl rfl) rfl rfl rfl ?_
        refine KL.nil ?_
        refine KQ.seq ?_
        refine KC.seq ?_
        refine KC.region ?_
        refine KL.op (R.move rfl rfl) rfl rfl rfl ?_
        refine KL.op (R.move rfl rfl) rfl rfl rfl ?_
        refine KL.op (R.index (j := k) rfl Try.underlying27 sz37 rfl rfl hs (by first | rfl | omega) (by omega)) rfl rfl rfl ?_
        refine KL.op ((by first | exact R.fieldAddr rfl Try.underlying37 rfl rfl sz5 rfl | exact R.fieldAddrP rfl Try.underlying37 rfl rfl sz5 rfl)) rfl rfl rfl ?_
        refine KL.op (R.load rfl Try.underlying5 rfl rfl (by first | exact (hs.insOp k (by omega)).1 | assumption)) rfl rfl rfl ?_
        refine KL.call rfl rfl rfl rfl Try.call16 rfl rfl rfl (rOpens_any _) ?_
        rintro _ _ ⟨rfl, rfl⟩
        refine KL.nil ?_
        refine KQ.seq ?_
        refine KC.iteL rfl ?_ ?_
        · intro hc26
          try simp only [decide_eq_true_eq, decide_eq_false_iff_not, Bool.not_eq_true', Bool.not_eq_false', Bool.and_eq_true, Bool.or_eq_false_iff] at hc26
          exfalso; unfold isOpn at hc26; omega
        · intro hc26
          try simp only [decide_eq_true_eq, decide_eq_false_iff_not, Bool.not_eq_true', Bool.not_eq_false', Bool.and_eq_true, Bool.or_eq_false_iff] at hc26
          refine KC.skip ?_
          refine KQ.normBlock ?_
          refine KQ.seq ?_
          refine KC.region ?_
          refine KL.op (R.move rfl rfl) rfl rfl rfl ?_
          refine KL.op ((R.sub rfl rfl rfl (by dsimp only [InR]; omega)).val (congrArg (Value.int .i64) (show ((k + 1 : Nat) : Int) - 1 - 1 = (k : Int) - 1 by omega))) rfl rfl rfl ?_
          refine KL.op (R.assign rfl rfl) rfl rfl rfl ?_
          refine KL.nil ?_
          refine KQ.again ((k, d + 1)) ?_ ?_ ?_
          · exact (Sub.cons rfl (Sub.cons rfl (Ext.sub (by repeat (first | exact Ext.refl _ _ | refine Ext.put rfl ?_ | refine Ext.drop rfl ?_)))))
          · show k < k + 1; omega
          · exact by
              refine ⟨by show k ≤ i; omega, by dsimp only; omega, by dsimp only; omega, ?_, rfl⟩
              rw [← he, rOwner]
              first | rw [if_pos hc26, if_neg (by omega)] | rw [if_neg hc26, if_pos hc18] | rw [if_neg hc26, if_neg hc18]
      · intro hc18
        try simp only [decide_eq_true_eq, decide_eq_false_iff_not, Bool.not_eq_true', Bool.not_eq_false', Bool.and_eq_true, Bool.or_eq_false_iff] at hc18
        refine KC.skip ?_
        refine KQ.seq ?_
        refine KC.seq ?_
        refine KC.region ?_
        refine KL.op (R.move rfl rfl) rfl rfl rfl ?_
        refine KL.op (R.move rfl rfl) rfl rfl rfl ?_
        refine KL.op (R.index (j := k) rfl Try.underlying27 sz37 rfl rfl hs (by first | rfl | omega) (by omega)) rfl rfl rfl ?_
        refine KL.op ((by first | exact R.fieldAddr rfl Try.underlying37 rfl rfl sz5 rfl | exact R.fieldAddrP rfl Try.underlying37 rfl rfl sz5 rfl)) rfl rfl rfl ?_
        refine KL.op (R.load rfl Try.underlying5 rfl rfl (by first | exact (hs.insOp k (by omega)).1 | assumption)) rfl rfl rfl ?_
        refine KL.call rfl rfl rfl rfl Try.call16 rfl rfl rfl (rOpens_any _) ?_
        rintro _ _ ⟨rfl, rfl⟩
        refine KL.nil ?_
        refine KQ.seq ?_
        refine KC.iteL rfl ?_ ?_
        · intro hc26
          try simp only [decide_eq_true_eq, decide_eq_false_iff_not, Bool.not_eq_true', Bool.not_eq_false', Bool.and_eq_true, Bool.or_eq_false_iff] at hc26
          refine KC.seq ?_
          refine KC.seq ?_
          refine KC.region ?_
          refine KL.op (R.move rfl rfl) rfl rfl rfl ?_
          refine KL.op (R.eql rfl rfl rfl) rfl rfl rfl ?_
          refine KL.nil ?_
          refine KQ.seq ?_
          refine KC.iteL rfl ?_ ?_
          · intro hc28
            try simp only [decide_eq_true_eq, decide_eq_false_iff_not, Bool.not_eq_true', Bool.not_eq_false', Bool.and_eq_true, Bool.or_eq_false_iff] at hc28
            refine KC.seq ?_
            refine KC.region ?_
            refine KL.op (R.move rfl rfl) rfl rfl rfl ?_
            refine KL.op (R.assign rfl rfl) rfl rfl rfl ?_
            refine KL.nil ?_
            refine KQ.seq ?_
            refine KC.ret ?_
            refine KQ.retThen ?_
            refine KQ.retBlock ?_
            refine KQ.retThen ?_
            refine KQ.retThen ?_
            refine KQ.retBlock ?_
            refine KQ.retThen ?_
            refine KQ.ofRet ?_
            refine KQ.fin1 Try.results19 rfl ?_
            first
              | (subst ek
                 exact ⟨by rw [← he]; rfl, rfl⟩)
              | (refine ⟨congrArg (Value.int .i64) ?_, rfl⟩
                 rw [← he, rOwner, if_pos hc26, if_pos (by omega)]
                 omega)
          · intro hc28
            try simp only [decide_eq_true_eq, decide_eq_false_iff_not, Bool.not_eq_true', Bool.not_eq_false', Bool.and_eq_true, Bool.or_eq_false_iff] at hc28
            refine KC.skip ?_
            refine KQ.seq ?_
            refine KC.region ?_
            refine KL.op (R.move rfl rfl) rfl rfl rfl ?_
            refine KL.op (R.sub rfl rfl rfl (by dsimp only [InR]; omega)) rfl rfl rfl ?_
            refine KL.op (R.assign rfl rfl) rfl rfl rfl ?_
            refine KL.nil ?_
            refine KQ.normBlock ?_
            refine KQ.seq ?_
            refine KC.region ?_
            refine KL.op (R.move rfl rfl) rfl rfl rfl ?_
            refine KL.op ((R.sub rfl rfl rfl (by dsimp only [InR]; omega)).val (congrArg (Value.int .i64) (show ((k + 1 : Nat) : Int) - 1 - 1 = (k : Int) - 1 by omega))) rfl rfl rfl ?_
            refine KL.op (R.assign rfl rfl) rfl rfl rfl ?_
            refine KL.nil ?_
            refine KQ.again ((k, d - 1)) ?_ ?_ ?_
            · exact (Sub.cons rfl (Sub.cons rfl (Ext.sub (by repeat (first | exact Ext.refl _ _ | refine Ext.put rfl ?_ | refine Ext.drop rfl ?_)))))
            · show k < k + 1; omega
            · exact by
                refine ⟨by show k ≤ i; omega, by dsimp only; omega, by dsimp only; omega, ?_, rfl⟩
                rw [← he, rOwner]
                first | rw [if_pos hc26, if_neg (by omega)] | rw [if_neg hc26, if_pos hc18] | rw [if_neg hc26, if_neg hc18]
        · intro hc26
          try simp only [decide_eq_true_eq, decide_eq_false_iff_not, Bool.not_eq_true', Bool.not_eq_false', Bool.and_eq_true, Bool.or_eq_false_iff] at hc26
          refine KC.skip ?_
          refine KQ.normBlock ?_
          refine KQ.seq ?_
          refine KC.region ?_
          refine KL.op (R.move rfl rfl) rfl rfl rfl ?_
          refine KL.op ((R.sub rfl rfl rfl (by dsimp only [InR]; omega)).val (congrArg (Value.int .i64) (show ((k + 1 : Nat) : Int) - 1 - 1 = (k : Int) - 1 by omega))) rfl rfl rfl ?_
          refine KL.op (R.assign rfl rfl) rfl rfl rfl ?_
          refine KL.nil ?_
          refine KQ.again ((k, d)) ?_ ?_ ?_
          · exact (Sub.cons rfl (Sub.cons rfl (Ext.sub (by repeat (first | exact Ext.refl _ _ | refine Ext.put rfl ?_ | refine Ext.drop rfl ?_)))))
          · show k < k + 1; omega
          · exact by
              refine ⟨by show k ≤ i; omega, by dsimp only; omega, by dsimp only; omega, ?_, rfl⟩
              rw [← he, rOwner]
              first | rw [if_pos hc26, if_neg (by omega)] | rw [if_neg hc26, if_pos hc18] | rw [if_neg hc26, if_neg hc18]
    · intro hc10
      try simp only [decide_eq_true_eq, decide_eq_false_iff_not, Bool.not_eq_true', Bool.not_eq_false', Bool.and_eq_true, Bool.or_eq_false_iff] at hc10
      have ek : k0 = 0 := (by omega)
      refine KC.exit ?_
      refine KQ.exitThen ?_
      refine KQ.exitThen ?_
      refine KQ.hit ?_
      refine KQ.seq ?_
      refine KC.seq ?_
      refine KC.region ?_
      refine KL.op (R.assign rfl rfl) rfl rfl rfl ?_
      refine KL.nil ?_
      refine KQ.seq ?_
      refine KC.ret ?_
      refine KQ.ofRet ?_
      refine KQ.fin1 Try.results19 rfl ?_
      first
        | (subst ek
           exact ⟨by rw [← he]; rfl, rfl⟩)
        | (refine ⟨congrArg (Value.int .i64) ?_, rfl⟩
           rw [← he, rOwner, if_pos hc26, if_pos (by omega)]
           omega)

set_option maxRecDepth 100000 in
set_option maxHeartbeats 4000000 in
theorem rElses_any {H : Heap} (v : Value) (l : List Ins) (hs : Sl 5 EIns H v l) (hl : l.length ≤ 1000000) (o e : Nat) (ho : o < e) (he : e ≤ l.length) : Ct Try.prog 18 [v, .int .i64 (o : Nat), .int .i64 (e : Nat)] H (fun u H' => Own 1 (EInt .i64) 3 #[] H.size H' u (rElses l (e - (o + 1)) (o + 1) 0) ∧ Old H H') := by
  refine Ct.mk Try.func18 rfl Try.ntmps18 rfl ?_
  intro W0 hW0
  have o0 : Old H H := Old.refl H
  refine KC.seq ?_
  refine KC.region ?_
  refine KL.op (R.assign rfl rfl) rfl rfl rfl ?_
  refine KL.nil ?_
  refine KQ.seq ?_
  refine KC.seq ?_
  refine KC.region ?_
  refine KL.op (R.assign rfl rfl) rfl rfl rfl ?_
  refine KL.nil ?_
  refine KQ.seq ?_
  refine KC.seq ?_
  refine KC.region ?_
  refine KL.op (R.assign rfl rfl) rfl rfl rfl ?_
  refine KL.nil ?_
  refine KQ.seq ?_
  refine KC.seq ?_
  refine KC.seq ?_
  refine KC.region ?_
  refine KL.op (R.move rfl rfl) rfl rfl rfl ?_
  refine KL.op ((R.add rfl rfl rfl (by dsimp only [InR]; omega)).val (congrArg (Value.int .i64) (show (o : Int) + 1 = ((o + 1 : Nat) : Int) by omega))) rfl rfl rfl ?_
  refine KL.op (R.assign rfl rfl) rfl rfl rfl ?_
  refine KL.nil ?_
  refine KQ.seq ?_
  refine KC.block ?_
  refine KC.loopD (κ := Nat × Int × Value × List Int) [12, 13, 14, 17, 18, 19, 20, 21, 22, 23, 24, 8, 25, 26, 27, 28, 29, 30, 31, 32, 33, 34, 35, 36, 37, 38, 39, 40, 41, 42, 43, 44, 45, 46, 7, 15, 16, 9] (fun k => [(9, .int .i64 (k.1 : Nat)), (8, .int .i64 k.2.1), (7, k.2.2.1)]) (fun k Hl => k.1 ≤ e ∧ o + 1 ≤ k.1 ∧ -(k.1 : Int) ≤ k.2.1 ∧ k.2.1 ≤ (k.1 : Int) ∧ k.2.2.2.length + (o + 1) ≤ k.1 ∧ k.2.2.2 ++ rElses l (e - k.1) k.1 k.2.1 = rElses l (e - (o + 1)) (o + 1) 0 ∧ Own 1 (EInt .i64) 3 #[] H.size Hl k.2.2.1 k.2.2.2 ∧ Old H Hl) (fun k => e - k.1) (o + 1, 0, .slice none 0 0, []) ?_ ?_ ?_
  · exact (Sub.cons rfl (Sub.cons rfl (Sub.cons rfl (Ext.sub (Ext.refl _ _)))))
  · exact ⟨by show o + 1 ≤ e; omega, Nat.le_refl _, by show -((o + 1 : Nat) : Int) ≤ 0; omega, by show (0 : Int) ≤ ((o + 1 : Nat) : Int); omega, by show 0 + (o + 1) ≤ o + 1; omega, rfl, Own.nil _ _ _ _ _ _, o0⟩
  · rintro ⟨k, d, w, acc⟩ H1 ⟨hk, hk2, hd1, hd2, hac, hx, wv, o0⟩
    have zl_H1 := o0.1
    dsimp only
    dsimp only at hk hk2 hd1 hd2 hac hx wv o0
    refine KC.seq ?_
    refine KC.seq ?_
    refine KC.region ?_
    refine KL.op (R.move rfl rfl) rfl rfl rfl ?_
    refine KL.op (R.move rfl rfl) rfl rfl rfl ?_
    refine KL.op (R.lss rfl rfl rfl) rfl rfl rfl ?_
    refine KL.nil ?_
    refine KQ.seq ?_
    refine KC.iteL rfl ?_ ?_
    · intro hc14
      try simp only [decide_eq_true_eq, decide_eq_false_iff_not, Bool.not_eq_true', Bool.not_eq_false', Bool.and_eq_true, Bool.or_eq_false_iff] at hc14
      have hu : e - k = (e - (k + 1)) + 1 := (by omega)
      refine KC.skip ?_
      refine KQ.seq ?_
      refine KC.seq ?_
      refine KC.block ?_
      refine KC.seq ?_
      refine KC.seq ?_
      refine KC.region ?_
      refine KL.op (R.move rfl rfl) rfl rfl rfl ?_
      refine KL.op (R.move rfl rfl) rfl rfl rfl ?_
      refine KL.op (R.index (j := k) rfl Try.underlying27 sz37 rfl rfl (hs.old o0) (by first | rfl | omega) (by omega)) rfl rfl rfl ?_
      refine KL.op ((by first | exact R.fieldAddr rfl Try.underlying37 rfl rfl sz5 rfl | exact R.fieldAddrP rfl Try.underlying37 rfl rfl sz5 rfl)) rfl rfl rfl ?_
      refine KL.op (R.load rfl Try.underlying5 rfl rfl (by first | exact ((hs.old o0).insOp k (by omega)).1 | assumption)) rfl rfl rfl ?_
      refine KL.call rfl rfl rfl rfl Try.call16 rfl rfl rfl (rOpens_any _) ?_
      rintro _ _ ⟨rfl, rfl⟩
      refine KL.nil ?_
      refine KQ.seq ?_
      refine KC.iteL rfl ?_ ?_
      · intro hc22
        try simp only [decide_eq_true_eq, decide_eq_false_iff_not, Bool.not_eq_true', Bool.not_eq_false', Bool.and_eq_true, Bool.or_eq_false_iff] at hc22
        refine KC.region ?_
        refine KL.op (R.move rfl rfl) rfl rfl rfl ?_
        refine KL.op (R.add rfl rfl rfl (by dsimp only [InR]; omega)) rfl rfl rfl ?_
        refine KL.op (R.assign rfl rfl) rfl rfl rfl ?_
        refine KL.nil ?_
        refine KQ.seq ?_
        refine KC.seq ?_
        refine KC.seq ?_
        refine KC.region ?_
        refine KL.op (R.move rfl rfl) rfl rfl rfl ?_
        refine KL.op (R.move rfl rfl) rfl rfl rfl ?_
        refine KL.op (R.index (j := k) rfl Try.underlying27 sz37 rfl rfl (hs.old o0) (by first | rfl | omega) (by omega)) rfl rfl rfl ?_
        refine KL.op ((by first | exact R.fieldAddr rfl Try.underlying37 rfl rfl sz5 rfl | exact R.fieldAddrP rfl Try.underlying37 rfl rfl sz5 rfl)) rfl rfl rfl ?_
        refine KL.op (R.load rfl Try.underlying5 rfl rfl (by first | exact ((hs.old o0).insOp k (by omega)).1 | assumption)) rfl rfl rfl ?_
        refine KL.op (R.eql rfl rfl rfl) rfl rfl rfl ?_
        refine KL.nil ?_
        refine KQ.seq ?_
        refine KC.iteL rfl ?_ ?_
        · intro hc30
          try simp only [decide_eq_true_eq, decide_eq_false_iff_not, Bool.not_eq_true', Bool.not_eq_false', Bool.and_eq_true, Bool.or_eq_false_iff] at hc30
          exfalso; unfold isOpn at hc22; omega
        · intro hc30
          try simp only [decide_eq_true_eq, decide_eq_false_iff_not, Bool.not_eq_true', Bool.not_eq_false', Bool.and_eq_true, Bool.or_eq_false_iff] at hc30
          have hdl : dl (l.getD k default).op = 1 := (by unfold dl; first | rw [if_pos hc22] | rw [if_neg hc22, if_pos hc30] | rw [if_neg hc22, if_neg hc30])
          refine KC.skip ?_
          refine KQ.seq ?_
          refine KC.seq ?_
          refine KC.region ?_
          refine KL.op (R.move rfl rfl) rfl rfl rfl ?_
          refine KL.op (R.move rfl rfl) rfl rfl rfl ?_
          refine KL.op (R.index (j := k) rfl Try.underlying27 sz37 rfl rfl (hs.old o0) (by first | rfl | omega) (by omega)) rfl rfl rfl ?_
          refine KL.op ((by first | exact R.fieldAddr rfl Try.underlying37 rfl rfl sz5 rfl | exact R.fieldAddrP rfl Try.underlying37 rfl rfl sz5 rfl)) rfl rfl rfl ?_
          refine KL.op (R.load rfl Try.underlying5 rfl rfl (by first | exact ((hs.old o0).insOp k (by omega)).1 | assumption)) rfl rfl rfl ?_
          refine KL.op (R.eql rfl rfl rfl) rfl rfl rfl ?_
          refine KL.op (R.move rfl rfl) rfl rfl rfl ?_
          refine KL.case (d := 39) rfl ?_ ?_
          · intro hg39
            try simp only [decide_eq_true_eq, decide_eq_false_iff_not, Bool.not_eq_true', Bool.not_eq_false', Bool.and_eq_true, Bool.or_eq_false_iff] at hg39
            refine KL.op (R.move rfl rfl) rfl rfl rfl ?_
            refine KL.op (R.eql rfl rfl rfl) rfl rfl rfl ?_
            refine KL.op (R.pick rfl rfl rfl) rfl rfl rfl ?_
            refine KL.nil ?_
            refine KQ.seq ?_
            refine KC.iteL rfl ?_ ?_
            · intro hc42
              try simp only [decide_eq_true_eq, decide_eq_false_iff_not, Bool.not_eq_true', Bool.not_eq_false', Bool.and_eq_true, Bool.or_eq_false_iff] at hc42
              refine KC.region ?_
              refine KL.op (R.move rfl rfl) rfl rfl rfl ?_
              refine KL.op (R.move rfl rfl) rfl rfl rfl ?_
              refine KL.opM (M.lit rfl Try.underlying40 zs3 (by decide) rfl rfl rfl) rfl rfl rfl ?_
              rintro _ H2 ⟨rfl, n2⟩
              have z2 := n2.2.1
              have o0 := o0.trans n2.1
              have wv := wv.old n2.1
              have b2 := n2.2.2
              have sn : Sl 1 (EInt .i64) H2 _ [(k : Int)] := Sl.lits n2 rfl (by simp) (by simp [InR]; omega)
              have lt3 := wv.lt
              refine KL.opM (M.append rfl Try.underlying40 inf3 rfl (by decide) rfl rfl wv (by exact sn) (fun _ _ h _ => h) (by omega) (by simp; omega) (by unfold maxLen; simp; omega)) rfl rfl rfl ?_
              rintro vn H3 ⟨w3, g3⟩
              have ob3 := g3.oldB wv (by omega)
              have o0 := o0.then ob3 (by omega)
              have z3 := ob3.1
              have wv := w3
              refine KL.op (R.assign rfl rfl) rfl rfl rfl ?_
              refine KL.nil ?_
              refine KQ.normBlock ?_
              refine KQ.seq ?_
              refine KC.region ?_
              refine KL.op (R.move rfl rfl) rfl rfl rfl ?_
              refine KL.op (R.add rfl rfl rfl (by dsimp only [InR]; omega)) rfl rfl rfl ?_
              refine KL.op (R.assign rfl rfl) rfl rfl rfl ?_
              refine KL.nil ?_
              refine KQ.again ((k + 1, d + 1, vn, acc ++ [(k : Int)])) ?_ ?_ ?_
              · exact (Sub.cons rfl (Sub.cons rfl (Sub.cons rfl (Ext.sub (by repeat (first | exact Ext.refl _ _ | refine Ext.put rfl ?_ | refine Ext.drop rfl ?_))))))
              · show e - (k + 1) < e - k; omega
              · exact by
                  refine ⟨by show k + 1 ≤ _; omega, by dsimp only; omega, by dsimp only; omega, by dsimp only; omega, by dsimp only; first | omega | (rw [List.length_append, List.length_singleton]; omega), ?_, wv, o0⟩
                  dsimp only
                  rw [← hx, hu, rElses, hdl]
                  first
                    | (rw [if_pos (by omega), List.append_assoc]; first | rfl | (rw [Int.sub_eq_add_neg]; rfl) | (rw [Int.add_zero]; rfl))
                    | (rw [if_neg (by omega)]; try first | rfl | (rw [Int.sub_eq_add_neg]) | (rw [Int.add_zero]))
            · intro hc42
              try simp only [decide_eq_true_eq, decide_eq_false_iff_not, Bool.not_eq_true', Bool.not_eq_false', Bool.and_eq_true, Bool.or_eq_false_iff] at hc42
              refine KC.skip ?_
              refine KQ.normBlock ?_
              refine KQ.seq ?_
              refine KC.region ?_
              refine KL.op (R.move rfl rfl) rfl rfl rfl ?_
              refine KL.op (R.add rfl rfl rfl (by dsimp only [InR]; omega)) rfl rfl rfl ?_
              refine KL.op (R.assign rfl rfl) rfl rfl rfl ?_
              refine KL.nil ?_
              refine KQ.again ((k + 1, d + 1, w, acc)) ?_ ?_ ?_
              · exact (Sub.cons rfl (Sub.cons rfl (Sub.cons rfl (Ext.sub (by repeat (first | exact Ext.refl _ _ | refine Ext.put rfl ?_ | refine Ext.drop rfl ?_))))))
              · show e - (k + 1) < e - k; omega
              · exact by
                  refine ⟨by show k + 1 ≤ _; omega, by dsimp only; omega, by dsimp only; omega, by dsimp only; omega, by dsimp only; first | omega | (rw [List.length_append, List.length_singleton]; omega), ?_, wv, o0⟩
                  dsimp only
                  rw [← hx, hu, rElses, hdl]
                  first
                    | (rw [if_pos (by omega), List.append_assoc]; first | rfl | (rw [Int.sub_eq_add_neg]; rfl) | (rw [Int.add_zero]; rfl))
                    | (rw [if_neg (by omega)]; try first | rfl | (rw [Int.sub_eq_add_neg]) | (rw [Int.add_zero]))
          · intro hg39
            try simp only [decide_eq_true_eq, decide_eq_false_iff_not, Bool.not_eq_true', Bool.not_eq_false', Bool.and_eq_true, Bool.or_eq_false_iff] at hg39
            refine KL.skip rfl rfl rfl ?_
            refine KL.skip rfl rfl rfl ?_
            refine KL.op (R.pick rfl rfl rfl) rfl rfl rfl ?_
            refine KL.nil ?_
            refine KQ.seq ?_
            refine KC.condF rfl ?_
            refine KC.skip ?_
            refine KQ.normBlock ?_
            refine KQ.seq ?_
            refine KC.region ?_
            refine KL.op (R.move rfl rfl) rfl rfl rfl ?_
            refine KL.op (R.add rfl rfl rfl (by dsimp only [InR]; omega)) rfl rfl rfl ?_
            refine KL.op (R.assign rfl rfl) rfl rfl rfl ?_
            refine KL.nil ?_
            refine KQ.again ((k + 1, d + 1, w, acc)) ?_ ?_ ?_
            · exact (Sub.cons rfl (Sub.cons rfl (Sub.cons rfl (Ext.sub (by repeat (first | exact Ext.refl _ _ | refine Ext.put rfl ?_ | refine Ext.drop rfl ?_))))))
            · show e - (k + 1) < e - k; omega
            · exact by
                refine ⟨by show k + 1 ≤ _; omega, by dsimp only; omega, by dsimp only; omega, by dsimp only; omega, by dsimp only; first | omega | (rw [List.length_append, List.length_singleton]; omega), ?_, wv, o0⟩
                dsimp only
                rw [← hx, hu, rElses, hdl]
                first
                  | (rw [if_pos (by omega), List.append_assoc]; first | rfl | (rw [Int.sub_eq_add_neg]; rfl) | (rw [Int.add_zero]; rfl))
                  | (rw [if_neg (by omega)]; try first | rfl | (rw [Int.sub_eq_add_neg]) | (rw [Int.add_zero]))
      · intro hc22
        try simp only [decide_eq_true_eq, decide_eq_false_iff_not, Bool.not_eq_true', Bool.not_eq_false', Bool.and_eq_true, Bool.or_eq_false_iff] at hc22
        refine KC.skip ?_
        refine KQ.seq ?_
        refine KC.seq ?_
        refine KC.seq ?_
        refine KC.region ?_
        refine KL.op (R.move rfl rfl) rfl rfl rfl ?_
        refine KL.op (R.move rfl rfl) rfl rfl rfl ?_
        refine KL.op (R.index (j := k) rfl Try.underlying27 sz37 rfl rfl (hs.old o0) (by first | rfl | omega) (by omega)) rfl rfl rfl ?_
        refine KL.op ((by first | exact R.fieldAddr rfl Try.underlying37 rfl rfl sz5 rfl | exact R.fieldAddrP rfl Try.underlying37 rfl rfl sz5 rfl)) rfl rfl rfl ?_
        refine KL.op (R.load rfl Try.underlying5 rfl rfl (by first | exact ((hs.old o0).insOp k (by omega)).1 | assumption)) rfl rfl rfl ?_
        refine KL.op (R.eql rfl rfl rfl) rfl rfl rfl ?_
        refine KL.nil ?_
        refine KQ.seq ?_
        refine KC.iteL rfl ?_ ?_
        · intro hc30
          try simp only [decide_eq_true_eq, decide_eq_false_iff_not, Bool.not_eq_true', Bool.not_eq_false', Bool.and_eq_true, Bool.or_eq_false_iff] at hc30
          have hdl : dl (l.getD k default).op = -1 := (by unfold dl; first | rw [if_pos hc22] | rw [if_neg hc22, if_pos hc30] | rw [if_neg hc22, if_neg hc30])
          refine KC.region ?_
          refine KL.op (R.move rfl rfl) rfl rfl rfl ?_
          refine KL.op (R.sub rfl rfl rfl (by dsimp only [InR]; omega)) rfl rfl rfl ?_
          refine KL.op (R.assign rfl rfl) rfl rfl rfl ?_
          refine KL.nil ?_
          refine KQ.seq ?_
          refine KC.seq ?_
          refine KC.region ?_
          refine KL.op (R.move rfl rfl) rfl rfl rfl ?_
          refine KL.op (R.move rfl rfl) rfl rfl rfl ?_
          refine KL.op (R.index (j := k) rfl Try.underlying27 sz37 rfl rfl (hs.old o0) (by first | rfl | omega) (by omega)) rfl rfl rfl ?_
          refine KL.op ((by first | exact R.fieldAddr rfl Try.underlying37 rfl rfl sz5 rfl | exact R.fieldAddrP rfl Try.underlying37 rfl rfl sz5 rfl)) rfl rfl rfl ?_
          refine KL.op (R.load rfl Try.underlying5 rfl rfl (by first | exact ((hs.old o0).insOp k (by omega)).1 | assumption)) rfl rfl rfl ?_
          refine KL.op (R.eql rfl rfl rfl) rfl rfl rfl ?_
          refine KL.op (R.move rfl rfl) rfl rfl rfl ?_
          refine KL.case (d := 39) rfl ?_ ?_
          · intro hg39
            try simp only [decide_eq_true_eq, decide_eq_false_iff_not, Bool.not_eq_true', Bool.not_eq_false', Bool.and_eq_true, Bool.or_eq_false_iff] at hg39
            refine KL.op (R.move rfl rfl) rfl rfl rfl ?_
            refine KL.op (R.eql rfl rfl rfl) rfl rfl rfl ?_
            refine KL.op (R.pick rfl rfl rfl) rfl rfl rfl ?_
            refine KL.nil ?_
            refine KQ.seq ?_
            refine KC.iteL rfl ?_ ?_
            · intro hc42
              try simp only [decide_eq_true_eq, decide_eq_false_iff_not, Bool.not_eq_true', Bool.not_eq_false', Bool.and_eq_true, Bool.or_eq_false_iff] at hc42
              refine KC.region ?_
              refine KL.op (R.move rfl rfl) rfl rfl rfl ?_
              refine KL.op (R.move rfl rfl) rfl rfl rfl ?_
              refine KL.opM (M.lit rfl Try.underlying40 zs3 (by decide) rfl rfl rfl) rfl rfl rfl ?_
              rintro _ H4 ⟨rfl, n4⟩
              have z4 := n4.2.1
              have o0 := o0.trans n4.1
              have wv := wv.old n4.1
              have b4 := n4.2.2
              have sn : Sl 1 (EInt .i64) H4 _ [(k : Int)] := Sl.lits n4 rfl (by simp) (by simp [InR]; omega)
              have lt5 := wv.lt
              refine KL.opM (M.append rfl Try.underlying40 inf3 rfl (by decide) rfl rfl wv (by exact sn) (fun _ _ h _ => h) (by omega) (by simp; omega) (by unfold maxLen; simp; omega)) rfl rfl rfl ?_
              rintro vn H5 ⟨w5, g5⟩
              have ob5 := g5.oldB wv (by omega)
              have o0 := o0.then ob5 (by omega)
              have z5 := ob5.1
              have wv := w5
              refine KL.op (R.assign rfl rfl) rfl rfl rfl ?_
              refine KL.nil ?_
              refine KQ.normBlock ?_
              refine KQ.seq ?_
              refine KC.region ?_
              refine KL.op (R.move rfl rfl) rfl rfl rfl ?_
              refine KL.op (R.add rfl rfl rfl (by dsimp only [InR]; omega)) rfl rfl rfl ?_
              refine KL.op (R.assign rfl rfl) rfl rfl rfl ?_
              refine KL.nil ?_
              refine KQ.again ((k + 1, d - 1, vn, acc ++ [(k : Int)])) ?_ ?_ ?_
              · exact (Sub.cons rfl (Sub.cons rfl (Sub.cons rfl (Ext.sub (by repeat (first | exact Ext.refl _ _ | refine Ext.put rfl ?_ | refine Ext.drop rfl ?_))))))
              · show e - (k + 1) < e - k; omega
              · exact by
                  refine ⟨by show k + 1 ≤ _; omega, by dsimp only; omega, by dsimp only; omega, by dsimp only; omega, by dsimp only; first | omega | (rw [List.length_append, List.length_singleton]; omega), ?_, wv, o0⟩
                  dsimp only
                  rw [← hx, hu, rElses, hdl]
                  first
                    | (rw [if_pos (by omega), List.append_assoc]; first | rfl | (rw [Int.sub_eq_add_neg]; rfl) | (rw [Int.add_zero]; rfl))
                    | (rw [if_neg (by omega)]; try first | rfl | (rw [Int.sub_eq_add_neg]) | (rw [Int.add_zero]))
            · intro hc42
              try simp only [decide_eq_true_eq, decide_eq_false_iff_not, Bool.not_eq_true', Bool.not_eq_false', Bool.and_eq_true, Bool.or_eq_false_iff] at hc42
              refine KC.skip ?_
              refine KQ.normBlock ?_
              refine KQ.seq ?_
              refine KC.region ?_
              refine KL.op (R.move rfl rfl) rfl rfl rfl ?_
              refine KL.op (R.add rfl rfl rfl (by dsimp only [InR]; omega)) rfl rfl rfl ?_
              refine KL.op (R.assign rfl rfl) rfl rfl rfl ?_
              refine KL.nil ?_
              refine KQ.again ((k + 1, d - 1, w, acc)) ?_ ?_ ?_
              · exact (Sub.cons rfl (Sub.cons rfl (Sub.cons rfl (Ext.sub (by repeat (first | exact Ext.refl _ _ | refine Ext.put rfl ?_ | refine Ext.drop rfl ?_))))))
              · show e - (k + 1) < e - k; omega
              · exact by
                  refine ⟨by show k + 1 ≤ _; omega, by dsimp only; omega, by dsimp only; omega, by dsimp only; omega, by dsimp only; first | omega | (rw [List.length_append, List.length_singleton]; omega), ?_, wv, o0⟩
                  dsimp only
                  rw [← hx, hu, rElses, hdl]
                  first
                    | (rw [if_pos (by omega), List.append_assoc]; first | rfl | (rw [Int.sub_eq_add_neg]; rfl) | (rw [Int.add_zero]; rfl))
                    | (rw [if_neg (by omega)]; try first | rfl | (rw [Int.sub_eq_add_neg]) | (rw [Int.add_zero]))
          · intro hg39
            try simp only [decide_eq_true_eq, decide_eq_false_iff_not, Bool.not_eq_true', Bool.not_eq_false', Bool.and_eq_true, Bool.or_eq_false_iff] at hg39
            refine KL.skip rfl rfl rfl ?_
            refine KL.skip rfl rfl rfl ?_
            refine KL.op (R.pick rfl rfl rfl) rfl rfl rfl ?_
            refine KL.nil ?_
            refine KQ.seq ?_
            refine KC.condF rfl ?_
            refine KC.skip ?_
            refine KQ.normBlock ?_
            refine KQ.seq ?_
            refine KC.region ?_
            refine KL.op (R.move rfl rfl) rfl rfl rfl ?_
            refine KL.op (R.add rfl rfl rfl (by dsimp only [InR]; omega)) rfl rfl rfl ?_
            refine KL.op (R.assign rfl rfl) rfl rfl rfl ?_
            refine KL.nil ?_
            refine KQ.again ((k + 1, d - 1, w, acc)) ?_ ?_ ?_
            · exact (Sub.cons rfl (Sub.cons rfl (Sub.cons rfl (Ext.sub (by repeat (first | exact Ext.refl _ _ | refine Ext.put rfl ?_ | refine Ext.drop rfl ?_))))))
            · show e - (k + 1) < e - k; omega
            · exact by
                refine ⟨by show k + 1 ≤ _; omega, by dsimp only; omega, by dsimp only; omega, by dsimp only; omega, by dsimp only; first | omega | (rw [List.length_append, List.length_singleton]; omega), ?_, wv, o0⟩
                dsimp only
                rw [← hx, hu, rElses, hdl]
                first
                  | (rw [if_pos (by omega), List.append_assoc]; first | rfl | (rw [Int.sub_eq_add_neg]; rfl) | (rw [Int.add_zero]; rfl))
                  | (rw [if_neg (by omega)]; try first | rfl | (rw [Int.sub_eq_add_neg]) | (rw [Int.add_zero]))
        · intro hc30
          try simp only [decide_eq_true_eq, decide_eq_false_iff_not, Bool.not_eq_true', Bool.not_eq_false', Bool.and_eq_true, Bool.or_eq_false_iff] at hc30
          have hdl : dl (l.getD k default).op = 0 := (by unfold dl; first | rw [if_pos hc22] | rw [if_neg hc22, if_pos hc30] | rw [if_neg hc22, if_neg hc30])
          refine KC.skip ?_
          refine KQ.seq ?_
          refine KC.seq ?_
          refine KC.region ?_
          refine KL.op (R.move rfl rfl) rfl rfl rfl ?_
          refine KL.op (R.move rfl rfl) rfl rfl rfl ?_
          refine KL.op (R.index (j := k) rfl Try.underlying27 sz37 rfl rfl (hs.old o0) (by first | rfl | omega) (by omega)) rfl rfl rfl ?_
          refine KL.op ((by first | exact R.fieldAddr rfl Try.underlying37 rfl rfl sz5 rfl | exact R.fieldAddrP rfl Try.underlying37 rfl rfl sz5 rfl)) rfl rfl rfl ?_
          refine KL.op (R.load rfl Try.underlying5 rfl rfl (by first | exact ((hs.old o0).insOp k (by omega)).1 | assumption)) rfl rfl rfl ?_
          refine KL.op (R.eql rfl rfl rfl) rfl rfl rfl ?_
          refine KL.op (R.move rfl rfl) rfl rfl rfl ?_
          refine KL.case (d := 39) rfl ?_ ?_
          · intro hg39
            try simp only [decide_eq_true_eq, decide_eq_false_iff_not, Bool.not_eq_true', Bool.not_eq_false', Bool.and_eq_true, Bool.or_eq_false_iff] at hg39
            refine KL.op (R.move rfl rfl) rfl rfl rfl ?_
            refine KL.op (R.eql rfl rfl rfl) rfl rfl rfl ?_
            refine KL.op (R.pick rfl rfl rfl) rfl rfl rfl ?_
            refine KL.nil ?_
            refine KQ.seq ?_
            refine KC.iteL rfl ?_ ?_
            · intro hc42
              try simp only [decide_eq_true_eq, decide_eq_false_iff_not, Bool.not_eq_true', Bool.not_eq_false', Bool.and_eq_true, Bool.or_eq_false_iff] at hc42
              refine KC.region ?_
              refine KL.op (R.move rfl rfl) rfl rfl rfl ?_
              refine KL.op (R.move rfl rfl) rfl rfl rfl ?_
              refine KL.opM (M.lit rfl Try.underlying40 zs3 (by decide) rfl rfl rfl) rfl rfl rfl ?_
              rintro _ H6 ⟨rfl, n6⟩
              have z6 := n6.2.1
              have o0 := o0.trans n6.1
              have wv := wv.old n6.1
              have b6 := n6.2.2
              have sn : Sl 1 (EInt .i64) H6 _ [(k : Int)] := Sl.lits n6 rfl (by simp) (by simp [InR]; omega)
              have lt7 := wv.lt
              refine KL.opM (M.append rfl Try.underlying40 inf3 rfl (by decide) rfl rfl wv (by exact sn) (fun _ _ h _ => h) (by omega) (by simp; omega) (by unfold maxLen; simp; omega)) rfl rfl rfl ?_
              rintro vn H7 ⟨w7, g7⟩
              have ob7 := g7.oldB wv (by omega)
              have o0 := o0.then ob7 (by omega)
              have z7 := ob7.1
              have wv := w7
              refine KL.op (R.assign rfl rfl) rfl rfl rfl ?_
              refine KL.nil ?_
              refine KQ.normBlock ?_
              refine KQ.seq ?_
              refine KC.region ?_
              refine KL.op (R.move rfl rfl) rfl rfl rfl ?_
              refine KL.op (R.add rfl rfl rfl (by dsimp only [InR]; omega)) rfl rfl rfl ?_
              refine KL.op (R.assign rfl rfl) rfl rfl rfl ?_
              refine KL.nil ?_
              refine KQ.again ((k + 1, d, vn, acc ++ [(k : Int)])) ?_ ?_ ?_
              · exact (Sub.cons rfl (Sub.cons rfl (Sub.cons rfl (Ext.sub (by repeat (first | exact Ext.refl _ _ | refine Ext.put rfl ?_ | refine Ext.drop rfl ?_))))))
              · show e - (k + 1) < e - k; omega
              · exact by
                  refine ⟨by show k + 1 ≤ _; omega, by dsimp only; omega, by dsimp only; omega, by dsimp only; omega, by dsimp only; first | omega | (rw [List.length_append, List.length_singleton]; omega), ?_, wv, o0⟩
                  dsimp only
                  rw [← hx, hu, rElses, hdl]
                  first
                    | (rw [if_pos (by omega), List.append_assoc]; first | rfl | (rw [Int.sub_eq_add_neg]; rfl) | (rw [Int.add_zero]; rfl))
                    | (rw [if_neg (by omega)]; try first | rfl | (rw [Int.sub_eq_add_neg]) | (rw [Int.add_zero]))
            · intro hc42
              try simp only [decide_eq_true_eq, decide_eq_false_iff_not, Bool.not_eq_true', Bool.not_eq_false', Bool.and_eq_true, Bool.or_eq_false_iff] at hc42
              refine KC.skip ?_
              refine KQ.normBlock ?_
              refine KQ.seq ?_
              refine KC.region ?_
              refine KL.op (R.move rfl rfl) rfl rfl rfl ?_
              refine KL.op (R.add rfl rfl rfl (by dsimp only [InR]; omega)) rfl rfl rfl ?_
              refine KL.op (R.assign rfl rfl) rfl rfl rfl ?_
              refine KL.nil ?_
              refine KQ.again ((k + 1, d, w, acc)) ?_ ?_ ?_
              · exact (Sub.cons rfl (Sub.cons rfl (Sub.cons rfl (Ext.sub (by repeat (first | exact Ext.refl _ _ | refine Ext.put rfl ?_ | refine Ext.drop rfl ?_))))))
              · show e - (k + 1) < e - k; omega
              · exact by
                  refine ⟨by show k + 1 ≤ _; omega, by dsimp only; omega, by dsimp only; omega, by dsimp only; omega, by dsimp only; first | omega | (rw [List.length_append, List.length_singleton]; omega), ?_, wv, o0⟩
                  dsimp only
                  rw [← hx, hu, rElses, hdl]
                  first
                    | (rw [if_pos (by omega), List.append_assoc]; first | rfl | (rw [Int.sub_eq_add_neg]; rfl) | (rw [Int.add_zero]; rfl))
                    | (rw [if_neg (by omega)]; try first | rfl | (rw [Int.sub_eq_add_neg]) | (rw [Int.add_zero]))
          · intro hg39
            try simp only [decide_eq_true_eq, decide_eq_false_iff_not, Bool.not_eq_true', Bool.not_eq_false', Bool.and_eq_true, Bool.or_eq_false_iff] at hg39
            refine KL.skip rfl rfl rfl ?_
            refine KL.skip rfl rfl rfl ?_
            refine KL.op (R.pick rfl rfl rfl) rfl rfl rfl ?_
            refine KL.nil ?_
            refine KQ.seq ?_
            refine KC.condF rfl ?_
            refine KC.skip ?_
            refine KQ.normBlock ?_
            refine KQ.seq ?_
            refine KC.region ?_
            refine KL.op (R.move rfl rfl) rfl rfl rfl ?_
            refine KL.op (R.add rfl rfl rfl (by dsimp only [InR]; omega)) rfl rfl rfl ?_
            refine KL.op (R.assign rfl rfl) rfl rfl rfl ?_
            refine KL.nil ?_
            refine KQ.again ((k + 1, d, w, acc)) ?_ ?_ ?_
            · exact (Sub.cons rfl (Sub.cons rfl (Sub.cons rfl (Ext.sub (by repeat (first | exact Ext.refl _ _ | refine Ext.put rfl ?_ | refine Ext.drop rfl ?_))))))
            · show e - (k + 1) < e - k; omega
            · exact by
                refine ⟨by show k + 1 ≤ _; omega, by dsimp only; omega, by dsimp only; omega, by dsimp only; omega, by dsimp only; first | omega | (rw [List.length_append, List.length_singleton]; omega), ?_, wv, o0⟩
                dsimp only
                rw [← hx, hu, rElses, hdl]
                first
                  | (rw [if_pos (by omega), List.append_assoc]; first | rfl | (rw [Int.sub_eq_add_neg]; rfl) | (rw [Int.add_zero]; rfl))
                  | (rw [if_neg (by omega)]; try first | rfl | (rw [Int.sub_eq_add_neg]) | (rw [Int.add_zero]))
    · intro hc14
      try simp only [decide_eq_true_eq, decide_eq_false_iff_not, Bool.not_eq_true', Bool.not_eq_false', Bool.and_eq_true, Bool.or_eq_false_iff] at hc14
      have ek : k = e := (by omega)
      refine KC.exit ?_
      refine KQ.exitThen ?_
      refine KQ.exitThen ?_
      refine KQ.hit ?_
      refine KQ.seq ?_
      refine KC.seq ?_
      refine KC.region ?_
      refine KL.op (R.move rfl rfl) rfl rfl rfl ?_
      refine KL.op (R.assign rfl rfl) rfl rfl rfl ?_
      refine KL.nil ?_
      refine KQ.seq ?_
      refine KC.ret ?_
      refine KQ.ofRet ?_
      refine KQ.fin1 Try.results18 rfl ?_
      subst ek
      rw [Nat.sub_self] at hx
      refine ⟨?_, o0⟩
      rw [← hx]
      simpa [rElses] using wv


theorem own_cases (l : List Ins) (k : Nat) : rOwner l k 0 = -1 ∨ ∃ o : Nat, rOwner l k 0 = o ∧ o < k := by
  have := rOwner_range l k 0
  by_cases h : rOwner l k 0 = -1
  · exact .inl h
  · exact .inr ⟨(rOwner l k 0).toNat, by omega, by omega⟩
theorem bad_iff {l : List Ins} {k o : Nat} (ho : rOwner l k 0 = (o : Int)) : badElse l k ↔ (l.getD k default).op = 5 ∧ ((l.getD o default).op ≠ 4 ∨ 0 < (rElses l (k - (o + 1)) (o + 1) 0).length) := by
  unfold badElse
  rw [ho, Int.toNat_natCast]
  constructor
  · rintro ⟨h1, h2 | h2 | h2⟩
    · omega
    · exact ⟨h1, .inl h2⟩
    · exact ⟨h1, .inr h2⟩
  · rintro ⟨h1, h2 | h2⟩
    · exact ⟨h1, .inr (.inl h2)⟩
    · exact ⟨h1, .inr (.inr h2)⟩

set_option maxRecDepth 100000 in
set_option maxHeartbeats 4000000 in
theorem rCl_any {H : Heap} (v : Value) (l : List Ins) (hs : Sl 5 EIns H v l) (hl : l.length ≤ 1000000) : Ct Try.prog 15 [v] H (fun u H' => u = .tuple #[.bool (rCl l l.length 0 0 0).1, .int .i64 (rCl l l.length 0 0 0).2] ∧ Old H H') := by
  refine Ct.mk Try.func15 rfl Try.ntmps15 rfl ?_
  intro W0 hW0
  have o0 : Old H H := Old.refl H
  refine KC.seq ?_
  refine KC.region ?_
  refine KL.op (R.assign rfl rfl) rfl rfl rfl ?_
  refine KL.op (R.assign rfl rfl) rfl rfl rfl ?_
  refine KL.nil ?_
  refine KQ.seq ?_
  refine KC.seq ?_
  refine KC.region ?_
  refine KL.op (R.assign rfl rfl) rfl rfl rfl ?_
  refine KL.nil ?_
  refine KQ.seq ?_
  refine KC.seq ?_
  refine KC.region ?_
  refine KL.op (R.assign rfl rfl) rfl rfl rfl ?_
  refine KL.nil ?_
  refine KQ.seq ?_
  refine KC.seq ?_
  refine KC.seq ?_
  refine KC.region ?_
  refine KL.op (R.assign rfl rfl) rfl rfl rfl ?_
  refine KL.nil ?_
  refine KQ.seq ?_
  refine KC.block ?_
  refine KC.loopD (κ := Nat × Int × Int) [8, 9, 10, 11, 15, 16, 17, 18, 19, 20, 14, 21, 22, 4, 24, 25, 26, 27, 28, 29, 23, 30, 31, 33, 34, 35, 36, 37, 38, 32, 39, 40, 41, 7, 42, 43, 44, 45, 46, 47, 48, 49, 50, 51, 52, 53, 54, 55, 56, 57, 58, 59, 2, 3, 60, 61, 62, 63, 64, 65, 5, 12, 13, 6] (fun k => [(6, .int .i64 (k.1 : Nat)), (4, .int .i64 k.2.1), (5, .int .i64 k.2.2)]) (fun k Hl => k.1 ≤ l.length ∧ 0 ≤ k.2.1 ∧ k.2.1 ≤ (k.1 : Int) ∧ 0 ≤ k.2.2 ∧ k.2.2 ≤ (k.1 : Int) ∧ rCl l (l.length - k.1) k.1 k.2.1 k.2.2 = rCl l l.length 0 0 0 ∧ Old H Hl) (fun k => l.length - k.1) (0, 0, 0) ?_ ?_ ?_
  · exact (Sub.cons rfl (Sub.cons rfl (Sub.cons rfl (Ext.sub (Ext.refl _ _)))))
  · exact ⟨Nat.zero_le _, Int.le_refl _, Int.le_refl _, Int.le_refl _, Int.le_refl _, rfl, o0⟩
  · rintro ⟨k, d, m⟩ H1 ⟨hk, hd1, hd2, hm1, hm2, he, o0⟩
    have zl_H1 := o0.1
    dsimp only
    dsimp only at hk hd1 hd2 hm1 hm2 he
    refine KC.seq ?_
    refine KC.seq ?_
    refine KC.region ?_
    refine KL.op (R.move rfl rfl) rfl rfl rfl ?_
    refine KL.op (R.move rfl rfl) rfl rfl rfl ?_
    refine KL.op ((by first | exact R.lenS rfl Try.underlying27 rfl (by first | exact hs.old o0 | assumption) | exact R.len (ty := 0) rfl Try.underlying27 rfl)) rfl rfl rfl ?_
    refine KL.op (R.lss rfl rfl rfl) rfl rfl rfl ?_
    refine KL.nil ?_
    refine KQ.seq ?_
    refine KC.iteL rfl ?_ ?_
    · intro hc11
      try simp only [decide_eq_true_eq, decide_eq_false_iff_not, Bool.not_eq_true', Bool.not_eq_false', Bool.and_eq_true, Bool.or_eq_false_iff] at hc11
      have hu : l.length - k = (l.length - (k + 1)) + 1 := (by omega)
      refine KC.skip ?_
      refine KQ.seq ?_
      refine KC.seq ?_
      refine KC.block ?_
      refine KC.seq ?_
      refine KC.block ?_
      refine KC.seq ?_
      refine KC.region ?_
      refine KL.op (R.move rfl rfl) rfl rfl rfl ?_
      refine KL.op (R.move rfl rfl) rfl rfl rfl ?_
      refine KL.op (R.index (j := k) rfl Try.underlying27 sz37 rfl rfl (hs.old o0) (by first | rfl | omega) (by omega)) rfl rfl rfl ?_
      refine KL.op ((by first | exact R.fieldAddr rfl Try.underlying37 rfl rfl sz5 rfl | exact R.fieldAddrP rfl Try.underlying37 rfl rfl sz5 rfl)) rfl rfl rfl ?_
      refine KL.op (R.load rfl Try.underlying5 rfl rfl (by first | exact ((hs.old o0).insOp k (by omega)).1 | exact ((hs.old o0).insOp o (by omega)).1 | assumption)) rfl rfl rfl ?_
      refine KL.call rfl rfl rfl rfl Try.call16 rfl rfl rfl (rOpens_any _) ?_
      rintro _ _ ⟨rfl, rfl⟩
      refine KL.op (R.assign rfl rfl) rfl rfl rfl ?_
      refine KL.nil ?_
      refine KQ.seq ?_
      refine KC.iteL rfl ?_ ?_
      · intro hc14
        try simp only [decide_eq_true_eq, decide_eq_false_iff_not, Bool.not_eq_true', Bool.not_eq_false', Bool.and_eq_true, Bool.or_eq_false_iff] at hc14
        have hdl : dl (l.getD k default).op = 1 := (by unfold dl; rw [if_pos hc14])
        have hbe : ¬ badElse l k := (by unfold badElse; first | omega | (unfold isOpn at hc14; omega))
        refine KC.region ?_
        refine KL.op (R.move rfl rfl) rfl rfl rfl ?_
        refine KL.op (R.add rfl rfl rfl (by dsimp only [InR]; omega)) rfl rfl rfl ?_
        refine KL.op (R.assign rfl rfl) rfl rfl rfl ?_
        refine KL.nil ?_
        refine KQ.normBlock ?_
        refine KQ.seq ?_
        refine KC.seq ?_
        refine KC.seq ?_
        refine KC.region ?_
        refine KL.op (R.move rfl rfl) rfl rfl rfl ?_
        refine KL.op (R.lss rfl rfl rfl) rfl rfl rfl ?_
        refine KL.nil ?_
        refine KQ.seq ?_
        refine KC.iteL rfl ?_ ?_
        · intro hc61
          try simp only [decide_eq_true_eq, decide_eq_false_iff_not, Bool.not_eq_true', Bool.not_eq_false', Bool.and_eq_true, Bool.or_eq_false_iff] at hc61
          refine KC.seq ?_
          refine KC.region ?_
          refine KL.op (R.assign rfl rfl) rfl rfl rfl ?_
          refine KL.op (R.assign rfl rfl) rfl rfl rfl ?_
          refine KL.nil ?_
          refine KQ.seq ?_
          refine KC.ret ?_
          refine KQ.retThen ?_
          refine KQ.retBlock ?_
          refine KQ.retThen ?_
          refine KQ.retThen ?_
          refine KQ.retBlock ?_
          refine KQ.retThen ?_
          refine KQ.ofRet ?_
          refine KQ.fin2 Try.results15 rfl rfl ?_
          first
            | (subst ek
               rw [Nat.sub_self] at he
               rw [← he]
               exact ⟨rfl, o0⟩)
            | (rw [← he, hu, rCl, if_pos (by first | (right; rw [hdl]; omega) | (left; rw [bad_iff ho]; omega) | (left; unfold badElse; omega))]
               exact ⟨rfl, o0⟩)
        · intro hc61
          try simp only [decide_eq_true_eq, decide_eq_false_iff_not, Bool.not_eq_true', Bool.not_eq_false', Bool.and_eq_true, Bool.or_eq_false_iff] at hc61
          refine KC.skip ?_
          refine KQ.seq ?_
          refine KC.seq ?_
          refine KC.region ?_
          refine KL.op (R.move rfl rfl) rfl rfl rfl ?_
          refine KL.op (R.move rfl rfl) rfl rfl rfl ?_
          refine KL.op (R.gtr rfl rfl rfl) rfl rfl rfl ?_
          refine KL.nil ?_
          refine KQ.seq ?_
          refine KC.iteL rfl ?_ ?_
          · intro hc64
            try simp only [decide_eq_true_eq, decide_eq_false_iff_not, Bool.not_eq_true', Bool.not_eq_false', Bool.and_eq_true, Bool.or_eq_false_iff] at hc64
            refine KC.region ?_
            refine KL.op (R.move rfl rfl) rfl rfl rfl ?_
            refine KL.op (R.assign rfl rfl) rfl rfl rfl ?_
            refine KL.nil ?_
            refine KQ.normBlock ?_
            refine KQ.seq ?_
            refine KC.region ?_
            refine KL.op (R.move rfl rfl) rfl rfl rfl ?_
            refine KL.op (R.add rfl rfl rfl (by dsimp only [InR]; omega)) rfl rfl rfl ?_
            refine KL.op (R.assign rfl rfl) rfl rfl rfl ?_
            refine KL.nil ?_
            refine KQ.again ((k + 1, d + 1, d + 1)) ?_ ?_ ?_
            · exact (Sub.cons rfl (Sub.cons rfl (Sub.cons rfl (Ext.sub (by repeat (first | exact Ext.refl _ _ | refine Ext.put rfl ?_ | refine Ext.drop rfl ?_))))))
            · show l.length - (k + 1) < l.length - k; omega
            · exact by
                refine ⟨by show k + 1 ≤ _; omega, by dsimp only; omega, by dsimp only; omega, by dsimp only; omega, by dsimp only; omega, ?_, o0⟩
                dsimp only
                rw [← he, hu, rCl, hdl, if_neg (by rintro (h | h); exact hbe h; omega)]
                congr 1
                all_goals omega
          · intro hc64
            try simp only [decide_eq_true_eq, decide_eq_false_iff_not, Bool.not_eq_true', Bool.not_eq_false', Bool.and_eq_true, Bool.or_eq_false_iff] at hc64
            refine KC.skip ?_
            refine KQ.normBlock ?_
            refine KQ.seq ?_
            refine KC.region ?_
            refine KL.op (R.move rfl rfl) rfl rfl rfl ?_
            refine KL.op (R.add rfl rfl rfl (by dsimp only [InR]; omega)) rfl rfl rfl ?_
            refine KL.op (R.assign rfl rfl) rfl rfl rfl ?_
            refine KL.nil ?_
            refine KQ.again ((k + 1, d + 1, m)) ?_ ?_ ?_
            · exact (Sub.cons rfl (Sub.cons rfl (Sub.cons rfl (Ext.sub (by repeat (first | exact Ext.refl _ _ | refine Ext.put rfl ?_ | refine Ext.drop rfl ?_))))))
            · show l.length - (k + 1) < l.length - k; omega
            · exact by
                refine ⟨by show k + 1 ≤ _; omega, by dsimp only; omega, by dsimp only; omega, by dsimp only; omega, by dsimp only; omega, ?_, o0⟩
                dsimp only
                rw [← he, hu, rCl, hdl, if_neg (by rintro (h | h); exact hbe h; omega)]
                congr 1
                all_goals omega
      · intro hc14
        try simp only [decide_eq_true_eq, decide_eq_false_iff_not, Bool.not_eq_true', Bool.not_eq_false', Bool.and_eq_true, Bool.or_eq_false_iff] at hc14
        refine KC.seq ?_
        refine KC.region ?_
        refine KL.op (R.move rfl rfl) rfl rfl rfl ?_
        refine KL.op (R.move rfl rfl) rfl rfl rfl ?_
        refine KL.op (R.index (j := k) rfl Try.underlying27 sz37 rfl rfl (hs.old o0) (by first | rfl | omega) (by omega)) rfl rfl rfl ?_
        refine KL.op ((by first | exact R.fieldAddr rfl Try.underlying37 rfl rfl sz5 rfl | exact R.fieldAddrP rfl Try.underlying37 rfl rfl sz5 rfl)) rfl rfl rfl ?_
        refine KL.op (R.load rfl Try.underlying5 rfl rfl (by first | exact ((hs.old o0).insOp k (by omega)).1 | exact ((hs.old o0).insOp o (by omega)).1 | assumption)) rfl rfl rfl ?_
        refine KL.op (R.eql rfl rfl rfl) rfl rfl rfl ?_
        refine KL.op (R.assign rfl rfl) rfl rfl rfl ?_
        refine KL.nil ?_
        refine KQ.seq ?_
        refine KC.iteL rfl ?_ ?_
        · intro hc23
          try simp only [decide_eq_true_eq, decide_eq_false_iff_not, Bool.not_eq_true', Bool.not_eq_false', Bool.and_eq_true, Bool.or_eq_false_iff] at hc23
          have hdl : dl (l.getD k default).op = -1 := (by unfold dl; rw [if_neg hc14, if_pos hc23])
          have hbe : ¬ badElse l k := (by unfold badElse; first | omega | (unfold isOpn at hc14; omega))
          refine KC.region ?_
          refine KL.op (R.move rfl rfl) rfl rfl rfl ?_
          refine KL.op (R.sub rfl rfl rfl (by dsimp only [InR]; omega)) rfl rfl rfl ?_
          refine KL.op (R.assign rfl rfl) rfl rfl rfl ?_
          refine KL.nil ?_
          refine KQ.normBlock ?_
          refine KQ.seq ?_
          refine KC.seq ?_
          refine KC.seq ?_
          refine KC.region ?_
          refine KL.op (R.move rfl rfl) rfl rfl rfl ?_
          refine KL.op (R.lss rfl rfl rfl) rfl rfl rfl ?_
          refine KL.nil ?_
          refine KQ.seq ?_
          refine KC.iteL rfl ?_ ?_
          · intro hc61
            try simp only [decide_eq_true_eq, decide_eq_false_iff_not, Bool.not_eq_true', Bool.not_eq_false', Bool.and_eq_true, Bool.or_eq_false_iff] at hc61
            refine KC.seq ?_
            refine KC.region ?_
            refine KL.op (R.assign rfl rfl) rfl rfl rfl ?_
            refine KL.op (R.assign rfl rfl) rfl rfl rfl ?_
            refine KL.nil ?_
            refine KQ.seq ?_
            refine KC.ret ?_
            refine KQ.retThen ?_
            refine KQ.retBlock ?_
            refine KQ.retThen ?_
            refine KQ.retThen ?_
            refine KQ.retBlock ?_
            refine KQ.retThen ?_
            refine KQ.ofRet ?_
            refine KQ.fin2 Try.results15 rfl rfl ?_
            first
              | (subst ek
                 rw [Nat.sub_self] at he
                 rw [← he]
                 exact ⟨rfl, o0⟩)
              | (rw [← he, hu, rCl, if_pos (by first | (right; rw [hdl]; omega) | (left; rw [bad_iff ho]; omega) | (left; unfold badElse; omega))]
                 exact ⟨rfl, o0⟩)
          · intro hc61
            try simp only [decide_eq_true_eq, decide_eq_false_iff_not, Bool.not_eq_true', Bool.not_eq_false', Bool.and_eq_true, Bool.or_eq_false_iff] at hc61
            refine KC.skip ?_
            refine KQ.seq ?_
            refine KC.seq ?_
            refine KC.region ?_
            refine KL.op (R.move rfl rfl) rfl rfl rfl ?_
            refine KL.op (R.move rfl rfl) rfl rfl rfl ?_
            refine KL.op (R.gtr rfl rfl rfl) rfl rfl rfl ?_
            refine KL.nil ?_
            refine KQ.seq ?_
            refine KC.iteL rfl ?_ ?_
            · intro hc64
              try simp only [decide_eq_true_eq, decide_eq_false_iff_not, Bool.not_eq_true', Bool.not_eq_false', Bool.and_eq_true, Bool.or_eq_false_iff] at hc64
              refine KC.region ?_
              refine KL.op (R.move rfl rfl) rfl rfl rfl ?_
              refine KL.op (R.assign rfl rfl) rfl rfl rfl ?_
              refine KL.nil ?_
              refine KQ.normBlock ?_
              refine KQ.seq ?_
              refine KC.region ?_
              refine KL.op (R.move rfl rfl) rfl rfl rfl ?_
              refine KL.op (R.add rfl rfl rfl (by dsimp only [InR]; omega)) rfl rfl rfl ?_
              refine KL.op (R.assign rfl rfl) rfl rfl rfl ?_
              refine KL.nil ?_
              refine KQ.again ((k + 1, d - 1, d - 1)) ?_ ?_ ?_
              · exact (Sub.cons rfl (Sub.cons rfl (Sub.cons rfl (Ext.sub (by repeat (first | exact Ext.refl _ _ | refine Ext.put rfl ?_ | refine Ext.drop rfl ?_))))))
              · show l.length - (k + 1) < l.length - k; omega
              · exact by
                  refine ⟨by show k + 1 ≤ _; omega, by dsimp only; omega, by dsimp only; omega, by dsimp only; omega, by dsimp only; omega, ?_, o0⟩
                  dsimp only
                  rw [← he, hu, rCl, hdl, if_neg (by rintro (h | h); exact hbe h; omega)]
                  congr 1
                  all_goals omega
            · intro hc64
              try simp only [decide_eq_true_eq, decide_eq_false_iff_not, Bool.not_eq_true', Bool.not_eq_false', Bool.and_eq_true, Bool.or_eq_false_iff] at hc64
              refine KC.skip ?_
              refine KQ.normBlock ?_
              refine KQ.seq ?_
              refine KC.region ?_
              refine KL.op (R.move rfl rfl) rfl rfl rfl ?_
              refine KL.op (R.add rfl rfl rfl (by dsimp only [InR]; omega)) rfl rfl rfl ?_
              refine KL.op (R.assign rfl rfl) rfl rfl rfl ?_
              refine KL.nil ?_
              refine KQ.again ((k + 1, d - 1, m)) ?_ ?_ ?_
              · exact (Sub.cons rfl (Sub.cons rfl (Sub.cons rfl (Ext.sub (by repeat (first | exact Ext.refl _ _ | refine Ext.put rfl ?_ | refine Ext.drop rfl ?_))))))
              · show l.length - (k + 1) < l.length - k; omega
              · exact by
                  refine ⟨by show k + 1 ≤ _; omega, by dsimp only; omega, by dsimp only; omega, by dsimp only; omega, by dsimp only; omega, ?_, o0⟩
                  dsimp only
                  rw [← he, hu, rCl, hdl, if_neg (by rintro (h | h); exact hbe h; omega)]
                  congr 1
                  all_goals omega
        · intro hc23
          try simp only [decide_eq_true_eq, decide_eq_false_iff_not, Bool.not_eq_true', Bool.not_eq_false', Bool.and_eq_true, Bool.or_eq_false_iff] at hc23
          refine KC.seq ?_
          refine KC.region ?_
          refine KL.op (R.move rfl rfl) rfl rfl rfl ?_
          refine KL.op (R.move rfl rfl) rfl rfl rfl ?_
          refine KL.op (R.index (j := k) rfl Try.underlying27 sz37 rfl rfl (hs.old o0) (by first | rfl | omega) (by omega)) rfl rfl rfl ?_
          refine KL.op ((by first | exact R.fieldAddr rfl Try.underlying37 rfl rfl sz5 rfl | exact R.fieldAddrP rfl Try.underlying37 rfl rfl sz5 rfl)) rfl rfl rfl ?_
          refine KL.op (R.load rfl Try.underlying5 rfl rfl (by first | exact ((hs.old o0).insOp k (by omega)).1 | exact ((hs.old o0).insOp o (by omega)).1 | assumption)) rfl rfl rfl ?_
          refine KL.op (R.eql rfl rfl rfl) rfl rfl rfl ?_
          refine KL.op (R.assign rfl rfl) rfl rfl rfl ?_
          refine KL.nil ?_
          refine KQ.seq ?_
          refine KC.iteL rfl ?_ ?_
          · intro hc32
            try simp only [decide_eq_true_eq, decide_eq_false_iff_not, Bool.not_eq_true', Bool.not_eq_false', Bool.and_eq_true, Bool.or_eq_false_iff] at hc32
            have hdl : dl (l.getD k default).op = 0 := (by unfold dl; rw [if_neg hc14, if_neg hc23])
            refine KC.seq ?_
            refine KC.region ?_
            refine KL.op (R.move rfl rfl) rfl rfl rfl ?_
            refine KL.op (R.move rfl rfl) rfl rfl rfl ?_
            refine KL.call rfl rfl rfl rfl Try.call19 rfl rfl rfl (rOwner_any _ _ (hs.old o0) hl k (by omega)) ?_
            rintro _ _ ⟨rfl, rfl⟩
            have hR := own_cases l k
            rcases hR with ho | ⟨o, ho, hok⟩
            · skip
              rw [ho]
              refine KL.op (R.assign rfl rfl) rfl rfl rfl ?_
              refine KL.nil ?_
              refine KQ.seq ?_
              refine KC.seq ?_
              refine KC.region ?_
              refine KL.op (R.move rfl rfl) rfl rfl rfl ?_
              refine KL.op ((R.lss rfl rfl rfl).val (congrArg Value.bool (decide_eq_true (by omega)))) rfl rfl rfl ?_
              refine KL.op (R.move rfl rfl) rfl rfl rfl ?_
              refine KL.skip rfl rfl rfl ?_
              refine KL.skip rfl rfl rfl ?_
              refine KL.skip rfl rfl rfl ?_
              refine KL.skip rfl rfl rfl ?_
              refine KL.skip rfl rfl rfl ?_
              refine KL.skip rfl rfl rfl ?_
              refine KL.op (R.pick rfl rfl rfl) rfl rfl rfl ?_
              refine KL.op (R.move rfl rfl) rfl rfl rfl ?_
              refine KL.skip rfl rfl rfl ?_
              refine KL.skip rfl rfl rfl ?_
              refine KL.skip rfl rfl rfl ?_
              refine KL.skip rfl rfl rfl ?_
              refine KL.skip rfl rfl rfl ?_
              refine KL.skip rfl rfl rfl ?_
              refine KL.op (R.pick rfl rfl rfl) rfl rfl rfl ?_
              refine KL.nil ?_
              refine KQ.seq ?_
              refine KC.condT rfl ?_
              refine KC.seq ?_
              refine KC.region ?_
              refine KL.op (R.assign rfl rfl) rfl rfl rfl ?_
              refine KL.op (R.assign rfl rfl) rfl rfl rfl ?_
              refine KL.nil ?_
              refine KQ.seq ?_
              refine KC.ret ?_
              refine KQ.retBlock ?_
              refine KQ.retThen ?_
              refine KQ.retBlock ?_
              refine KQ.retThen ?_
              refine KQ.retThen ?_
              refine KQ.retBlock ?_
              refine KQ.retThen ?_
              refine KQ.ofRet ?_
              refine KQ.fin2 Try.results15 rfl rfl ?_
              first
                | (subst ek
                   rw [Nat.sub_self] at he
                   rw [← he]
                   exact ⟨rfl, o0⟩)
                | (rw [← he, hu, rCl, if_pos (by first | (right; rw [hdl]; omega) | (left; rw [bad_iff ho]; omega) | (left; unfold badElse; omega))]
                   exact ⟨rfl, o0⟩)
            · skip
              rw [ho]
              refine KL.op (R.assign rfl rfl) rfl rfl rfl ?_
              refine KL.nil ?_
              refine KQ.seq ?_
              refine KC.seq ?_
              refine KC.region ?_
              refine KL.op (R.move rfl rfl) rfl rfl rfl ?_
              refine KL.op ((R.lss rfl rfl rfl).val (congrArg Value.bool (decide_eq_false (by omega)))) rfl rfl rfl ?_
              refine KL.op (R.move rfl rfl) rfl rfl rfl ?_
              refine KL.op (R.move rfl rfl) rfl rfl rfl ?_
              refine KL.op (R.move rfl rfl) rfl rfl rfl ?_
              refine KL.op (R.index (j := o) rfl Try.underlying27 sz37 rfl rfl (hs.old o0) (by first | rfl | omega) (by omega)) rfl rfl rfl ?_
              refine KL.op ((by first | exact R.fieldAddr rfl Try.underlying37 rfl rfl sz5 rfl | exact R.fieldAddrP rfl Try.underlying37 rfl rfl sz5 rfl)) rfl rfl rfl ?_
              refine KL.op (R.load rfl Try.underlying5 rfl rfl (by first | exact ((hs.old o0).insOp k (by omega)).1 | exact ((hs.old o0).insOp o (by omega)).1 | assumption)) rfl rfl rfl ?_
              refine KL.op (R.neq rfl rfl rfl) rfl rfl rfl ?_
              refine KL.op (R.pick rfl rfl rfl) rfl rfl rfl ?_
              refine KL.op (R.move rfl rfl) rfl rfl rfl ?_
              refine KL.case (d := 52) rfl ?_ ?_
              · intro hg52
                try simp only [decide_eq_true_eq, decide_eq_false_iff_not, Bool.not_eq_true', Bool.not_eq_false', Bool.and_eq_true, Bool.or_eq_false_iff] at hg52
                refine KL.skip rfl rfl rfl ?_
                refine KL.skip rfl rfl rfl ?_
                refine KL.skip rfl rfl rfl ?_
                refine KL.skip rfl rfl rfl ?_
                refine KL.skip rfl rfl rfl ?_
                refine KL.skip rfl rfl rfl ?_
                refine KL.op (R.pick rfl rfl rfl) rfl rfl rfl ?_
                refine KL.nil ?_
                refine KQ.seq ?_
                refine KC.condT rfl ?_
                refine KC.seq ?_
                refine KC.region ?_
                refine KL.op (R.assign rfl rfl) rfl rfl rfl ?_
                refine KL.op (R.assign rfl rfl) rfl rfl rfl ?_
                refine KL.nil ?_
                refine KQ.seq ?_
                refine KC.ret ?_
                refine KQ.retBlock ?_
                refine KQ.retThen ?_
                refine KQ.retBlock ?_
                refine KQ.retThen ?_
                refine KQ.retThen ?_
                refine KQ.retBlock ?_
                refine KQ.retThen ?_
                refine KQ.ofRet ?_
                refine KQ.fin2 Try.results15 rfl rfl ?_
                first
                  | (subst ek
                     rw [Nat.sub_self] at he
                     rw [← he]
                     exact ⟨rfl, o0⟩)
                  | (rw [← he, hu, rCl, if_pos (by first | (right; rw [hdl]; omega) | (left; rw [bad_iff ho]; omega) | (left; unfold badElse; omega))]
                     exact ⟨rfl, o0⟩)
              · intro hg52
                try simp only [decide_eq_true_eq, decide_eq_false_iff_not, Bool.not_eq_true', Bool.not_eq_false', Bool.and_eq_true, Bool.or_eq_false_iff] at hg52
                refine KL.op (R.move rfl rfl) rfl rfl rfl ?_
                refine KL.op (R.move rfl rfl) rfl rfl rfl ?_
                refine KL.op (R.move rfl rfl) rfl rfl rfl ?_
                refine KL.call rfl rfl rfl rfl Try.call18 rfl rfl rfl (rElses_any _ _ (hs.old o0) hl o k (by omega) (by omega)) ?_
                rintro w H2 ⟨wv, ox⟩
                have o0 := o0.trans ox
                refine KL.op (R.lenO rfl Try.underlying40 rfl wv) rfl rfl rfl ?_
                refine KL.op (R.gtr rfl rfl rfl) rfl rfl rfl ?_
                refine KL.op (R.pick rfl rfl rfl) rfl rfl rfl ?_
                refine KL.nil ?_
                refine KQ.seq ?_
                refine KC.iteL rfl ?_ ?_
                · intro hc59
                  try simp only [decide_eq_true_eq, decide_eq_false_iff_not, Bool.not_eq_true', Bool.not_eq_false', Bool.and_eq_true, Bool.or_eq_false_iff] at hc59
                  refine KC.seq ?_
                  refine KC.region ?_
                  refine KL.op (R.assign rfl rfl) rfl rfl rfl ?_
                  refine KL.op (R.assign rfl rfl) rfl rfl rfl ?_
                  refine KL.nil ?_
                  refine KQ.seq ?_
                  refine KC.ret ?_
                  refine KQ.retBlock ?_
                  refine KQ.retThen ?_
                  refine KQ.retBlock ?_
                  refine KQ.retThen ?_
                  refine KQ.retThen ?_
                  refine KQ.retBlock ?_
                  refine KQ.retThen ?_
                  refine KQ.ofRet ?_
                  refine KQ.fin2 Try.results15 rfl rfl ?_
                  first
                    | (subst ek
                       rw [Nat.sub_self] at he
                       rw [← he]
                       exact ⟨rfl, o0⟩)
                    | (rw [← he, hu, rCl, if_pos (by first | (right; rw [hdl]; omega) | (left; rw [bad_iff ho]; omega) | (left; unfold badElse; omega))]
                       exact ⟨rfl, o0⟩)
                · intro hc59
                  try simp only [decide_eq_true_eq, decide_eq_false_iff_not, Bool.not_eq_true', Bool.not_eq_false', Bool.and_eq_true, Bool.or_eq_false_iff] at hc59
                  have hbe : ¬ badElse l k := (by rw [bad_iff ho]; omega)
                  refine KC.skip ?_
                  refine KQ.normBlock ?_
                  refine KQ.seq ?_
                  refine KC.seq ?_
                  refine KC.seq ?_
                  refine KC.region ?_
                  refine KL.op (R.move rfl rfl) rfl rfl rfl ?_
                  refine KL.op (R.lss rfl rfl rfl) rfl rfl rfl ?_
                  refine KL.nil ?_
                  refine KQ.seq ?_
                  refine KC.iteL rfl ?_ ?_
                  · intro hc61
                    try simp only [decide_eq_true_eq, decide_eq_false_iff_not, Bool.not_eq_true', Bool.not_eq_false', Bool.and_eq_true, Bool.or_eq_false_iff] at hc61
                    refine KC.seq ?_
                    refine KC.region ?_
                    refine KL.op (R.assign rfl rfl) rfl rfl rfl ?_
                    refine KL.op (R.assign rfl rfl) rfl rfl rfl ?_
                    refine KL.nil ?_
                    refine KQ.seq ?_
                    refine KC.ret ?_
                    refine KQ.retThen ?_
                    refine KQ.retBlock ?_
                    refine KQ.retThen ?_
                    refine KQ.retThen ?_
                    refine KQ.retBlock ?_
                    refine KQ.retThen ?_
                    refine KQ.ofRet ?_
                    refine KQ.fin2 Try.results15 rfl rfl ?_
                    first
                      | (subst ek
                         rw [Nat.sub_self] at he
                         rw [← he]
                         exact ⟨rfl, o0⟩)
                      | (rw [← he, hu, rCl, if_pos (by first | (right; rw [hdl]; omega) | (left; rw [bad_iff ho]; omega) | (left; unfold badElse; omega))]
                         exact ⟨rfl, o0⟩)
                  · intro hc61
                    try simp only [decide_eq_true_eq, decide_eq_false_iff_not, Bool.not_eq_true', Bool.not_eq_false', Bool.and_eq_true, Bool.or_eq_false_iff] at hc61
                    refine KC.skip ?_
                    refine KQ.seq ?_
                    refine KC.seq ?_
                    refine KC.region ?_
                    refine KL.op (R.move rfl rfl) rfl rfl rfl ?_
                    refine KL.op (R.move rfl rfl) rfl rfl rfl ?_
                    refine KL.op (R.gtr rfl rfl rfl) rfl rfl rfl ?_
                    refine KL.nil ?_
                    refine KQ.seq ?_
                    refine KC.iteL rfl ?_ ?_
                    · intro hc64
                      try simp only [decide_eq_true_eq, decide_eq_false_iff_not, Bool.not_eq_true', Bool.not_eq_false', Bool.and_eq_true, Bool.or_eq_false_iff] at hc64
                      refine KC.region ?_
                      refine KL.op (R.move rfl rfl) rfl rfl rfl ?_
                      refine KL.op (R.assign rfl rfl) rfl rfl rfl ?_
                      refine KL.nil ?_
                      refine KQ.normBlock ?_
                      refine KQ.seq ?_
                      refine KC.region ?_
                      refine KL.op (R.move rfl rfl) rfl rfl rfl ?_
                      refine KL.op (R.add rfl rfl rfl (by dsimp only [InR]; omega)) rfl rfl rfl ?_
                      refine KL.op (R.assign rfl rfl) rfl rfl rfl ?_
                      refine KL.nil ?_
                      refine KQ.again ((k + 1, d, d)) ?_ ?_ ?_
                      · exact (Sub.cons rfl (Sub.cons rfl (Sub.cons rfl (Ext.sub (by repeat (first | exact Ext.refl _ _ | refine Ext.put rfl ?_ | refine Ext.drop rfl ?_))))))
                      · show l.length - (k + 1) < l.length - k; omega
                      · exact by
                          refine ⟨by show k + 1 ≤ _; omega, by dsimp only; omega, by dsimp only; omega, by dsimp only; omega, by dsimp only; omega, ?_, o0⟩
                          dsimp only
                          rw [← he, hu, rCl, hdl, if_neg (by rintro (h | h); exact hbe h; omega)]
                          congr 1
                          all_goals omega
                    · intro hc64
                      try simp only [decide_eq_true_eq, decide_eq_false_iff_not, Bool.not_eq_true', Bool.not_eq_false', Bool.and_eq_true, Bool.or_eq_false_iff] at hc64
                      refine KC.skip ?_
                      refine KQ.normBlock ?_
                      refine KQ.seq ?_
                      refine KC.region ?_
                      refine KL.op (R.move rfl rfl) rfl rfl rfl ?_
                      refine KL.op (R.add rfl rfl rfl (by dsimp only [InR]; omega)) rfl rfl rfl ?_
                      refine KL.op (R.assign rfl rfl) rfl rfl rfl ?_
                      refine KL.nil ?_
                      refine KQ.again ((k + 1, d, m)) ?_ ?_ ?_
                      · exact (Sub.cons rfl (Sub.cons rfl (Sub.cons rfl (Ext.sub (by repeat (first | exact Ext.refl _ _ | refine Ext.put rfl ?_ | refine Ext.drop rfl ?_))))))
                      · show l.length - (k + 1) < l.length - k; omega
                      · exact by
                          refine ⟨by show k + 1 ≤ _; omega, by dsimp only; omega, by dsimp only; omega, by dsimp only; omega, by dsimp only; omega, ?_, o0⟩
                          dsimp only
                          rw [← he, hu, rCl, hdl, if_neg (by rintro (h | h); exact hbe h; omega)]
                          congr 1
                          all_goals omega
          · intro hc32
            try simp only [decide_eq_true_eq, decide_eq_false_iff_not, Bool.not_eq_true', Bool.not_eq_false', Bool.and_eq_true, Bool.or_eq_false_iff] at hc32
            have hdl : dl (l.getD k default).op = 0 := (by unfold dl; rw [if_neg hc14, if_neg hc23])
            have hbe : ¬ badElse l k := (by unfold badElse; first | omega | (unfold isOpn at hc14; omega))
            refine KC.skip ?_
            refine KQ.normBlock ?_
            refine KQ.seq ?_
            refine KC.seq ?_
            refine KC.seq ?_
            refine KC.region ?_
            refine KL.op (R.move rfl rfl) rfl rfl rfl ?_
            refine KL.op (R.lss rfl rfl rfl) rfl rfl rfl ?_
            refine KL.nil ?_
            refine KQ.seq ?_
            refine KC.iteL rfl ?_ ?_
            · intro hc61
              try simp only [decide_eq_true_eq, decide_eq_false_iff_not, Bool.not_eq_true', Bool.not_eq_false', Bool.and_eq_true, Bool.or_eq_false_iff] at hc61
              refine KC.seq ?_
              refine KC.region ?_
              refine KL.op (R.assign rfl rfl) rfl rfl rfl ?_
              refine KL.op (R.assign rfl rfl) rfl rfl rfl ?_
              refine KL.nil ?_
              refine KQ.seq ?_
              refine KC.ret ?_
              refine KQ.retThen ?_
              refine KQ.retBlock ?_
              refine KQ.retThen ?_
              refine KQ.retThen ?_
              refine KQ.retBlock ?_
              refine KQ.retThen ?_
              refine KQ.ofRet ?_
              refine KQ.fin2 Try.results15 rfl rfl ?_
              first
                | (subst ek
                   rw [Nat.sub_self] at he
                   rw [← he]
                   exact ⟨rfl, o0⟩)
                | (rw [← he, hu, rCl, if_pos (by first | (right; rw [hdl]; omega) | (left; rw [bad_iff ho]; omega) | (left; unfold badElse; omega))]
                   exact ⟨rfl, o0⟩)
            · intro hc61
              try simp only [decide_eq_true_eq, decide_eq_false_iff_not, Bool.not_eq_true', Bool.not_eq_false', Bool.and_eq_true, Bool.or_eq_false_iff] at hc61
              refine KC.skip ?_
              refine KQ.seq ?_
              refine KC.seq ?_
              refine KC.region ?_
              refine KL.op (R.move rfl rfl) rfl rfl rfl ?_
              refine KL.op (R.move rfl rfl) rfl rfl rfl ?_
              refine KL.op (R.gtr rfl rfl rfl) rfl rfl rfl ?_
              refine KL.nil ?_
              refine KQ.seq ?_
              refine KC.iteL rfl ?_ ?_
              · intro hc64
                try simp only [decide_eq_true_eq, decide_eq_false_iff_not, Bool.not_eq_true', Bool.not_eq_false', Bool.and_eq_true, Bool.or_eq_false_iff] at hc64
                refine KC.region ?_
                refine KL.op (R.move rfl rfl) rfl rfl rfl ?_
                refine KL.op (R.assign rfl rfl) rfl rfl rfl ?_
                refine KL.nil ?_
                refine KQ.normBlock ?_
                refine KQ.seq ?_
                refine KC.region ?_
                refine KL.op (R.move rfl rfl) rfl rfl rfl ?_
                refine KL.op (R.add rfl rfl rfl (by dsimp only [InR]; omega)) rfl rfl rfl ?_
                refine KL.op (R.assign rfl rfl) rfl rfl rfl ?_
                refine KL.nil ?_
                refine KQ.again ((k + 1, d, d)) ?_ ?_ ?_
                · exact (Sub.cons rfl (Sub.cons rfl (Sub.cons rfl (Ext.sub (by repeat (first | exact Ext.refl _ _ | refine Ext.put rfl ?_ | refine Ext.drop rfl ?_))))))
                · show l.length - (k + 1) < l.length - k; omega
                · exact by
                    refine ⟨by show k + 1 ≤ _; omega, by dsimp only; omega, by dsimp only; omega, by dsimp only; omega, by dsimp only; omega, ?_, o0⟩
                    dsimp only
                    rw [← he, hu, rCl, hdl, if_neg (by rintro (h | h); exact hbe h; omega)]
                    congr 1
                    all_goals omega
              · intro hc64
                try simp only [decide_eq_true_eq, decide_eq_false_iff_not, Bool.not_eq_true', Bool.not_eq_false', Bool.and_eq_true, Bool.or_eq_false_iff] at hc64
                refine KC.skip ?_
                refine KQ.normBlock ?_
                refine KQ.seq ?_
                refine KC.region ?_
                refine KL.op (R.move rfl rfl) rfl rfl rfl ?_
                refine KL.op (R.add rfl rfl rfl (by dsimp only [InR]; omega)) rfl rfl rfl ?_
                refine KL.op (R.assign rfl rfl) rfl rfl rfl ?_
                refine KL.nil ?_
                refine KQ.again ((k + 1, d, m)) ?_ ?_ ?_
                · exact (Sub.cons rfl (Sub.cons rfl (Sub.cons rfl (Ext.sub (by repeat (first | exact Ext.refl _ _ | refine Ext.put rfl ?_ | refine Ext.drop rfl ?_))))))
                · show l.length - (k + 1) < l.length - k; omega
                · exact by
                    refine ⟨by show k + 1 ≤ _; omega, by dsimp only; omega, by dsimp only; omega, by dsimp only; omega, by dsimp only; omega, ?_, o0⟩
                    dsimp only
                    rw [← he, hu, rCl, hdl, if_neg (by rintro (h | h); exact hbe h; omega)]
                    congr 1
                    all_goals omega
    · intro hc11
      try simp only [decide_eq_true_eq, decide_eq_false_iff_not, Bool.not_eq_true', Bool.not_eq_false', Bool.and_eq_true, Bool.or_eq_false_iff] at hc11
      have ek : k = l.length := (by omega)
      refine KC.exit ?_
      refine KQ.exitThen ?_
      refine KQ.exitThen ?_
      refine KQ.hit ?_
      refine KQ.seq ?_
      refine KC.seq ?_
      refine KC.region ?_
      refine KL.op (R.move rfl rfl) rfl rfl rfl ?_
      refine KL.op (R.eql rfl rfl rfl) rfl rfl rfl ?_
      refine KL.op (R.move rfl rfl) rfl rfl rfl ?_
      refine KL.op (R.assign rfl rfl) rfl rfl rfl ?_
      refine KL.op (R.assign rfl rfl) rfl rfl rfl ?_
      refine KL.nil ?_
      refine KQ.seq ?_
      refine KC.ret ?_
      refine KQ.ofRet ?_
      refine KQ.fin2 Try.results15 rfl rfl ?_
      first
        | (subst ek
           rw [Nat.sub_self] at he
           rw [← he]
           exact ⟨rfl, o0⟩)
        | (rw [← he, hu, rCl, if_pos (by first | (right; rw [hdl]; omega) | (left; rw [bad_iff ho]; omega) | (left; unfold badElse; omega))]
           exact ⟨rfl, o0⟩)

end Go.Proofs.Ytbopalmbphgedaa
