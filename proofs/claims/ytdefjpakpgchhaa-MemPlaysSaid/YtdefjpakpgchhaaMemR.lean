/- The document's memory: small parts. No condition. -/
import Derived.Test.YtdefjpakpgchhaaMemHP
import Derived.Test.YtdefjpakpgchhaaMemG
namespace Go.Proofs.Ytdefjpakpgchhaa
open Go Go.RowKit
set_option linter.unusedVariables false
set_option linter.unusedSimpArgs false
set_option linter.unnecessarySimpa false

def sg (op : Int) : Bool := decide (op = 44 ∨ op = 46 ∨ op = 48 ∨ op = 50 ∨ op = 52)
def rn (op : Int) : Int := if op = 40 ∨ op = 54 ∨ op = 44 ∨ op = 46 then 32 else if mw op = 0 then 0 else 64
theorem mw_range {op : Int} (h : mw op ≠ 0) : 40 ≤ op ∧ op ≤ 62 := by
  unfold mw at h
  repeat' split at h
  all_goals first | omega | exact absurd rfl h
theorem prt_cons {bs : List Int} {p w : Nat} (h : p < bs.length) : prt bs p (w + 1) = bs.getD p default :: prt bs (p + 1) w := by
  unfold prt
  rw [List.drop_take, List.drop_take, List.getD_eq_getElem?_getD, List.getElem?_eq_getElem h, List.drop_eq_getElem_cons h]
  have e1 : p + (w + 1) - p = w + 1 := by omega
  have e2 : p + 1 + w - (p + 1) = w := by omega
  rw [e1, e2]; rfl
theorem prt_last {bs : List Int} {p w : Nat} (h : p + w < bs.length) : prt bs p (w + 1) = prt bs p w ++ [bs.getD (p + w) default] := by
  rw [prt_split (by omega)]
  congr 1
  rw [prt_cons (by omega)]
  simp [prt]
theorem sx_top {bs : List Int} {p w n : Nat} (hb : Byt bs) (hw : 0 < w) (h : p + w ≤ bs.length) : sx (ld (prt bs p w)) w n = if 128 ≤ bs.getD (p + w - 1) default then ld (prt bs p w) + 2 ^ n - 256 ^ w else ld (prt bs p w) := by
  obtain ⟨m, rfl⟩ : ∃ m, w = m + 1 := ⟨w - 1, by omega⟩
  have e : p + (m + 1) - 1 = p + m := by omega
  have hlow := ld_range (prt_byt hb p m)
  rw [prt_length (by omega)] at hlow
  have hpos : (0 : Int) < 256 ^ m := Int.pow_pos (by omega)
  have hval : ld (prt bs p (m + 1)) = ld (prt bs p m) + 256 ^ m * bs.getD (p + m) default := by
    rw [prt_last (by omega), ld_snoc, prt_length (by omega)]
  unfold sx
  rw [e, show m + 1 - 1 = m by omega]
  have hiff : ld (prt bs p (m + 1)) < 128 * 256 ^ m ↔ ¬ 128 ≤ bs.getD (p + m) default := by
    rw [hval]
    constructor
    · intro h1 h2
      have : (256 : Int) ^ m * 128 ≤ 256 ^ m * bs.getD (p + m) default := Int.mul_le_mul_of_nonneg_left h2 (by omega)
      omega
    · intro h1
      have : (256 : Int) ^ m * bs.getD (p + m) default ≤ 256 ^ m * 127 := Int.mul_le_mul_of_nonneg_left (by omega) (by omega)
      omega
  by_cases hc : 128 ≤ bs.getD (p + m) default
  · rw [if_pos hc, if_neg (fun h => hiff.1 h hc)]
  · rw [if_neg hc, if_pos (hiff.2 hc)]

set_option maxRecDepth 100000 in
set_option maxHeartbeats 4000000 in
theorem rWidth_any {H : Heap} (op : Int) (r4 : InR .u8 op) : Ct Try.prog 30 [.int .u8 op] H (fun u H' => u = .tuple #[.int .i64 (mw op : Nat), .int .i64 (rn op), .bool (sg op)] ∧ H = H') := by
  refine Ct.mk Try.func30 rfl Try.ntmps30 rfl ?_
  intro W0 hW0
  have o0 : Old H H := Old.refl H
  refine KC.seq ?_
  refine KC.region ?_
  refine KL.op (R.assign rfl rfl) rfl rfl rfl ?_
  refine KL.op (R.assign rfl rfl) rfl rfl rfl ?_
  refine KL.op (R.assign rfl rfl) rfl rfl rfl ?_
  refine KL.nil ?_
  refine KQ.seq ?_
  refine KC.seq ?_
  refine KC.seq ?_
  refine KC.region ?_
  refine KL.op (R.move rfl rfl) rfl rfl rfl ?_
  refine KL.nil ?_
  refine KQ.seq ?_
  refine KC.block ?_
  refine KC.seq ?_
  refine KC.seq ?_
  refine KC.region ?_
  refine KL.op (R.eql rfl rfl rfl) rfl rfl rfl ?_
  refine KL.op (R.assign rfl rfl) rfl rfl rfl ?_
  refine KL.nil ?_
  refine KQ.seq ?_
  refine KC.iteL rfl ?_ ?_
  · intro hc6
    try simp only [decide_eq_true_eq, decide_eq_false_iff_not, Bool.not_eq_true', Bool.not_eq_false', Bool.and_eq_true, Bool.or_eq_false_iff] at hc6
    refine KC.skip ?_
    refine KQ.seq ?_
    refine KC.condT rfl ?_
    refine KC.seq ?_
    refine KC.region ?_
    refine KL.op (R.assign rfl rfl) rfl rfl rfl ?_
    refine KL.op (R.assign rfl rfl) rfl rfl rfl ?_
    refine KL.op (R.assign rfl rfl) rfl rfl rfl ?_
    refine KL.nil ?_
    refine KQ.seq ?_
    refine KC.ret ?_
    refine KQ.retBlock ?_
    refine KQ.retThen ?_
    refine KQ.ofRet ?_
    refine KQ.fin3 Try.results30 rfl rfl rfl ?_
    first
      | (have hx : op = 40 := (by omega)
         subst hx
         exact ⟨rfl, rfl⟩)
      | (have hx : op = 54 := (by omega)
         subst hx
         exact ⟨rfl, rfl⟩)
      | (have hx : op = 41 := (by omega)
         subst hx
         exact ⟨rfl, rfl⟩)
      | (have hx : op = 55 := (by omega)
         subst hx
         exact ⟨rfl, rfl⟩)
      | (have hx : op = 44 := (by omega)
         subst hx
         exact ⟨rfl, rfl⟩)
      | (have hx : op = 48 := (by omega)
         subst hx
         exact ⟨rfl, rfl⟩)
      | (have hx : op = 45 := (by omega)
         subst hx
         exact ⟨rfl, rfl⟩)
      | (have hx : op = 49 := (by omega)
         subst hx
         exact ⟨rfl, rfl⟩)
      | (have hx : op = 58 := (by omega)
         subst hx
         exact ⟨rfl, rfl⟩)
      | (have hx : op = 60 := (by omega)
         subst hx
         exact ⟨rfl, rfl⟩)
      | (have hx : op = 46 := (by omega)
         subst hx
         exact ⟨rfl, rfl⟩)
      | (have hx : op = 50 := (by omega)
         subst hx
         exact ⟨rfl, rfl⟩)
      | (have hx : op = 47 := (by omega)
         subst hx
         exact ⟨rfl, rfl⟩)
      | (have hx : op = 51 := (by omega)
         subst hx
         exact ⟨rfl, rfl⟩)
      | (have hx : op = 59 := (by omega)
         subst hx
         exact ⟨rfl, rfl⟩)
      | (have hx : op = 61 := (by omega)
         subst hx
         exact ⟨rfl, rfl⟩)
      | (have hx : op = 52 := (by omega)
         subst hx
         exact ⟨rfl, rfl⟩)
      | (have hx : op = 53 := (by omega)
         subst hx
         exact ⟨rfl, rfl⟩)
      | (have hx : op = 62 := (by omega)
         subst hx
         exact ⟨rfl, rfl⟩)
      | (have h0 : mw op = 0 := (by unfold mw; rw [if_neg (by omega), if_neg (by omega), if_neg (by omega), if_neg (by omega)])
         have h1 : sg op = false := (by unfold sg; exact decide_eq_false (by omega))
         have h2 : rn op = 0 := (by unfold rn; rw [if_neg (by omega), if_pos h0])
         rw [h0, h1, h2]
         exact ⟨rfl, rfl⟩)
  · intro hc6
    try simp only [decide_eq_true_eq, decide_eq_false_iff_not, Bool.not_eq_true', Bool.not_eq_false', Bool.and_eq_true, Bool.or_eq_false_iff] at hc6
    refine KC.region ?_
    refine KL.op (R.eql rfl rfl rfl) rfl rfl rfl ?_
    refine KL.op (R.assign rfl rfl) rfl rfl rfl ?_
    refine KL.nil ?_
    refine KQ.seq ?_
    refine KC.iteL rfl ?_ ?_
    · intro hc6
      try simp only [decide_eq_true_eq, decide_eq_false_iff_not, Bool.not_eq_true', Bool.not_eq_false', Bool.and_eq_true, Bool.or_eq_false_iff] at hc6
      refine KC.seq ?_
      refine KC.region ?_
      refine KL.op (R.assign rfl rfl) rfl rfl rfl ?_
      refine KL.op (R.assign rfl rfl) rfl rfl rfl ?_
      refine KL.op (R.assign rfl rfl) rfl rfl rfl ?_
      refine KL.nil ?_
      refine KQ.seq ?_
      refine KC.ret ?_
      refine KQ.retBlock ?_
      refine KQ.retThen ?_
      refine KQ.ofRet ?_
      refine KQ.fin3 Try.results30 rfl rfl rfl ?_
      first
        | (have hx : op = 40 := (by omega)
           subst hx
           exact ⟨rfl, rfl⟩)
        | (have hx : op = 54 := (by omega)
           subst hx
           exact ⟨rfl, rfl⟩)
        | (have hx : op = 41 := (by omega)
           subst hx
           exact ⟨rfl, rfl⟩)
        | (have hx : op = 55 := (by omega)
           subst hx
           exact ⟨rfl, rfl⟩)
        | (have hx : op = 44 := (by omega)
           subst hx
           exact ⟨rfl, rfl⟩)
        | (have hx : op = 48 := (by omega)
           subst hx
           exact ⟨rfl, rfl⟩)
        | (have hx : op = 45 := (by omega)
           subst hx
           exact ⟨rfl, rfl⟩)
        | (have hx : op = 49 := (by omega)
           subst hx
           exact ⟨rfl, rfl⟩)
        | (have hx : op = 58 := (by omega)
           subst hx
           exact ⟨rfl, rfl⟩)
        | (have hx : op = 60 := (by omega)
           subst hx
           exact ⟨rfl, rfl⟩)
        | (have hx : op = 46 := (by omega)
           subst hx
           exact ⟨rfl, rfl⟩)
        | (have hx : op = 50 := (by omega)
           subst hx
           exact ⟨rfl, rfl⟩)
        | (have hx : op = 47 := (by omega)
           subst hx
           exact ⟨rfl, rfl⟩)
        | (have hx : op = 51 := (by omega)
           subst hx
           exact ⟨rfl, rfl⟩)
        | (have hx : op = 59 := (by omega)
           subst hx
           exact ⟨rfl, rfl⟩)
        | (have hx : op = 61 := (by omega)
           subst hx
           exact ⟨rfl, rfl⟩)
        | (have hx : op = 52 := (by omega)
           subst hx
           exact ⟨rfl, rfl⟩)
        | (have hx : op = 53 := (by omega)
           subst hx
           exact ⟨rfl, rfl⟩)
        | (have hx : op = 62 := (by omega)
           subst hx
           exact ⟨rfl, rfl⟩)
        | (have h0 : mw op = 0 := (by unfold mw; rw [if_neg (by omega), if_neg (by omega), if_neg (by omega), if_neg (by omega)])
           have h1 : sg op = false := (by unfold sg; exact decide_eq_false (by omega))
           have h2 : rn op = 0 := (by unfold rn; rw [if_neg (by omega), if_pos h0])
           rw [h0, h1, h2]
           exact ⟨rfl, rfl⟩)
    · intro hc6
      try simp only [decide_eq_true_eq, decide_eq_false_iff_not, Bool.not_eq_true', Bool.not_eq_false', Bool.and_eq_true, Bool.or_eq_false_iff] at hc6
      refine KC.seq ?_
      refine KC.seq ?_
      refine KC.region ?_
      refine KL.op (R.eql rfl rfl rfl) rfl rfl rfl ?_
      refine KL.op (R.assign rfl rfl) rfl rfl rfl ?_
      refine KL.nil ?_
      refine KQ.seq ?_
      refine KC.iteL rfl ?_ ?_
      · intro hc9
        try simp only [decide_eq_true_eq, decide_eq_false_iff_not, Bool.not_eq_true', Bool.not_eq_false', Bool.and_eq_true, Bool.or_eq_false_iff] at hc9
        refine KC.skip ?_
        refine KQ.seq ?_
        refine KC.condT rfl ?_
        refine KC.seq ?_
        refine KC.region ?_
        refine KL.op (R.assign rfl rfl) rfl rfl rfl ?_
        refine KL.op (R.assign rfl rfl) rfl rfl rfl ?_
        refine KL.op (R.assign rfl rfl) rfl rfl rfl ?_
        refine KL.nil ?_
        refine KQ.seq ?_
        refine KC.ret ?_
        refine KQ.retBlock ?_
        refine KQ.retThen ?_
        refine KQ.ofRet ?_
        refine KQ.fin3 Try.results30 rfl rfl rfl ?_
        first
          | (have hx : op = 40 := (by omega)
             subst hx
             exact ⟨rfl, rfl⟩)
          | (have hx : op = 54 := (by omega)
             subst hx
             exact ⟨rfl, rfl⟩)
          | (have hx : op = 41 := (by omega)
             subst hx
             exact ⟨rfl, rfl⟩)
          | (have hx : op = 55 := (by omega)
             subst hx
             exact ⟨rfl, rfl⟩)
          | (have hx : op = 44 := (by omega)
             subst hx
             exact ⟨rfl, rfl⟩)
          | (have hx : op = 48 := (by omega)
             subst hx
             exact ⟨rfl, rfl⟩)
          | (have hx : op = 45 := (by omega)
             subst hx
             exact ⟨rfl, rfl⟩)
          | (have hx : op = 49 := (by omega)
             subst hx
             exact ⟨rfl, rfl⟩)
          | (have hx : op = 58 := (by omega)
             subst hx
             exact ⟨rfl, rfl⟩)
          | (have hx : op = 60 := (by omega)
             subst hx
             exact ⟨rfl, rfl⟩)
          | (have hx : op = 46 := (by omega)
             subst hx
             exact ⟨rfl, rfl⟩)
          | (have hx : op = 50 := (by omega)
             subst hx
             exact ⟨rfl, rfl⟩)
          | (have hx : op = 47 := (by omega)
             subst hx
             exact ⟨rfl, rfl⟩)
          | (have hx : op = 51 := (by omega)
             subst hx
             exact ⟨rfl, rfl⟩)
          | (have hx : op = 59 := (by omega)
             subst hx
             exact ⟨rfl, rfl⟩)
          | (have hx : op = 61 := (by omega)
             subst hx
             exact ⟨rfl, rfl⟩)
          | (have hx : op = 52 := (by omega)
             subst hx
             exact ⟨rfl, rfl⟩)
          | (have hx : op = 53 := (by omega)
             subst hx
             exact ⟨rfl, rfl⟩)
          | (have hx : op = 62 := (by omega)
             subst hx
             exact ⟨rfl, rfl⟩)
          | (have h0 : mw op = 0 := (by unfold mw; rw [if_neg (by omega), if_neg (by omega), if_neg (by omega), if_neg (by omega)])
             have h1 : sg op = false := (by unfold sg; exact decide_eq_false (by omega))
             have h2 : rn op = 0 := (by unfold rn; rw [if_neg (by omega), if_pos h0])
             rw [h0, h1, h2]
             exact ⟨rfl, rfl⟩)
      · intro hc9
        try simp only [decide_eq_true_eq, decide_eq_false_iff_not, Bool.not_eq_true', Bool.not_eq_false', Bool.and_eq_true, Bool.or_eq_false_iff] at hc9
        refine KC.region ?_
        refine KL.op (R.eql rfl rfl rfl) rfl rfl rfl ?_
        refine KL.op (R.assign rfl rfl) rfl rfl rfl ?_
        refine KL.nil ?_
        refine KQ.seq ?_
        refine KC.iteL rfl ?_ ?_
        · intro hc9
          try simp only [decide_eq_true_eq, decide_eq_false_iff_not, Bool.not_eq_true', Bool.not_eq_false', Bool.and_eq_true, Bool.or_eq_false_iff] at hc9
          refine KC.seq ?_
          refine KC.region ?_
          refine KL.op (R.assign rfl rfl) rfl rfl rfl ?_
          refine KL.op (R.assign rfl rfl) rfl rfl rfl ?_
          refine KL.op (R.assign rfl rfl) rfl rfl rfl ?_
          refine KL.nil ?_
          refine KQ.seq ?_
          refine KC.ret ?_
          refine KQ.retBlock ?_
          refine KQ.retThen ?_
          refine KQ.ofRet ?_
          refine KQ.fin3 Try.results30 rfl rfl rfl ?_
          first
            | (have hx : op = 40 := (by omega)
               subst hx
               exact ⟨rfl, rfl⟩)
            | (have hx : op = 54 := (by omega)
               subst hx
               exact ⟨rfl, rfl⟩)
            | (have hx : op = 41 := (by omega)
               subst hx
               exact ⟨rfl, rfl⟩)
            | (have hx : op = 55 := (by omega)
               subst hx
               exact ⟨rfl, rfl⟩)
            | (have hx : op = 44 := (by omega)
               subst hx
               exact ⟨rfl, rfl⟩)
            | (have hx : op = 48 := (by omega)
               subst hx
               exact ⟨rfl, rfl⟩)
            | (have hx : op = 45 := (by omega)
               subst hx
               exact ⟨rfl, rfl⟩)
            | (have hx : op = 49 := (by omega)
               subst hx
               exact ⟨rfl, rfl⟩)
            | (have hx : op = 58 := (by omega)
               subst hx
               exact ⟨rfl, rfl⟩)
            | (have hx : op = 60 := (by omega)
               subst hx
               exact ⟨rfl, rfl⟩)
            | (have hx : op = 46 := (by omega)
               subst hx
               exact ⟨rfl, rfl⟩)
            | (have hx : op = 50 := (by omega)
               subst hx
               exact ⟨rfl, rfl⟩)
            | (have hx : op = 47 := (by omega)
               subst hx
               exact ⟨rfl, rfl⟩)
            | (have hx : op = 51 := (by omega)
               subst hx
               exact ⟨rfl, rfl⟩)
            | (have hx : op = 59 := (by omega)
               subst hx
               exact ⟨rfl, rfl⟩)
            | (have hx : op = 61 := (by omega)
               subst hx
               exact ⟨rfl, rfl⟩)
            | (have hx : op = 52 := (by omega)
               subst hx
               exact ⟨rfl, rfl⟩)
            | (have hx : op = 53 := (by omega)
               subst hx
               exact ⟨rfl, rfl⟩)
            | (have hx : op = 62 := (by omega)
               subst hx
               exact ⟨rfl, rfl⟩)
            | (have h0 : mw op = 0 := (by unfold mw; rw [if_neg (by omega), if_neg (by omega), if_neg (by omega), if_neg (by omega)])
               have h1 : sg op = false := (by unfold sg; exact decide_eq_false (by omega))
               have h2 : rn op = 0 := (by unfold rn; rw [if_neg (by omega), if_pos h0])
               rw [h0, h1, h2]
               exact ⟨rfl, rfl⟩)
        · intro hc9
          try simp only [decide_eq_true_eq, decide_eq_false_iff_not, Bool.not_eq_true', Bool.not_eq_false', Bool.and_eq_true, Bool.or_eq_false_iff] at hc9
          refine KC.seq ?_
          refine KC.seq ?_
          refine KC.region ?_
          refine KL.op (R.eql rfl rfl rfl) rfl rfl rfl ?_
          refine KL.op (R.assign rfl rfl) rfl rfl rfl ?_
          refine KL.nil ?_
          refine KQ.seq ?_
          refine KC.iteL rfl ?_ ?_
          · intro hc12
            try simp only [decide_eq_true_eq, decide_eq_false_iff_not, Bool.not_eq_true', Bool.not_eq_false', Bool.and_eq_true, Bool.or_eq_false_iff] at hc12
            refine KC.skip ?_
            refine KQ.seq ?_
            refine KC.condT rfl ?_
            refine KC.seq ?_
            refine KC.region ?_
            refine KL.op (R.move rfl rfl) rfl rfl rfl ?_
            refine KL.op (R.convI rfl Try.underlying5 Try.underlying3 rfl (by dsimp only [InR]; omega)) rfl rfl rfl ?_
            refine KL.op (R.sub rfl rfl rfl (by dsimp only [InR]; omega)) rfl rfl rfl ?_
            refine KL.op (R.mul rfl rfl rfl (by dsimp only [InR]; omega)) rfl rfl rfl ?_
            refine KL.op (R.add rfl rfl rfl (by dsimp only [InR]; omega)) rfl rfl rfl ?_
            refine KL.op (R.assign rfl rfl) rfl rfl rfl ?_
            refine KL.op (R.assign rfl rfl) rfl rfl rfl ?_
            refine KL.op (R.assign rfl rfl) rfl rfl rfl ?_
            refine KL.nil ?_
            refine KQ.seq ?_
            refine KC.ret ?_
            refine KQ.retBlock ?_
            refine KQ.retThen ?_
            refine KQ.ofRet ?_
            refine KQ.fin3 Try.results30 rfl rfl rfl ?_
            first
              | (have hx : op = 40 := (by omega)
                 subst hx
                 exact ⟨rfl, rfl⟩)
              | (have hx : op = 54 := (by omega)
                 subst hx
                 exact ⟨rfl, rfl⟩)
              | (have hx : op = 41 := (by omega)
                 subst hx
                 exact ⟨rfl, rfl⟩)
              | (have hx : op = 55 := (by omega)
                 subst hx
                 exact ⟨rfl, rfl⟩)
              | (have hx : op = 44 := (by omega)
                 subst hx
                 exact ⟨rfl, rfl⟩)
              | (have hx : op = 48 := (by omega)
                 subst hx
                 exact ⟨rfl, rfl⟩)
              | (have hx : op = 45 := (by omega)
                 subst hx
                 exact ⟨rfl, rfl⟩)
              | (have hx : op = 49 := (by omega)
                 subst hx
                 exact ⟨rfl, rfl⟩)
              | (have hx : op = 58 := (by omega)
                 subst hx
                 exact ⟨rfl, rfl⟩)
              | (have hx : op = 60 := (by omega)
                 subst hx
                 exact ⟨rfl, rfl⟩)
              | (have hx : op = 46 := (by omega)
                 subst hx
                 exact ⟨rfl, rfl⟩)
              | (have hx : op = 50 := (by omega)
                 subst hx
                 exact ⟨rfl, rfl⟩)
              | (have hx : op = 47 := (by omega)
                 subst hx
                 exact ⟨rfl, rfl⟩)
              | (have hx : op = 51 := (by omega)
                 subst hx
                 exact ⟨rfl, rfl⟩)
              | (have hx : op = 59 := (by omega)
                 subst hx
                 exact ⟨rfl, rfl⟩)
              | (have hx : op = 61 := (by omega)
                 subst hx
                 exact ⟨rfl, rfl⟩)
              | (have hx : op = 52 := (by omega)
                 subst hx
                 exact ⟨rfl, rfl⟩)
              | (have hx : op = 53 := (by omega)
                 subst hx
                 exact ⟨rfl, rfl⟩)
              | (have hx : op = 62 := (by omega)
                 subst hx
                 exact ⟨rfl, rfl⟩)
              | (have h0 : mw op = 0 := (by unfold mw; rw [if_neg (by omega), if_neg (by omega), if_neg (by omega), if_neg (by omega)])
                 have h1 : sg op = false := (by unfold sg; exact decide_eq_false (by omega))
                 have h2 : rn op = 0 := (by unfold rn; rw [if_neg (by omega), if_pos h0])
                 rw [h0, h1, h2]
                 exact ⟨rfl, rfl⟩)
          · intro hc12
            try simp only [decide_eq_true_eq, decide_eq_false_iff_not, Bool.not_eq_true', Bool.not_eq_false', Bool.and_eq_true, Bool.or_eq_false_iff] at hc12
            refine KC.region ?_
            refine KL.op (R.eql rfl rfl rfl) rfl rfl rfl ?_
            refine KL.op (R.assign rfl rfl) rfl rfl rfl ?_
            refine KL.nil ?_
            refine KQ.seq ?_
            refine KC.iteL rfl ?_ ?_
            · intro hc12
              try simp only [decide_eq_true_eq, decide_eq_false_iff_not, Bool.not_eq_true', Bool.not_eq_false', Bool.and_eq_true, Bool.or_eq_false_iff] at hc12
              refine KC.seq ?_
              refine KC.region ?_
              refine KL.op (R.move rfl rfl) rfl rfl rfl ?_
              refine KL.op (R.convI rfl Try.underlying5 Try.underlying3 rfl (by dsimp only [InR]; omega)) rfl rfl rfl ?_
              refine KL.op (R.sub rfl rfl rfl (by dsimp only [InR]; omega)) rfl rfl rfl ?_
              refine KL.op (R.mul rfl rfl rfl (by dsimp only [InR]; omega)) rfl rfl rfl ?_
              refine KL.op (R.add rfl rfl rfl (by dsimp only [InR]; omega)) rfl rfl rfl ?_
              refine KL.op (R.assign rfl rfl) rfl rfl rfl ?_
              refine KL.op (R.assign rfl rfl) rfl rfl rfl ?_
              refine KL.op (R.assign rfl rfl) rfl rfl rfl ?_
              refine KL.nil ?_
              refine KQ.seq ?_
              refine KC.ret ?_
              refine KQ.retBlock ?_
              refine KQ.retThen ?_
              refine KQ.ofRet ?_
              refine KQ.fin3 Try.results30 rfl rfl rfl ?_
              first
                | (have hx : op = 40 := (by omega)
                   subst hx
                   exact ⟨rfl, rfl⟩)
                | (have hx : op = 54 := (by omega)
                   subst hx
                   exact ⟨rfl, rfl⟩)
                | (have hx : op = 41 := (by omega)
                   subst hx
                   exact ⟨rfl, rfl⟩)
                | (have hx : op = 55 := (by omega)
                   subst hx
                   exact ⟨rfl, rfl⟩)
                | (have hx : op = 44 := (by omega)
                   subst hx
                   exact ⟨rfl, rfl⟩)
                | (have hx : op = 48 := (by omega)
                   subst hx
                   exact ⟨rfl, rfl⟩)
                | (have hx : op = 45 := (by omega)
                   subst hx
                   exact ⟨rfl, rfl⟩)
                | (have hx : op = 49 := (by omega)
                   subst hx
                   exact ⟨rfl, rfl⟩)
                | (have hx : op = 58 := (by omega)
                   subst hx
                   exact ⟨rfl, rfl⟩)
                | (have hx : op = 60 := (by omega)
                   subst hx
                   exact ⟨rfl, rfl⟩)
                | (have hx : op = 46 := (by omega)
                   subst hx
                   exact ⟨rfl, rfl⟩)
                | (have hx : op = 50 := (by omega)
                   subst hx
                   exact ⟨rfl, rfl⟩)
                | (have hx : op = 47 := (by omega)
                   subst hx
                   exact ⟨rfl, rfl⟩)
                | (have hx : op = 51 := (by omega)
                   subst hx
                   exact ⟨rfl, rfl⟩)
                | (have hx : op = 59 := (by omega)
                   subst hx
                   exact ⟨rfl, rfl⟩)
                | (have hx : op = 61 := (by omega)
                   subst hx
                   exact ⟨rfl, rfl⟩)
                | (have hx : op = 52 := (by omega)
                   subst hx
                   exact ⟨rfl, rfl⟩)
                | (have hx : op = 53 := (by omega)
                   subst hx
                   exact ⟨rfl, rfl⟩)
                | (have hx : op = 62 := (by omega)
                   subst hx
                   exact ⟨rfl, rfl⟩)
                | (have h0 : mw op = 0 := (by unfold mw; rw [if_neg (by omega), if_neg (by omega), if_neg (by omega), if_neg (by omega)])
                   have h1 : sg op = false := (by unfold sg; exact decide_eq_false (by omega))
                   have h2 : rn op = 0 := (by unfold rn; rw [if_neg (by omega), if_pos h0])
                   rw [h0, h1, h2]
                   exact ⟨rfl, rfl⟩)
            · intro hc12
              try simp only [decide_eq_true_eq, decide_eq_false_iff_not, Bool.not_eq_true', Bool.not_eq_false', Bool.and_eq_true, Bool.or_eq_false_iff] at hc12
              refine KC.seq ?_
              refine KC.seq ?_
              refine KC.region ?_
              refine KL.op (R.eql rfl rfl rfl) rfl rfl rfl ?_
              refine KL.op (R.assign rfl rfl) rfl rfl rfl ?_
              refine KL.nil ?_
              refine KQ.seq ?_
              refine KC.iteL rfl ?_ ?_
              · intro hc20
                try simp only [decide_eq_true_eq, decide_eq_false_iff_not, Bool.not_eq_true', Bool.not_eq_false', Bool.and_eq_true, Bool.or_eq_false_iff] at hc20
                refine KC.skip ?_
                refine KQ.seq ?_
                refine KC.condT rfl ?_
                refine KC.seq ?_
                refine KC.region ?_
                refine KL.op (R.assign rfl rfl) rfl rfl rfl ?_
                refine KL.op (R.assign rfl rfl) rfl rfl rfl ?_
                refine KL.op (R.assign rfl rfl) rfl rfl rfl ?_
                refine KL.nil ?_
                refine KQ.seq ?_
                refine KC.ret ?_
                refine KQ.retBlock ?_
                refine KQ.retThen ?_
                refine KQ.ofRet ?_
                refine KQ.fin3 Try.results30 rfl rfl rfl ?_
                first
                  | (have hx : op = 40 := (by omega)
                     subst hx
                     exact ⟨rfl, rfl⟩)
                  | (have hx : op = 54 := (by omega)
                     subst hx
                     exact ⟨rfl, rfl⟩)
                  | (have hx : op = 41 := (by omega)
                     subst hx
                     exact ⟨rfl, rfl⟩)
                  | (have hx : op = 55 := (by omega)
                     subst hx
                     exact ⟨rfl, rfl⟩)
                  | (have hx : op = 44 := (by omega)
                     subst hx
                     exact ⟨rfl, rfl⟩)
                  | (have hx : op = 48 := (by omega)
                     subst hx
                     exact ⟨rfl, rfl⟩)
                  | (have hx : op = 45 := (by omega)
                     subst hx
                     exact ⟨rfl, rfl⟩)
                  | (have hx : op = 49 := (by omega)
                     subst hx
                     exact ⟨rfl, rfl⟩)
                  | (have hx : op = 58 := (by omega)
                     subst hx
                     exact ⟨rfl, rfl⟩)
                  | (have hx : op = 60 := (by omega)
                     subst hx
                     exact ⟨rfl, rfl⟩)
                  | (have hx : op = 46 := (by omega)
                     subst hx
                     exact ⟨rfl, rfl⟩)
                  | (have hx : op = 50 := (by omega)
                     subst hx
                     exact ⟨rfl, rfl⟩)
                  | (have hx : op = 47 := (by omega)
                     subst hx
                     exact ⟨rfl, rfl⟩)
                  | (have hx : op = 51 := (by omega)
                     subst hx
                     exact ⟨rfl, rfl⟩)
                  | (have hx : op = 59 := (by omega)
                     subst hx
                     exact ⟨rfl, rfl⟩)
                  | (have hx : op = 61 := (by omega)
                     subst hx
                     exact ⟨rfl, rfl⟩)
                  | (have hx : op = 52 := (by omega)
                     subst hx
                     exact ⟨rfl, rfl⟩)
                  | (have hx : op = 53 := (by omega)
                     subst hx
                     exact ⟨rfl, rfl⟩)
                  | (have hx : op = 62 := (by omega)
                     subst hx
                     exact ⟨rfl, rfl⟩)
                  | (have h0 : mw op = 0 := (by unfold mw; rw [if_neg (by omega), if_neg (by omega), if_neg (by omega), if_neg (by omega)])
                     have h1 : sg op = false := (by unfold sg; exact decide_eq_false (by omega))
                     have h2 : rn op = 0 := (by unfold rn; rw [if_neg (by omega), if_pos h0])
                     rw [h0, h1, h2]
                     exact ⟨rfl, rfl⟩)
              · intro hc20
                try simp only [decide_eq_true_eq, decide_eq_false_iff_not, Bool.not_eq_true', Bool.not_eq_false', Bool.and_eq_true, Bool.or_eq_false_iff] at hc20
                refine KC.seq ?_
                refine KC.region ?_
                refine KL.op (R.eql rfl rfl rfl) rfl rfl rfl ?_
                refine KL.op (R.assign rfl rfl) rfl rfl rfl ?_
                refine KL.nil ?_
                refine KQ.seq ?_
                refine KC.iteL rfl ?_ ?_
                · intro hc20
                  try simp only [decide_eq_true_eq, decide_eq_false_iff_not, Bool.not_eq_true', Bool.not_eq_false', Bool.and_eq_true, Bool.or_eq_false_iff] at hc20
                  refine KC.skip ?_
                  refine KQ.seq ?_
                  refine KC.condT rfl ?_
                  refine KC.seq ?_
                  refine KC.region ?_
                  refine KL.op (R.assign rfl rfl) rfl rfl rfl ?_
                  refine KL.op (R.assign rfl rfl) rfl rfl rfl ?_
                  refine KL.op (R.assign rfl rfl) rfl rfl rfl ?_
                  refine KL.nil ?_
                  refine KQ.seq ?_
                  refine KC.ret ?_
                  refine KQ.retBlock ?_
                  refine KQ.retThen ?_
                  refine KQ.ofRet ?_
                  refine KQ.fin3 Try.results30 rfl rfl rfl ?_
                  first
                    | (have hx : op = 40 := (by omega)
                       subst hx
                       exact ⟨rfl, rfl⟩)
                    | (have hx : op = 54 := (by omega)
                       subst hx
                       exact ⟨rfl, rfl⟩)
                    | (have hx : op = 41 := (by omega)
                       subst hx
                       exact ⟨rfl, rfl⟩)
                    | (have hx : op = 55 := (by omega)
                       subst hx
                       exact ⟨rfl, rfl⟩)
                    | (have hx : op = 44 := (by omega)
                       subst hx
                       exact ⟨rfl, rfl⟩)
                    | (have hx : op = 48 := (by omega)
                       subst hx
                       exact ⟨rfl, rfl⟩)
                    | (have hx : op = 45 := (by omega)
                       subst hx
                       exact ⟨rfl, rfl⟩)
                    | (have hx : op = 49 := (by omega)
                       subst hx
                       exact ⟨rfl, rfl⟩)
                    | (have hx : op = 58 := (by omega)
                       subst hx
                       exact ⟨rfl, rfl⟩)
                    | (have hx : op = 60 := (by omega)
                       subst hx
                       exact ⟨rfl, rfl⟩)
                    | (have hx : op = 46 := (by omega)
                       subst hx
                       exact ⟨rfl, rfl⟩)
                    | (have hx : op = 50 := (by omega)
                       subst hx
                       exact ⟨rfl, rfl⟩)
                    | (have hx : op = 47 := (by omega)
                       subst hx
                       exact ⟨rfl, rfl⟩)
                    | (have hx : op = 51 := (by omega)
                       subst hx
                       exact ⟨rfl, rfl⟩)
                    | (have hx : op = 59 := (by omega)
                       subst hx
                       exact ⟨rfl, rfl⟩)
                    | (have hx : op = 61 := (by omega)
                       subst hx
                       exact ⟨rfl, rfl⟩)
                    | (have hx : op = 52 := (by omega)
                       subst hx
                       exact ⟨rfl, rfl⟩)
                    | (have hx : op = 53 := (by omega)
                       subst hx
                       exact ⟨rfl, rfl⟩)
                    | (have hx : op = 62 := (by omega)
                       subst hx
                       exact ⟨rfl, rfl⟩)
                    | (have h0 : mw op = 0 := (by unfold mw; rw [if_neg (by omega), if_neg (by omega), if_neg (by omega), if_neg (by omega)])
                       have h1 : sg op = false := (by unfold sg; exact decide_eq_false (by omega))
                       have h2 : rn op = 0 := (by unfold rn; rw [if_neg (by omega), if_pos h0])
                       rw [h0, h1, h2]
                       exact ⟨rfl, rfl⟩)
                · intro hc20
                  try simp only [decide_eq_true_eq, decide_eq_false_iff_not, Bool.not_eq_true', Bool.not_eq_false', Bool.and_eq_true, Bool.or_eq_false_iff] at hc20
                  refine KC.seq ?_
                  refine KC.region ?_
                  refine KL.op (R.eql rfl rfl rfl) rfl rfl rfl ?_
                  refine KL.op (R.assign rfl rfl) rfl rfl rfl ?_
                  refine KL.nil ?_
                  refine KQ.seq ?_
                  refine KC.iteL rfl ?_ ?_
                  · intro hc20
                    try simp only [decide_eq_true_eq, decide_eq_false_iff_not, Bool.not_eq_true', Bool.not_eq_false', Bool.and_eq_true, Bool.or_eq_false_iff] at hc20
                    refine KC.skip ?_
                    refine KQ.seq ?_
                    refine KC.condT rfl ?_
                    refine KC.seq ?_
                    refine KC.region ?_
                    refine KL.op (R.assign rfl rfl) rfl rfl rfl ?_
                    refine KL.op (R.assign rfl rfl) rfl rfl rfl ?_
                    refine KL.op (R.assign rfl rfl) rfl rfl rfl ?_
                    refine KL.nil ?_
                    refine KQ.seq ?_
                    refine KC.ret ?_
                    refine KQ.retBlock ?_
                    refine KQ.retThen ?_
                    refine KQ.ofRet ?_
                    refine KQ.fin3 Try.results30 rfl rfl rfl ?_
                    first
                      | (have hx : op = 40 := (by omega)
                         subst hx
                         exact ⟨rfl, rfl⟩)
                      | (have hx : op = 54 := (by omega)
                         subst hx
                         exact ⟨rfl, rfl⟩)
                      | (have hx : op = 41 := (by omega)
                         subst hx
                         exact ⟨rfl, rfl⟩)
                      | (have hx : op = 55 := (by omega)
                         subst hx
                         exact ⟨rfl, rfl⟩)
                      | (have hx : op = 44 := (by omega)
                         subst hx
                         exact ⟨rfl, rfl⟩)
                      | (have hx : op = 48 := (by omega)
                         subst hx
                         exact ⟨rfl, rfl⟩)
                      | (have hx : op = 45 := (by omega)
                         subst hx
                         exact ⟨rfl, rfl⟩)
                      | (have hx : op = 49 := (by omega)
                         subst hx
                         exact ⟨rfl, rfl⟩)
                      | (have hx : op = 58 := (by omega)
                         subst hx
                         exact ⟨rfl, rfl⟩)
                      | (have hx : op = 60 := (by omega)
                         subst hx
                         exact ⟨rfl, rfl⟩)
                      | (have hx : op = 46 := (by omega)
                         subst hx
                         exact ⟨rfl, rfl⟩)
                      | (have hx : op = 50 := (by omega)
                         subst hx
                         exact ⟨rfl, rfl⟩)
                      | (have hx : op = 47 := (by omega)
                         subst hx
                         exact ⟨rfl, rfl⟩)
                      | (have hx : op = 51 := (by omega)
                         subst hx
                         exact ⟨rfl, rfl⟩)
                      | (have hx : op = 59 := (by omega)
                         subst hx
                         exact ⟨rfl, rfl⟩)
                      | (have hx : op = 61 := (by omega)
                         subst hx
                         exact ⟨rfl, rfl⟩)
                      | (have hx : op = 52 := (by omega)
                         subst hx
                         exact ⟨rfl, rfl⟩)
                      | (have hx : op = 53 := (by omega)
                         subst hx
                         exact ⟨rfl, rfl⟩)
                      | (have hx : op = 62 := (by omega)
                         subst hx
                         exact ⟨rfl, rfl⟩)
                      | (have h0 : mw op = 0 := (by unfold mw; rw [if_neg (by omega), if_neg (by omega), if_neg (by omega), if_neg (by omega)])
                         have h1 : sg op = false := (by unfold sg; exact decide_eq_false (by omega))
                         have h2 : rn op = 0 := (by unfold rn; rw [if_neg (by omega), if_pos h0])
                         rw [h0, h1, h2]
                         exact ⟨rfl, rfl⟩)
                  · intro hc20
                    try simp only [decide_eq_true_eq, decide_eq_false_iff_not, Bool.not_eq_true', Bool.not_eq_false', Bool.and_eq_true, Bool.or_eq_false_iff] at hc20
                    refine KC.region ?_
                    refine KL.op (R.eql rfl rfl rfl) rfl rfl rfl ?_
                    refine KL.op (R.assign rfl rfl) rfl rfl rfl ?_
                    refine KL.nil ?_
                    refine KQ.seq ?_
                    refine KC.iteL rfl ?_ ?_
                    · intro hc20
                      try simp only [decide_eq_true_eq, decide_eq_false_iff_not, Bool.not_eq_true', Bool.not_eq_false', Bool.and_eq_true, Bool.or_eq_false_iff] at hc20
                      refine KC.seq ?_
                      refine KC.region ?_
                      refine KL.op (R.assign rfl rfl) rfl rfl rfl ?_
                      refine KL.op (R.assign rfl rfl) rfl rfl rfl ?_
                      refine KL.op (R.assign rfl rfl) rfl rfl rfl ?_
                      refine KL.nil ?_
                      refine KQ.seq ?_
                      refine KC.ret ?_
                      refine KQ.retBlock ?_
                      refine KQ.retThen ?_
                      refine KQ.ofRet ?_
                      refine KQ.fin3 Try.results30 rfl rfl rfl ?_
                      first
                        | (have hx : op = 40 := (by omega)
                           subst hx
                           exact ⟨rfl, rfl⟩)
                        | (have hx : op = 54 := (by omega)
                           subst hx
                           exact ⟨rfl, rfl⟩)
                        | (have hx : op = 41 := (by omega)
                           subst hx
                           exact ⟨rfl, rfl⟩)
                        | (have hx : op = 55 := (by omega)
                           subst hx
                           exact ⟨rfl, rfl⟩)
                        | (have hx : op = 44 := (by omega)
                           subst hx
                           exact ⟨rfl, rfl⟩)
                        | (have hx : op = 48 := (by omega)
                           subst hx
                           exact ⟨rfl, rfl⟩)
                        | (have hx : op = 45 := (by omega)
                           subst hx
                           exact ⟨rfl, rfl⟩)
                        | (have hx : op = 49 := (by omega)
                           subst hx
                           exact ⟨rfl, rfl⟩)
                        | (have hx : op = 58 := (by omega)
                           subst hx
                           exact ⟨rfl, rfl⟩)
                        | (have hx : op = 60 := (by omega)
                           subst hx
                           exact ⟨rfl, rfl⟩)
                        | (have hx : op = 46 := (by omega)
                           subst hx
                           exact ⟨rfl, rfl⟩)
                        | (have hx : op = 50 := (by omega)
                           subst hx
                           exact ⟨rfl, rfl⟩)
                        | (have hx : op = 47 := (by omega)
                           subst hx
                           exact ⟨rfl, rfl⟩)
                        | (have hx : op = 51 := (by omega)
                           subst hx
                           exact ⟨rfl, rfl⟩)
                        | (have hx : op = 59 := (by omega)
                           subst hx
                           exact ⟨rfl, rfl⟩)
                        | (have hx : op = 61 := (by omega)
                           subst hx
                           exact ⟨rfl, rfl⟩)
                        | (have hx : op = 52 := (by omega)
                           subst hx
                           exact ⟨rfl, rfl⟩)
                        | (have hx : op = 53 := (by omega)
                           subst hx
                           exact ⟨rfl, rfl⟩)
                        | (have hx : op = 62 := (by omega)
                           subst hx
                           exact ⟨rfl, rfl⟩)
                        | (have h0 : mw op = 0 := (by unfold mw; rw [if_neg (by omega), if_neg (by omega), if_neg (by omega), if_neg (by omega)])
                           have h1 : sg op = false := (by unfold sg; exact decide_eq_false (by omega))
                           have h2 : rn op = 0 := (by unfold rn; rw [if_neg (by omega), if_pos h0])
                           rw [h0, h1, h2]
                           exact ⟨rfl, rfl⟩)
                    · intro hc20
                      try simp only [decide_eq_true_eq, decide_eq_false_iff_not, Bool.not_eq_true', Bool.not_eq_false', Bool.and_eq_true, Bool.or_eq_false_iff] at hc20
                      refine KC.seq ?_
                      refine KC.seq ?_
                      refine KC.region ?_
                      refine KL.op (R.eql rfl rfl rfl) rfl rfl rfl ?_
                      refine KL.op (R.assign rfl rfl) rfl rfl rfl ?_
                      refine KL.nil ?_
                      refine KQ.seq ?_
                      refine KC.iteL rfl ?_ ?_
                      · intro hc25
                        try simp only [decide_eq_true_eq, decide_eq_false_iff_not, Bool.not_eq_true', Bool.not_eq_false', Bool.and_eq_true, Bool.or_eq_false_iff] at hc25
                        refine KC.skip ?_
                        refine KQ.seq ?_
                        refine KC.condT rfl ?_
                        refine KC.seq ?_
                        refine KC.region ?_
                        refine KL.op (R.move rfl rfl) rfl rfl rfl ?_
                        refine KL.op (R.convI rfl Try.underlying5 Try.underlying3 rfl (by dsimp only [InR]; omega)) rfl rfl rfl ?_
                        refine KL.op (R.sub rfl rfl rfl (by dsimp only [InR]; omega)) rfl rfl rfl ?_
                        refine KL.op (R.mul rfl rfl rfl (by dsimp only [InR]; omega)) rfl rfl rfl ?_
                        refine KL.op (R.add rfl rfl rfl (by dsimp only [InR]; omega)) rfl rfl rfl ?_
                        refine KL.op (R.assign rfl rfl) rfl rfl rfl ?_
                        refine KL.op (R.assign rfl rfl) rfl rfl rfl ?_
                        refine KL.op (R.assign rfl rfl) rfl rfl rfl ?_
                        refine KL.nil ?_
                        refine KQ.seq ?_
                        refine KC.ret ?_
                        refine KQ.retBlock ?_
                        refine KQ.retThen ?_
                        refine KQ.ofRet ?_
                        refine KQ.fin3 Try.results30 rfl rfl rfl ?_
                        first
                          | (have hx : op = 40 := (by omega)
                             subst hx
                             exact ⟨rfl, rfl⟩)
                          | (have hx : op = 54 := (by omega)
                             subst hx
                             exact ⟨rfl, rfl⟩)
                          | (have hx : op = 41 := (by omega)
                             subst hx
                             exact ⟨rfl, rfl⟩)
                          | (have hx : op = 55 := (by omega)
                             subst hx
                             exact ⟨rfl, rfl⟩)
                          | (have hx : op = 44 := (by omega)
                             subst hx
                             exact ⟨rfl, rfl⟩)
                          | (have hx : op = 48 := (by omega)
                             subst hx
                             exact ⟨rfl, rfl⟩)
                          | (have hx : op = 45 := (by omega)
                             subst hx
                             exact ⟨rfl, rfl⟩)
                          | (have hx : op = 49 := (by omega)
                             subst hx
                             exact ⟨rfl, rfl⟩)
                          | (have hx : op = 58 := (by omega)
                             subst hx
                             exact ⟨rfl, rfl⟩)
                          | (have hx : op = 60 := (by omega)
                             subst hx
                             exact ⟨rfl, rfl⟩)
                          | (have hx : op = 46 := (by omega)
                             subst hx
                             exact ⟨rfl, rfl⟩)
                          | (have hx : op = 50 := (by omega)
                             subst hx
                             exact ⟨rfl, rfl⟩)
                          | (have hx : op = 47 := (by omega)
                             subst hx
                             exact ⟨rfl, rfl⟩)
                          | (have hx : op = 51 := (by omega)
                             subst hx
                             exact ⟨rfl, rfl⟩)
                          | (have hx : op = 59 := (by omega)
                             subst hx
                             exact ⟨rfl, rfl⟩)
                          | (have hx : op = 61 := (by omega)
                             subst hx
                             exact ⟨rfl, rfl⟩)
                          | (have hx : op = 52 := (by omega)
                             subst hx
                             exact ⟨rfl, rfl⟩)
                          | (have hx : op = 53 := (by omega)
                             subst hx
                             exact ⟨rfl, rfl⟩)
                          | (have hx : op = 62 := (by omega)
                             subst hx
                             exact ⟨rfl, rfl⟩)
                          | (have h0 : mw op = 0 := (by unfold mw; rw [if_neg (by omega), if_neg (by omega), if_neg (by omega), if_neg (by omega)])
                             have h1 : sg op = false := (by unfold sg; exact decide_eq_false (by omega))
                             have h2 : rn op = 0 := (by unfold rn; rw [if_neg (by omega), if_pos h0])
                             rw [h0, h1, h2]
                             exact ⟨rfl, rfl⟩)
                      · intro hc25
                        try simp only [decide_eq_true_eq, decide_eq_false_iff_not, Bool.not_eq_true', Bool.not_eq_false', Bool.and_eq_true, Bool.or_eq_false_iff] at hc25
                        refine KC.region ?_
                        refine KL.op (R.eql rfl rfl rfl) rfl rfl rfl ?_
                        refine KL.op (R.assign rfl rfl) rfl rfl rfl ?_
                        refine KL.nil ?_
                        refine KQ.seq ?_
                        refine KC.iteL rfl ?_ ?_
                        · intro hc25
                          try simp only [decide_eq_true_eq, decide_eq_false_iff_not, Bool.not_eq_true', Bool.not_eq_false', Bool.and_eq_true, Bool.or_eq_false_iff] at hc25
                          refine KC.seq ?_
                          refine KC.region ?_
                          refine KL.op (R.move rfl rfl) rfl rfl rfl ?_
                          refine KL.op (R.convI rfl Try.underlying5 Try.underlying3 rfl (by dsimp only [InR]; omega)) rfl rfl rfl ?_
                          refine KL.op (R.sub rfl rfl rfl (by dsimp only [InR]; omega)) rfl rfl rfl ?_
                          refine KL.op (R.mul rfl rfl rfl (by dsimp only [InR]; omega)) rfl rfl rfl ?_
                          refine KL.op (R.add rfl rfl rfl (by dsimp only [InR]; omega)) rfl rfl rfl ?_
                          refine KL.op (R.assign rfl rfl) rfl rfl rfl ?_
                          refine KL.op (R.assign rfl rfl) rfl rfl rfl ?_
                          refine KL.op (R.assign rfl rfl) rfl rfl rfl ?_
                          refine KL.nil ?_
                          refine KQ.seq ?_
                          refine KC.ret ?_
                          refine KQ.retBlock ?_
                          refine KQ.retThen ?_
                          refine KQ.ofRet ?_
                          refine KQ.fin3 Try.results30 rfl rfl rfl ?_
                          first
                            | (have hx : op = 40 := (by omega)
                               subst hx
                               exact ⟨rfl, rfl⟩)
                            | (have hx : op = 54 := (by omega)
                               subst hx
                               exact ⟨rfl, rfl⟩)
                            | (have hx : op = 41 := (by omega)
                               subst hx
                               exact ⟨rfl, rfl⟩)
                            | (have hx : op = 55 := (by omega)
                               subst hx
                               exact ⟨rfl, rfl⟩)
                            | (have hx : op = 44 := (by omega)
                               subst hx
                               exact ⟨rfl, rfl⟩)
                            | (have hx : op = 48 := (by omega)
                               subst hx
                               exact ⟨rfl, rfl⟩)
                            | (have hx : op = 45 := (by omega)
                               subst hx
                               exact ⟨rfl, rfl⟩)
                            | (have hx : op = 49 := (by omega)
                               subst hx
                               exact ⟨rfl, rfl⟩)
                            | (have hx : op = 58 := (by omega)
                               subst hx
                               exact ⟨rfl, rfl⟩)
                            | (have hx : op = 60 := (by omega)
                               subst hx
                               exact ⟨rfl, rfl⟩)
                            | (have hx : op = 46 := (by omega)
                               subst hx
                               exact ⟨rfl, rfl⟩)
                            | (have hx : op = 50 := (by omega)
                               subst hx
                               exact ⟨rfl, rfl⟩)
                            | (have hx : op = 47 := (by omega)
                               subst hx
                               exact ⟨rfl, rfl⟩)
                            | (have hx : op = 51 := (by omega)
                               subst hx
                               exact ⟨rfl, rfl⟩)
                            | (have hx : op = 59 := (by omega)
                               subst hx
                               exact ⟨rfl, rfl⟩)
                            | (have hx : op = 61 := (by omega)
                               subst hx
                               exact ⟨rfl, rfl⟩)
                            | (have hx : op = 52 := (by omega)
                               subst hx
                               exact ⟨rfl, rfl⟩)
                            | (have hx : op = 53 := (by omega)
                               subst hx
                               exact ⟨rfl, rfl⟩)
                            | (have hx : op = 62 := (by omega)
                               subst hx
                               exact ⟨rfl, rfl⟩)
                            | (have h0 : mw op = 0 := (by unfold mw; rw [if_neg (by omega), if_neg (by omega), if_neg (by omega), if_neg (by omega)])
                               have h1 : sg op = false := (by unfold sg; exact decide_eq_false (by omega))
                               have h2 : rn op = 0 := (by unfold rn; rw [if_neg (by omega), if_pos h0])
                               rw [h0, h1, h2]
                               exact ⟨rfl, rfl⟩)
                        · intro hc25
                          try simp only [decide_eq_true_eq, decide_eq_false_iff_not, Bool.not_eq_true', Bool.not_eq_false', Bool.and_eq_true, Bool.or_eq_false_iff] at hc25
                          refine KC.seq ?_
                          refine KC.seq ?_
                          refine KC.region ?_
                          refine KL.op (R.eql rfl rfl rfl) rfl rfl rfl ?_
                          refine KL.op (R.assign rfl rfl) rfl rfl rfl ?_
                          refine KL.nil ?_
                          refine KQ.seq ?_
                          refine KC.iteL rfl ?_ ?_
                          · intro hc33
                            try simp only [decide_eq_true_eq, decide_eq_false_iff_not, Bool.not_eq_true', Bool.not_eq_false', Bool.and_eq_true, Bool.or_eq_false_iff] at hc33
                            refine KC.skip ?_
                            refine KQ.seq ?_
                            refine KC.condT rfl ?_
                            refine KC.seq ?_
                            refine KC.region ?_
                            refine KL.op (R.assign rfl rfl) rfl rfl rfl ?_
                            refine KL.op (R.assign rfl rfl) rfl rfl rfl ?_
                            refine KL.op (R.assign rfl rfl) rfl rfl rfl ?_
                            refine KL.nil ?_
                            refine KQ.seq ?_
                            refine KC.ret ?_
                            refine KQ.retBlock ?_
                            refine KQ.retThen ?_
                            refine KQ.ofRet ?_
                            refine KQ.fin3 Try.results30 rfl rfl rfl ?_
                            first
                              | (have hx : op = 40 := (by omega)
                                 subst hx
                                 exact ⟨rfl, rfl⟩)
                              | (have hx : op = 54 := (by omega)
                                 subst hx
                                 exact ⟨rfl, rfl⟩)
                              | (have hx : op = 41 := (by omega)
                                 subst hx
                                 exact ⟨rfl, rfl⟩)
                              | (have hx : op = 55 := (by omega)
                                 subst hx
                                 exact ⟨rfl, rfl⟩)
                              | (have hx : op = 44 := (by omega)
                                 subst hx
                                 exact ⟨rfl, rfl⟩)
                              | (have hx : op = 48 := (by omega)
                                 subst hx
                                 exact ⟨rfl, rfl⟩)
                              | (have hx : op = 45 := (by omega)
                                 subst hx
                                 exact ⟨rfl, rfl⟩)
                              | (have hx : op = 49 := (by omega)
                                 subst hx
                                 exact ⟨rfl, rfl⟩)
                              | (have hx : op = 58 := (by omega)
                                 subst hx
                                 exact ⟨rfl, rfl⟩)
                              | (have hx : op = 60 := (by omega)
                                 subst hx
                                 exact ⟨rfl, rfl⟩)
                              | (have hx : op = 46 := (by omega)
                                 subst hx
                                 exact ⟨rfl, rfl⟩)
                              | (have hx : op = 50 := (by omega)
                                 subst hx
                                 exact ⟨rfl, rfl⟩)
                              | (have hx : op = 47 := (by omega)
                                 subst hx
                                 exact ⟨rfl, rfl⟩)
                              | (have hx : op = 51 := (by omega)
                                 subst hx
                                 exact ⟨rfl, rfl⟩)
                              | (have hx : op = 59 := (by omega)
                                 subst hx
                                 exact ⟨rfl, rfl⟩)
                              | (have hx : op = 61 := (by omega)
                                 subst hx
                                 exact ⟨rfl, rfl⟩)
                              | (have hx : op = 52 := (by omega)
                                 subst hx
                                 exact ⟨rfl, rfl⟩)
                              | (have hx : op = 53 := (by omega)
                                 subst hx
                                 exact ⟨rfl, rfl⟩)
                              | (have hx : op = 62 := (by omega)
                                 subst hx
                                 exact ⟨rfl, rfl⟩)
                              | (have h0 : mw op = 0 := (by unfold mw; rw [if_neg (by omega), if_neg (by omega), if_neg (by omega), if_neg (by omega)])
                                 have h1 : sg op = false := (by unfold sg; exact decide_eq_false (by omega))
                                 have h2 : rn op = 0 := (by unfold rn; rw [if_neg (by omega), if_pos h0])
                                 rw [h0, h1, h2]
                                 exact ⟨rfl, rfl⟩)
                          · intro hc33
                            try simp only [decide_eq_true_eq, decide_eq_false_iff_not, Bool.not_eq_true', Bool.not_eq_false', Bool.and_eq_true, Bool.or_eq_false_iff] at hc33
                            refine KC.seq ?_
                            refine KC.region ?_
                            refine KL.op (R.eql rfl rfl rfl) rfl rfl rfl ?_
                            refine KL.op (R.assign rfl rfl) rfl rfl rfl ?_
                            refine KL.nil ?_
                            refine KQ.seq ?_
                            refine KC.iteL rfl ?_ ?_
                            · intro hc33
                              try simp only [decide_eq_true_eq, decide_eq_false_iff_not, Bool.not_eq_true', Bool.not_eq_false', Bool.and_eq_true, Bool.or_eq_false_iff] at hc33
                              refine KC.skip ?_
                              refine KQ.seq ?_
                              refine KC.condT rfl ?_
                              refine KC.seq ?_
                              refine KC.region ?_
                              refine KL.op (R.assign rfl rfl) rfl rfl rfl ?_
                              refine KL.op (R.assign rfl rfl) rfl rfl rfl ?_
                              refine KL.op (R.assign rfl rfl) rfl rfl rfl ?_
                              refine KL.nil ?_
                              refine KQ.seq ?_
                              refine KC.ret ?_
                              refine KQ.retBlock ?_
                              refine KQ.retThen ?_
                              refine KQ.ofRet ?_
                              refine KQ.fin3 Try.results30 rfl rfl rfl ?_
                              first
                                | (have hx : op = 40 := (by omega)
                                   subst hx
                                   exact ⟨rfl, rfl⟩)
                                | (have hx : op = 54 := (by omega)
                                   subst hx
                                   exact ⟨rfl, rfl⟩)
                                | (have hx : op = 41 := (by omega)
                                   subst hx
                                   exact ⟨rfl, rfl⟩)
                                | (have hx : op = 55 := (by omega)
                                   subst hx
                                   exact ⟨rfl, rfl⟩)
                                | (have hx : op = 44 := (by omega)
                                   subst hx
                                   exact ⟨rfl, rfl⟩)
                                | (have hx : op = 48 := (by omega)
                                   subst hx
                                   exact ⟨rfl, rfl⟩)
                                | (have hx : op = 45 := (by omega)
                                   subst hx
                                   exact ⟨rfl, rfl⟩)
                                | (have hx : op = 49 := (by omega)
                                   subst hx
                                   exact ⟨rfl, rfl⟩)
                                | (have hx : op = 58 := (by omega)
                                   subst hx
                                   exact ⟨rfl, rfl⟩)
                                | (have hx : op = 60 := (by omega)
                                   subst hx
                                   exact ⟨rfl, rfl⟩)
                                | (have hx : op = 46 := (by omega)
                                   subst hx
                                   exact ⟨rfl, rfl⟩)
                                | (have hx : op = 50 := (by omega)
                                   subst hx
                                   exact ⟨rfl, rfl⟩)
                                | (have hx : op = 47 := (by omega)
                                   subst hx
                                   exact ⟨rfl, rfl⟩)
                                | (have hx : op = 51 := (by omega)
                                   subst hx
                                   exact ⟨rfl, rfl⟩)
                                | (have hx : op = 59 := (by omega)
                                   subst hx
                                   exact ⟨rfl, rfl⟩)
                                | (have hx : op = 61 := (by omega)
                                   subst hx
                                   exact ⟨rfl, rfl⟩)
                                | (have hx : op = 52 := (by omega)
                                   subst hx
                                   exact ⟨rfl, rfl⟩)
                                | (have hx : op = 53 := (by omega)
                                   subst hx
                                   exact ⟨rfl, rfl⟩)
                                | (have hx : op = 62 := (by omega)
                                   subst hx
                                   exact ⟨rfl, rfl⟩)
                                | (have h0 : mw op = 0 := (by unfold mw; rw [if_neg (by omega), if_neg (by omega), if_neg (by omega), if_neg (by omega)])
                                   have h1 : sg op = false := (by unfold sg; exact decide_eq_false (by omega))
                                   have h2 : rn op = 0 := (by unfold rn; rw [if_neg (by omega), if_pos h0])
                                   rw [h0, h1, h2]
                                   exact ⟨rfl, rfl⟩)
                            · intro hc33
                              try simp only [decide_eq_true_eq, decide_eq_false_iff_not, Bool.not_eq_true', Bool.not_eq_false', Bool.and_eq_true, Bool.or_eq_false_iff] at hc33
                              refine KC.seq ?_
                              refine KC.region ?_
                              refine KL.op (R.eql rfl rfl rfl) rfl rfl rfl ?_
                              refine KL.op (R.assign rfl rfl) rfl rfl rfl ?_
                              refine KL.nil ?_
                              refine KQ.seq ?_
                              refine KC.iteL rfl ?_ ?_
                              · intro hc33
                                try simp only [decide_eq_true_eq, decide_eq_false_iff_not, Bool.not_eq_true', Bool.not_eq_false', Bool.and_eq_true, Bool.or_eq_false_iff] at hc33
                                refine KC.skip ?_
                                refine KQ.seq ?_
                                refine KC.condT rfl ?_
                                refine KC.seq ?_
                                refine KC.region ?_
                                refine KL.op (R.assign rfl rfl) rfl rfl rfl ?_
                                refine KL.op (R.assign rfl rfl) rfl rfl rfl ?_
                                refine KL.op (R.assign rfl rfl) rfl rfl rfl ?_
                                refine KL.nil ?_
                                refine KQ.seq ?_
                                refine KC.ret ?_
                                refine KQ.retBlock ?_
                                refine KQ.retThen ?_
                                refine KQ.ofRet ?_
                                refine KQ.fin3 Try.results30 rfl rfl rfl ?_
                                first
                                  | (have hx : op = 40 := (by omega)
                                     subst hx
                                     exact ⟨rfl, rfl⟩)
                                  | (have hx : op = 54 := (by omega)
                                     subst hx
                                     exact ⟨rfl, rfl⟩)
                                  | (have hx : op = 41 := (by omega)
                                     subst hx
                                     exact ⟨rfl, rfl⟩)
                                  | (have hx : op = 55 := (by omega)
                                     subst hx
                                     exact ⟨rfl, rfl⟩)
                                  | (have hx : op = 44 := (by omega)
                                     subst hx
                                     exact ⟨rfl, rfl⟩)
                                  | (have hx : op = 48 := (by omega)
                                     subst hx
                                     exact ⟨rfl, rfl⟩)
                                  | (have hx : op = 45 := (by omega)
                                     subst hx
                                     exact ⟨rfl, rfl⟩)
                                  | (have hx : op = 49 := (by omega)
                                     subst hx
                                     exact ⟨rfl, rfl⟩)
                                  | (have hx : op = 58 := (by omega)
                                     subst hx
                                     exact ⟨rfl, rfl⟩)
                                  | (have hx : op = 60 := (by omega)
                                     subst hx
                                     exact ⟨rfl, rfl⟩)
                                  | (have hx : op = 46 := (by omega)
                                     subst hx
                                     exact ⟨rfl, rfl⟩)
                                  | (have hx : op = 50 := (by omega)
                                     subst hx
                                     exact ⟨rfl, rfl⟩)
                                  | (have hx : op = 47 := (by omega)
                                     subst hx
                                     exact ⟨rfl, rfl⟩)
                                  | (have hx : op = 51 := (by omega)
                                     subst hx
                                     exact ⟨rfl, rfl⟩)
                                  | (have hx : op = 59 := (by omega)
                                     subst hx
                                     exact ⟨rfl, rfl⟩)
                                  | (have hx : op = 61 := (by omega)
                                     subst hx
                                     exact ⟨rfl, rfl⟩)
                                  | (have hx : op = 52 := (by omega)
                                     subst hx
                                     exact ⟨rfl, rfl⟩)
                                  | (have hx : op = 53 := (by omega)
                                     subst hx
                                     exact ⟨rfl, rfl⟩)
                                  | (have hx : op = 62 := (by omega)
                                     subst hx
                                     exact ⟨rfl, rfl⟩)
                                  | (have h0 : mw op = 0 := (by unfold mw; rw [if_neg (by omega), if_neg (by omega), if_neg (by omega), if_neg (by omega)])
                                     have h1 : sg op = false := (by unfold sg; exact decide_eq_false (by omega))
                                     have h2 : rn op = 0 := (by unfold rn; rw [if_neg (by omega), if_pos h0])
                                     rw [h0, h1, h2]
                                     exact ⟨rfl, rfl⟩)
                              · intro hc33
                                try simp only [decide_eq_true_eq, decide_eq_false_iff_not, Bool.not_eq_true', Bool.not_eq_false', Bool.and_eq_true, Bool.or_eq_false_iff] at hc33
                                refine KC.region ?_
                                refine KL.op (R.eql rfl rfl rfl) rfl rfl rfl ?_
                                refine KL.op (R.assign rfl rfl) rfl rfl rfl ?_
                                refine KL.nil ?_
                                refine KQ.seq ?_
                                refine KC.iteL rfl ?_ ?_
                                · intro hc33
                                  try simp only [decide_eq_true_eq, decide_eq_false_iff_not, Bool.not_eq_true', Bool.not_eq_false', Bool.and_eq_true, Bool.or_eq_false_iff] at hc33
                                  refine KC.seq ?_
                                  refine KC.region ?_
                                  refine KL.op (R.assign rfl rfl) rfl rfl rfl ?_
                                  refine KL.op (R.assign rfl rfl) rfl rfl rfl ?_
                                  refine KL.op (R.assign rfl rfl) rfl rfl rfl ?_
                                  refine KL.nil ?_
                                  refine KQ.seq ?_
                                  refine KC.ret ?_
                                  refine KQ.retBlock ?_
                                  refine KQ.retThen ?_
                                  refine KQ.ofRet ?_
                                  refine KQ.fin3 Try.results30 rfl rfl rfl ?_
                                  first
                                    | (have hx : op = 40 := (by omega)
                                       subst hx
                                       exact ⟨rfl, rfl⟩)
                                    | (have hx : op = 54 := (by omega)
                                       subst hx
                                       exact ⟨rfl, rfl⟩)
                                    | (have hx : op = 41 := (by omega)
                                       subst hx
                                       exact ⟨rfl, rfl⟩)
                                    | (have hx : op = 55 := (by omega)
                                       subst hx
                                       exact ⟨rfl, rfl⟩)
                                    | (have hx : op = 44 := (by omega)
                                       subst hx
                                       exact ⟨rfl, rfl⟩)
                                    | (have hx : op = 48 := (by omega)
                                       subst hx
                                       exact ⟨rfl, rfl⟩)
                                    | (have hx : op = 45 := (by omega)
                                       subst hx
                                       exact ⟨rfl, rfl⟩)
                                    | (have hx : op = 49 := (by omega)
                                       subst hx
                                       exact ⟨rfl, rfl⟩)
                                    | (have hx : op = 58 := (by omega)
                                       subst hx
                                       exact ⟨rfl, rfl⟩)
                                    | (have hx : op = 60 := (by omega)
                                       subst hx
                                       exact ⟨rfl, rfl⟩)
                                    | (have hx : op = 46 := (by omega)
                                       subst hx
                                       exact ⟨rfl, rfl⟩)
                                    | (have hx : op = 50 := (by omega)
                                       subst hx
                                       exact ⟨rfl, rfl⟩)
                                    | (have hx : op = 47 := (by omega)
                                       subst hx
                                       exact ⟨rfl, rfl⟩)
                                    | (have hx : op = 51 := (by omega)
                                       subst hx
                                       exact ⟨rfl, rfl⟩)
                                    | (have hx : op = 59 := (by omega)
                                       subst hx
                                       exact ⟨rfl, rfl⟩)
                                    | (have hx : op = 61 := (by omega)
                                       subst hx
                                       exact ⟨rfl, rfl⟩)
                                    | (have hx : op = 52 := (by omega)
                                       subst hx
                                       exact ⟨rfl, rfl⟩)
                                    | (have hx : op = 53 := (by omega)
                                       subst hx
                                       exact ⟨rfl, rfl⟩)
                                    | (have hx : op = 62 := (by omega)
                                       subst hx
                                       exact ⟨rfl, rfl⟩)
                                    | (have h0 : mw op = 0 := (by unfold mw; rw [if_neg (by omega), if_neg (by omega), if_neg (by omega), if_neg (by omega)])
                                       have h1 : sg op = false := (by unfold sg; exact decide_eq_false (by omega))
                                       have h2 : rn op = 0 := (by unfold rn; rw [if_neg (by omega), if_pos h0])
                                       rw [h0, h1, h2]
                                       exact ⟨rfl, rfl⟩)
                                · intro hc33
                                  try simp only [decide_eq_true_eq, decide_eq_false_iff_not, Bool.not_eq_true', Bool.not_eq_false', Bool.and_eq_true, Bool.or_eq_false_iff] at hc33
                                  refine KC.seq ?_
                                  refine KC.region ?_
                                  refine KL.op (R.eql rfl rfl rfl) rfl rfl rfl ?_
                                  refine KL.op (R.assign rfl rfl) rfl rfl rfl ?_
                                  refine KL.nil ?_
                                  refine KQ.seq ?_
                                  refine KC.iteL rfl ?_ ?_
                                  · intro hc38
                                    try simp only [decide_eq_true_eq, decide_eq_false_iff_not, Bool.not_eq_true', Bool.not_eq_false', Bool.and_eq_true, Bool.or_eq_false_iff] at hc38
                                    refine KC.seq ?_
                                    refine KC.region ?_
                                    refine KL.op (R.assign rfl rfl) rfl rfl rfl ?_
                                    refine KL.op (R.assign rfl rfl) rfl rfl rfl ?_
                                    refine KL.op (R.assign rfl rfl) rfl rfl rfl ?_
                                    refine KL.nil ?_
                                    refine KQ.seq ?_
                                    refine KC.ret ?_
                                    refine KQ.retBlock ?_
                                    refine KQ.retThen ?_
                                    refine KQ.ofRet ?_
                                    refine KQ.fin3 Try.results30 rfl rfl rfl ?_
                                    first
                                      | (have hx : op = 40 := (by omega)
                                         subst hx
                                         exact ⟨rfl, rfl⟩)
                                      | (have hx : op = 54 := (by omega)
                                         subst hx
                                         exact ⟨rfl, rfl⟩)
                                      | (have hx : op = 41 := (by omega)
                                         subst hx
                                         exact ⟨rfl, rfl⟩)
                                      | (have hx : op = 55 := (by omega)
                                         subst hx
                                         exact ⟨rfl, rfl⟩)
                                      | (have hx : op = 44 := (by omega)
                                         subst hx
                                         exact ⟨rfl, rfl⟩)
                                      | (have hx : op = 48 := (by omega)
                                         subst hx
                                         exact ⟨rfl, rfl⟩)
                                      | (have hx : op = 45 := (by omega)
                                         subst hx
                                         exact ⟨rfl, rfl⟩)
                                      | (have hx : op = 49 := (by omega)
                                         subst hx
                                         exact ⟨rfl, rfl⟩)
                                      | (have hx : op = 58 := (by omega)
                                         subst hx
                                         exact ⟨rfl, rfl⟩)
                                      | (have hx : op = 60 := (by omega)
                                         subst hx
                                         exact ⟨rfl, rfl⟩)
                                      | (have hx : op = 46 := (by omega)
                                         subst hx
                                         exact ⟨rfl, rfl⟩)
                                      | (have hx : op = 50 := (by omega)
                                         subst hx
                                         exact ⟨rfl, rfl⟩)
                                      | (have hx : op = 47 := (by omega)
                                         subst hx
                                         exact ⟨rfl, rfl⟩)
                                      | (have hx : op = 51 := (by omega)
                                         subst hx
                                         exact ⟨rfl, rfl⟩)
                                      | (have hx : op = 59 := (by omega)
                                         subst hx
                                         exact ⟨rfl, rfl⟩)
                                      | (have hx : op = 61 := (by omega)
                                         subst hx
                                         exact ⟨rfl, rfl⟩)
                                      | (have hx : op = 52 := (by omega)
                                         subst hx
                                         exact ⟨rfl, rfl⟩)
                                      | (have hx : op = 53 := (by omega)
                                         subst hx
                                         exact ⟨rfl, rfl⟩)
                                      | (have hx : op = 62 := (by omega)
                                         subst hx
                                         exact ⟨rfl, rfl⟩)
                                      | (have h0 : mw op = 0 := (by unfold mw; rw [if_neg (by omega), if_neg (by omega), if_neg (by omega), if_neg (by omega)])
                                         have h1 : sg op = false := (by unfold sg; exact decide_eq_false (by omega))
                                         have h2 : rn op = 0 := (by unfold rn; rw [if_neg (by omega), if_pos h0])
                                         rw [h0, h1, h2]
                                         exact ⟨rfl, rfl⟩)
                                  · intro hc38
                                    try simp only [decide_eq_true_eq, decide_eq_false_iff_not, Bool.not_eq_true', Bool.not_eq_false', Bool.and_eq_true, Bool.or_eq_false_iff] at hc38
                                    refine KC.seq ?_
                                    refine KC.seq ?_
                                    refine KC.region ?_
                                    refine KL.op (R.eql rfl rfl rfl) rfl rfl rfl ?_
                                    refine KL.op (R.assign rfl rfl) rfl rfl rfl ?_
                                    refine KL.nil ?_
                                    refine KQ.seq ?_
                                    refine KC.iteL rfl ?_ ?_
                                    · intro hc40
                                      try simp only [decide_eq_true_eq, decide_eq_false_iff_not, Bool.not_eq_true', Bool.not_eq_false', Bool.and_eq_true, Bool.or_eq_false_iff] at hc40
                                      refine KC.skip ?_
                                      refine KQ.seq ?_
                                      refine KC.condT rfl ?_
                                      refine KC.seq ?_
                                      refine KC.region ?_
                                      refine KL.op (R.assign rfl rfl) rfl rfl rfl ?_
                                      refine KL.op (R.assign rfl rfl) rfl rfl rfl ?_
                                      refine KL.op (R.assign rfl rfl) rfl rfl rfl ?_
                                      refine KL.nil ?_
                                      refine KQ.seq ?_
                                      refine KC.ret ?_
                                      refine KQ.retBlock ?_
                                      refine KQ.retThen ?_
                                      refine KQ.ofRet ?_
                                      refine KQ.fin3 Try.results30 rfl rfl rfl ?_
                                      first
                                        | (have hx : op = 40 := (by omega)
                                           subst hx
                                           exact ⟨rfl, rfl⟩)
                                        | (have hx : op = 54 := (by omega)
                                           subst hx
                                           exact ⟨rfl, rfl⟩)
                                        | (have hx : op = 41 := (by omega)
                                           subst hx
                                           exact ⟨rfl, rfl⟩)
                                        | (have hx : op = 55 := (by omega)
                                           subst hx
                                           exact ⟨rfl, rfl⟩)
                                        | (have hx : op = 44 := (by omega)
                                           subst hx
                                           exact ⟨rfl, rfl⟩)
                                        | (have hx : op = 48 := (by omega)
                                           subst hx
                                           exact ⟨rfl, rfl⟩)
                                        | (have hx : op = 45 := (by omega)
                                           subst hx
                                           exact ⟨rfl, rfl⟩)
                                        | (have hx : op = 49 := (by omega)
                                           subst hx
                                           exact ⟨rfl, rfl⟩)
                                        | (have hx : op = 58 := (by omega)
                                           subst hx
                                           exact ⟨rfl, rfl⟩)
                                        | (have hx : op = 60 := (by omega)
                                           subst hx
                                           exact ⟨rfl, rfl⟩)
                                        | (have hx : op = 46 := (by omega)
                                           subst hx
                                           exact ⟨rfl, rfl⟩)
                                        | (have hx : op = 50 := (by omega)
                                           subst hx
                                           exact ⟨rfl, rfl⟩)
                                        | (have hx : op = 47 := (by omega)
                                           subst hx
                                           exact ⟨rfl, rfl⟩)
                                        | (have hx : op = 51 := (by omega)
                                           subst hx
                                           exact ⟨rfl, rfl⟩)
                                        | (have hx : op = 59 := (by omega)
                                           subst hx
                                           exact ⟨rfl, rfl⟩)
                                        | (have hx : op = 61 := (by omega)
                                           subst hx
                                           exact ⟨rfl, rfl⟩)
                                        | (have hx : op = 52 := (by omega)
                                           subst hx
                                           exact ⟨rfl, rfl⟩)
                                        | (have hx : op = 53 := (by omega)
                                           subst hx
                                           exact ⟨rfl, rfl⟩)
                                        | (have hx : op = 62 := (by omega)
                                           subst hx
                                           exact ⟨rfl, rfl⟩)
                                        | (have h0 : mw op = 0 := (by unfold mw; rw [if_neg (by omega), if_neg (by omega), if_neg (by omega), if_neg (by omega)])
                                           have h1 : sg op = false := (by unfold sg; exact decide_eq_false (by omega))
                                           have h2 : rn op = 0 := (by unfold rn; rw [if_neg (by omega), if_pos h0])
                                           rw [h0, h1, h2]
                                           exact ⟨rfl, rfl⟩)
                                    · intro hc40
                                      try simp only [decide_eq_true_eq, decide_eq_false_iff_not, Bool.not_eq_true', Bool.not_eq_false', Bool.and_eq_true, Bool.or_eq_false_iff] at hc40
                                      refine KC.region ?_
                                      refine KL.op (R.eql rfl rfl rfl) rfl rfl rfl ?_
                                      refine KL.op (R.assign rfl rfl) rfl rfl rfl ?_
                                      refine KL.nil ?_
                                      refine KQ.seq ?_
                                      refine KC.iteL rfl ?_ ?_
                                      · intro hc40
                                        try simp only [decide_eq_true_eq, decide_eq_false_iff_not, Bool.not_eq_true', Bool.not_eq_false', Bool.and_eq_true, Bool.or_eq_false_iff] at hc40
                                        refine KC.seq ?_
                                        refine KC.region ?_
                                        refine KL.op (R.assign rfl rfl) rfl rfl rfl ?_
                                        refine KL.op (R.assign rfl rfl) rfl rfl rfl ?_
                                        refine KL.op (R.assign rfl rfl) rfl rfl rfl ?_
                                        refine KL.nil ?_
                                        refine KQ.seq ?_
                                        refine KC.ret ?_
                                        refine KQ.retBlock ?_
                                        refine KQ.retThen ?_
                                        refine KQ.ofRet ?_
                                        refine KQ.fin3 Try.results30 rfl rfl rfl ?_
                                        first
                                          | (have hx : op = 40 := (by omega)
                                             subst hx
                                             exact ⟨rfl, rfl⟩)
                                          | (have hx : op = 54 := (by omega)
                                             subst hx
                                             exact ⟨rfl, rfl⟩)
                                          | (have hx : op = 41 := (by omega)
                                             subst hx
                                             exact ⟨rfl, rfl⟩)
                                          | (have hx : op = 55 := (by omega)
                                             subst hx
                                             exact ⟨rfl, rfl⟩)
                                          | (have hx : op = 44 := (by omega)
                                             subst hx
                                             exact ⟨rfl, rfl⟩)
                                          | (have hx : op = 48 := (by omega)
                                             subst hx
                                             exact ⟨rfl, rfl⟩)
                                          | (have hx : op = 45 := (by omega)
                                             subst hx
                                             exact ⟨rfl, rfl⟩)
                                          | (have hx : op = 49 := (by omega)
                                             subst hx
                                             exact ⟨rfl, rfl⟩)
                                          | (have hx : op = 58 := (by omega)
                                             subst hx
                                             exact ⟨rfl, rfl⟩)
                                          | (have hx : op = 60 := (by omega)
                                             subst hx
                                             exact ⟨rfl, rfl⟩)
                                          | (have hx : op = 46 := (by omega)
                                             subst hx
                                             exact ⟨rfl, rfl⟩)
                                          | (have hx : op = 50 := (by omega)
                                             subst hx
                                             exact ⟨rfl, rfl⟩)
                                          | (have hx : op = 47 := (by omega)
                                             subst hx
                                             exact ⟨rfl, rfl⟩)
                                          | (have hx : op = 51 := (by omega)
                                             subst hx
                                             exact ⟨rfl, rfl⟩)
                                          | (have hx : op = 59 := (by omega)
                                             subst hx
                                             exact ⟨rfl, rfl⟩)
                                          | (have hx : op = 61 := (by omega)
                                             subst hx
                                             exact ⟨rfl, rfl⟩)
                                          | (have hx : op = 52 := (by omega)
                                             subst hx
                                             exact ⟨rfl, rfl⟩)
                                          | (have hx : op = 53 := (by omega)
                                             subst hx
                                             exact ⟨rfl, rfl⟩)
                                          | (have hx : op = 62 := (by omega)
                                             subst hx
                                             exact ⟨rfl, rfl⟩)
                                          | (have h0 : mw op = 0 := (by unfold mw; rw [if_neg (by omega), if_neg (by omega), if_neg (by omega), if_neg (by omega)])
                                             have h1 : sg op = false := (by unfold sg; exact decide_eq_false (by omega))
                                             have h2 : rn op = 0 := (by unfold rn; rw [if_neg (by omega), if_pos h0])
                                             rw [h0, h1, h2]
                                             exact ⟨rfl, rfl⟩)
                                      · intro hc40
                                        try simp only [decide_eq_true_eq, decide_eq_false_iff_not, Bool.not_eq_true', Bool.not_eq_false', Bool.and_eq_true, Bool.or_eq_false_iff] at hc40
                                        refine KC.skip ?_
                                        refine KQ.normBlock ?_
                                        refine KQ.seq ?_
                                        refine KC.seq ?_
                                        refine KC.region ?_
                                        refine KL.op (R.assign rfl rfl) rfl rfl rfl ?_
                                        refine KL.op (R.assign rfl rfl) rfl rfl rfl ?_
                                        refine KL.op (R.assign rfl rfl) rfl rfl rfl ?_
                                        refine KL.nil ?_
                                        refine KQ.seq ?_
                                        refine KC.ret ?_
                                        refine KQ.ofRet ?_
                                        refine KQ.fin3 Try.results30 rfl rfl rfl ?_
                                        first
                                          | (have hx : op = 40 := (by omega)
                                             subst hx
                                             exact ⟨rfl, rfl⟩)
                                          | (have hx : op = 54 := (by omega)
                                             subst hx
                                             exact ⟨rfl, rfl⟩)
                                          | (have hx : op = 41 := (by omega)
                                             subst hx
                                             exact ⟨rfl, rfl⟩)
                                          | (have hx : op = 55 := (by omega)
                                             subst hx
                                             exact ⟨rfl, rfl⟩)
                                          | (have hx : op = 44 := (by omega)
                                             subst hx
                                             exact ⟨rfl, rfl⟩)
                                          | (have hx : op = 48 := (by omega)
                                             subst hx
                                             exact ⟨rfl, rfl⟩)
                                          | (have hx : op = 45 := (by omega)
                                             subst hx
                                             exact ⟨rfl, rfl⟩)
                                          | (have hx : op = 49 := (by omega)
                                             subst hx
                                             exact ⟨rfl, rfl⟩)
                                          | (have hx : op = 58 := (by omega)
                                             subst hx
                                             exact ⟨rfl, rfl⟩)
                                          | (have hx : op = 60 := (by omega)
                                             subst hx
                                             exact ⟨rfl, rfl⟩)
                                          | (have hx : op = 46 := (by omega)
                                             subst hx
                                             exact ⟨rfl, rfl⟩)
                                          | (have hx : op = 50 := (by omega)
                                             subst hx
                                             exact ⟨rfl, rfl⟩)
                                          | (have hx : op = 47 := (by omega)
                                             subst hx
                                             exact ⟨rfl, rfl⟩)
                                          | (have hx : op = 51 := (by omega)
                                             subst hx
                                             exact ⟨rfl, rfl⟩)
                                          | (have hx : op = 59 := (by omega)
                                             subst hx
                                             exact ⟨rfl, rfl⟩)
                                          | (have hx : op = 61 := (by omega)
                                             subst hx
                                             exact ⟨rfl, rfl⟩)
                                          | (have hx : op = 52 := (by omega)
                                             subst hx
                                             exact ⟨rfl, rfl⟩)
                                          | (have hx : op = 53 := (by omega)
                                             subst hx
                                             exact ⟨rfl, rfl⟩)
                                          | (have hx : op = 62 := (by omega)
                                             subst hx
                                             exact ⟨rfl, rfl⟩)
                                          | (have h0 : mw op = 0 := (by unfold mw; rw [if_neg (by omega), if_neg (by omega), if_neg (by omega), if_neg (by omega)])
                                             have h1 : sg op = false := (by unfold sg; exact decide_eq_false (by omega))
                                             have h2 : rn op = 0 := (by unfold rn; rw [if_neg (by omega), if_pos h0])
                                             rw [h0, h1, h2]
                                             exact ⟨rfl, rfl⟩)

set_option maxRecDepth 100000 in
set_option maxHeartbeats 4000000 in
theorem rin_any {H : Heap} (g : Nat) (v : Value) (bs : List Int) (most : Int) (h : MAt 58 .u64 H g v bs most) (a n : Int) (ha : 0 ≤ a) (ha2 : a ≤ 8589934592) (hn0 : 0 ≤ n) (hn2 : n ≤ 9223372036854775807) : Ct Try.prog 31 [.pointer (some ⟨g, 0, none⟩), .int .u64 a, .int .i64 n] H (fun u H' => u = .bool (decide (a + n ≤ bs.length)) ∧ H = H') := by
  refine Ct.mk Try.func31 rfl Try.ntmps31 rfl ?_
  intro W0 hW0
  have o0 : Old H H := Old.refl H
  have hb := h.b
  have hw := h.w
  have hn := h.n
  have hs := hw.sl (emptyOld _) (by decide)
  refine KC.seq ?_
  refine KC.region ?_
  refine KL.op (R.assign rfl rfl) rfl rfl rfl ?_
  refine KL.nil ?_
  refine KQ.seq ?_
  refine KC.seq ?_
  refine KC.region ?_
  refine KL.op (R.move rfl rfl) rfl rfl rfl ?_
  refine KL.op (R.move rfl rfl) rfl rfl rfl ?_
  refine KL.op (R.convI rfl Try.underlying3 Try.underlying28 rfl (by dsimp only [InR]; omega)) rfl rfl rfl ?_
  refine KL.op (R.add rfl rfl rfl (by dsimp only [InR]; omega)) rfl rfl rfl ?_
  refine KL.op (R.move rfl rfl) rfl rfl rfl ?_
  refine KL.op (R.nilCheck rfl rfl) rfl rfl rfl ?_
  refine KL.op ((by first | exact R.fieldAddr rfl Try.underlying58 rfl rfl sz22 rfl | exact R.fieldAddrP rfl Try.underlying58 rfl rfl sz22 rfl)) rfl rfl rfl ?_
  refine KL.op (R.load rfl Try.underlying22 rfl rfl (by first | exact cell_of hb rfl | assumption)) rfl rfl rfl ?_
  refine KL.op (R.lenO rfl Try.underlying22 rfl hw) rfl rfl rfl ?_
  refine KL.op (R.convI rfl Try.underlying3 Try.underlying28 rfl (by dsimp only [InR]; omega)) rfl rfl rfl ?_
  refine KL.op (R.leq rfl rfl rfl) rfl rfl rfl ?_
  refine KL.op (R.assign rfl rfl) rfl rfl rfl ?_
  refine KL.nil ?_
  refine KQ.seq ?_
  refine KC.ret ?_
  refine KQ.ofRet ?_
  refine KQ.fin1 Try.results31 rfl ?_
  exact ⟨rfl, rfl⟩

set_option maxRecDepth 100000 in
set_option maxHeartbeats 4000000 in
theorem rbit_any {H : Heap} (i : Int) (h0 : 0 ≤ i) (h1 : i < 64) : Ct Try.prog 32 [.int .i64 i] H (fun u H' => u = .int .u64 (2 ^ i.toNat) ∧ H = H') := by
  refine Ct.mk Try.func32 rfl Try.ntmps32 rfl ?_
  intro W0 hW0
  have o0 : Old H H := Old.refl H
  refine KC.seq ?_
  refine KC.region ?_
  refine KL.op (R.assign rfl rfl) rfl rfl rfl ?_
  refine KL.nil ?_
  refine KQ.seq ?_
  refine KC.seq ?_
  refine KC.region ?_
  refine KL.op (R.assign rfl rfl) rfl rfl rfl ?_
  refine KL.nil ?_
  refine KQ.seq ?_
  refine KC.seq ?_
  refine KC.seq ?_
  refine KC.region ?_
  refine KL.op (R.assign rfl rfl) rfl rfl rfl ?_
  refine KL.nil ?_
  refine KQ.seq ?_
  refine KC.block ?_
  refine KC.loopD (κ := Nat) [5, 6, 7, 10, 11, 3, 8, 9, 4] (fun k => [(4, .int .i64 (k : Nat)), (3, .int .u64 (2 ^ k))]) (fun k Hl => k ≤ i.toNat ∧ H = Hl) (fun k => i.toNat - k) 0 ?_ ?_ ?_
  · exact (Sub.cons rfl (Sub.cons rfl (Ext.sub (Ext.refl _ _))))
  · exact ⟨Nat.zero_le _, rfl⟩
  · rintro k H1 ⟨hk, rfl⟩
    refine KC.seq ?_
    refine KC.seq ?_
    refine KC.region ?_
    refine KL.op (R.move rfl rfl) rfl rfl rfl ?_
    refine KL.op (R.move rfl rfl) rfl rfl rfl ?_
    refine KL.op (R.lss rfl rfl rfl) rfl rfl rfl ?_
    refine KL.nil ?_
    refine KQ.seq ?_
    refine KC.iteL rfl ?_ ?_
    · intro hc7
      try simp only [decide_eq_true_eq, decide_eq_false_iff_not, Bool.not_eq_true', Bool.not_eq_false', Bool.and_eq_true, Bool.or_eq_false_iff] at hc7
      have hp : (2 : Int) ^ k ≤ 2 ^ 62 := (by have := Nat.pow_le_pow_right (show 0 < 2 by omega) (show k ≤ 62 by omega); exact_mod_cast this)
      have hp0 : (0 : Int) < 2 ^ k := Int.pow_pos (by omega)
      refine KC.skip ?_
      refine KQ.seq ?_
      refine KC.seq ?_
      refine KC.block ?_
      refine KC.region ?_
      refine KL.op (R.move rfl rfl) rfl rfl rfl ?_
      refine KL.op ((R.mul rfl rfl rfl (by dsimp only [InR]; omega)).val (congrArg (Value.int .u64) (show 2 * (2 : Int) ^ k = 2 ^ (k + 1) by rw [Int.pow_succ]; omega))) rfl rfl rfl ?_
      refine KL.op (R.assign rfl rfl) rfl rfl rfl ?_
      refine KL.nil ?_
      refine KQ.normBlock ?_
      refine KQ.seq ?_
      refine KC.region ?_
      refine KL.op (R.move rfl rfl) rfl rfl rfl ?_
      refine KL.op (R.add rfl rfl rfl (by dsimp only [InR]; omega)) rfl rfl rfl ?_
      refine KL.op (R.assign rfl rfl) rfl rfl rfl ?_
      refine KL.nil ?_
      refine KQ.again (k + 1) ?_ ?_ ?_
      · exact (Sub.cons rfl (Sub.cons rfl (Ext.sub (by repeat (first | exact Ext.refl _ _ | refine Ext.put rfl ?_ | refine Ext.drop rfl ?_)))))
      · omega
      · exact ⟨by omega, rfl⟩
    · intro hc7
      try simp only [decide_eq_true_eq, decide_eq_false_iff_not, Bool.not_eq_true', Bool.not_eq_false', Bool.and_eq_true, Bool.or_eq_false_iff] at hc7
      refine KC.exit ?_
      refine KQ.exitThen ?_
      refine KQ.exitThen ?_
      refine KQ.hit ?_
      refine KQ.seq ?_
      refine KC.seq ?_
      refine KC.region ?_
      refine KL.op (R.move rfl rfl) rfl rfl rfl ?_
      refine KL.op (R.assign rfl rfl) rfl rfl rfl ?_
      refine KL.nil ?_
      refine KQ.seq ?_
      refine KC.ret ?_
      refine KQ.ofRet ?_
      refine KQ.fin1 Try.results32 rfl ?_
      have ek : k = i.toNat := (by omega)
      subst ek
      exact ⟨rfl, rfl⟩

end Go.Proofs.Ytdefjpakpgchhaa
