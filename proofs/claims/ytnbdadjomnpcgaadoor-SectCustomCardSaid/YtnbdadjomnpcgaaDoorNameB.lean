/- The document tells whether bytes are a text; name.Valid. No condition but that the library tables are laid. -/
import Derived.Test.YtnbdadjomnpcgaaDoorNameA
import Derived.Test.YtnbdadjomnpcgaaDoorUtfQ
namespace Go.Proofs.YtnbdadjomnpcgaaDoor
open Go Go.RowKit
set_option linter.unusedVariables false
set_option linter.unusedSimpArgs false
set_option linter.unnecessarySimpa false
set_option maxRecDepth 100000 in
set_option maxHeartbeats 4000000 in
theorem One_any {H : Heap} (v : Value) (l : List Int) (hs : Sl 1 (EInt .u8) H v l) (h0 : 0 < l.length) : Ct Tryd.prog 41 [v] H (fun u H' => u = .int .i64 (Utf.chr l : Nat) ∧ H = H') := by
  refine Ct.mk Tryd.func41 rfl Tryd.ntmps41 rfl ?_
  intro W0 hW0
  have o0 : Old H H := Old.refl H
  have q0 := (hs.int 0 h0).2
  have q1 := q0
  dsimp only [InR] at q1
  refine KC.seq ?_
  refine KC.region ?_
  refine KL.op (R.assign rfl rfl) rfl rfl rfl ?_
  refine KL.nil ?_
  refine KQ.seq ?_
  refine KC.seq ?_
  refine KC.region ?_
  refine KL.op (R.move rfl rfl) rfl rfl rfl ?_
  refine KL.op (R.index1 (j := 0) rfl Tryd.underlying22 sz5 rfl rfl hs rfl (by omega)) rfl rfl rfl ?_
  refine KL.op (R.load rfl Tryd.underlying5 rfl rfl ((hs.int 0 (by omega)).1)) rfl rfl rfl ?_
  refine KL.op (R.convI rfl Tryd.underlying5 Tryd.underlying76 rfl (by dsimp only [InR]; omega)) rfl rfl rfl ?_
  refine KL.op (R.assign rfl rfl) rfl rfl rfl ?_
  refine KL.nil ?_
  refine KQ.seq ?_
  refine KC.seq ?_
  refine KC.region ?_
  refine KL.op (R.assign rfl rfl) rfl rfl rfl ?_
  refine KL.nil ?_
  refine KQ.seq ?_
  refine KC.seq ?_
  refine KC.region ?_
  refine KL.op (R.assign rfl rfl) rfl rfl rfl ?_
  refine KL.nil ?_
  refine KQ.seq ?_
  refine KC.seq ?_
  refine KC.block ?_
  refine KC.seq ?_
  refine KC.region ?_
  refine KL.op (R.move rfl rfl) rfl rfl rfl ?_
  refine KL.op (R.lss rfl rfl rfl) rfl rfl rfl ?_
  refine KL.op (R.assign rfl rfl) rfl rfl rfl ?_
  refine KL.nil ?_
  refine KQ.seq ?_
  refine KC.iteL rfl ?_ ?_
  · intro hc11
    try simp only [decide_eq_true_eq, decide_eq_false_iff_not, Bool.not_eq_true', Bool.not_eq_false', Bool.and_eq_true, Bool.or_eq_false_iff] at hc11
    refine KC.skip ?_
    refine KQ.normBlock ?_
    refine KQ.seq ?_
    refine KC.seq ?_
    refine KC.seq ?_
    refine KC.region ?_
    refine KL.op (R.move rfl rfl) rfl rfl rfl ?_
    refine KL.op ((by first | exact R.lenS rfl Tryd.underlying22 rfl (by first | exact hs | assumption) | exact R.len (ty := 0) rfl Tryd.underlying22 rfl)) rfl rfl rfl ?_
    refine KL.op (R.move rfl rfl) rfl rfl rfl ?_
    refine KL.op (R.lss rfl rfl rfl) rfl rfl rfl ?_
    refine KL.nil ?_
    refine KQ.seq ?_
    refine KC.iteL rfl ?_ ?_
    · intro hc44
      try simp only [decide_eq_true_eq, decide_eq_false_iff_not, Bool.not_eq_true', Bool.not_eq_false', Bool.and_eq_true, Bool.or_eq_false_iff] at hc44
      refine KC.seq ?_
      refine KC.region ?_
      refine KL.op (R.assign rfl rfl) rfl rfl rfl ?_
      refine KL.nil ?_
      refine KQ.seq ?_
      refine KC.ret ?_
      refine KQ.retThen ?_
      refine KQ.ofRet ?_
      refine KQ.fin1 Tryd.results41 rfl ?_
      first
        | exact ⟨congrArg (Value.int .i64) (show (0 : Int) = ((Utf.chr l : Nat) : Int) by rw [Utf.chr0 q0 (by omega)]; rfl), rfl⟩
        | exact ⟨congrArg (Value.int .i64) (show (1 : Int) = ((Utf.chr l : Nat) : Int) by rw [Utf.chr1 (by omega)]; rfl), rfl⟩
        | exact ⟨congrArg (Value.int .i64) (show (0 : Int) = ((Utf.chr l : Nat) : Int) by rw [Utf.chr2 q0 (by omega), if_pos (by omega)]; rfl), rfl⟩
        | exact ⟨congrArg (Value.int .i64) (show (2 : Int) = ((Utf.chr l : Nat) : Int) by rw [Utf.chr2 q0 (by omega), if_neg (by omega)]; rfl), rfl⟩
        | exact ⟨congrArg (Value.int .i64) (show (0 : Int) = ((Utf.chr l : Nat) : Int) by rw [Utf.chr3 q0 (by omega), if_pos (by omega)]; rfl), rfl⟩
        | exact ⟨congrArg (Value.int .i64) (show (3 : Int) = ((Utf.chr l : Nat) : Int) by rw [Utf.chr3 q0 (by omega), if_neg (by omega)]; rfl), rfl⟩
        | exact ⟨congrArg (Value.int .i64) (show (0 : Int) = ((Utf.chr l : Nat) : Int) by rw [Utf.chr4 q0 (by omega), if_pos (by omega)]; rfl), rfl⟩
        | exact ⟨congrArg (Value.int .i64) (show (4 : Int) = ((Utf.chr l : Nat) : Int) by rw [Utf.chr4 q0 (by omega), if_neg (by omega)]; rfl), rfl⟩
    · intro hc44
      try simp only [decide_eq_true_eq, decide_eq_false_iff_not, Bool.not_eq_true', Bool.not_eq_false', Bool.and_eq_true, Bool.or_eq_false_iff] at hc44
      refine KC.skip ?_
      refine KQ.seq ?_
      refine KC.seq ?_
      refine KC.seq ?_
      refine KC.region ?_
      refine KL.op (R.assign rfl rfl) rfl rfl rfl ?_
      refine KL.nil ?_
      refine KQ.seq ?_
      refine KC.block ?_
      refine KC.loopD (κ := Nat × Int) [45, 46, 47, 50, 51, 52, 53, 54, 55, 56, 57, 58, 59, 60, 61, 2, 62, 63, 64, 65, 66, 67, 68, 69, 70, 3, 48, 49, 6] (fun k => [(6, .int .i64 (k.1 : Nat)), (3, .int .u32 k.2)]) (fun k Hl => H = Hl ∧ 1 ≤ k.1 ∧ k.1 ≤ 1 ∧ k.2 = Utf.cp ((l.getD 0 default)) l k.1 ∧ (∀ j, 1 ≤ j → j < k.1 → 128 ≤ l.getD j default ∧ l.getD j default ≤ 191)) (fun k => 1 - k.1) (1, (l.getD 0 default)) ?_ ?_ ?_
      · exact (Sub.cons rfl (Sub.cons rfl (Ext.sub (Ext.refl _ _))))
      · exact ⟨rfl, Nat.le_refl _, by show 1 ≤ 1; omega, rfl, (fun j h1 h2 => absurd h2 (by show ¬ j < 1; omega))⟩
      · rintro ⟨k, cc⟩ H1 ⟨rfl, hk1, hkn, hcp, hco⟩
        dsimp only at hk1 hkn hcp hco
        refine KC.seq ?_
        refine KC.seq ?_
        refine KC.region ?_
        refine KL.op (R.move rfl rfl) rfl rfl rfl ?_
        refine KL.op (R.move rfl rfl) rfl rfl rfl ?_
        refine KL.op (R.lss rfl rfl rfl) rfl rfl rfl ?_
        refine KL.nil ?_
        refine KQ.seq ?_
        refine KC.iteL rfl ?_ ?_
        · intro hc47
          try simp only [decide_eq_true_eq, decide_eq_false_iff_not, Bool.not_eq_true', Bool.not_eq_false', Bool.and_eq_true, Bool.or_eq_false_iff] at hc47
          exfalso; omega
        · intro hc47
          try simp only [decide_eq_true_eq, decide_eq_false_iff_not, Bool.not_eq_true', Bool.not_eq_false', Bool.and_eq_true, Bool.or_eq_false_iff] at hc47
          have ek : k = 1 := (by omega)
          subst ek
          simp only [Utf.cp, Nat.zero_add, Nat.reduceAdd] at hcp
          refine KC.exit ?_
          refine KQ.exitThen ?_
          refine KQ.exitThen ?_
          refine KQ.hit ?_
          refine KQ.seq ?_
          refine KC.seq ?_
          refine KC.seq ?_
          refine KC.region ?_
          refine KL.op (R.move rfl rfl) rfl rfl rfl ?_
          refine KL.op (R.move rfl rfl) rfl rfl rfl ?_
          refine KL.op (R.lss rfl rfl rfl) rfl rfl rfl ?_
          refine KL.op (R.move rfl rfl) rfl rfl rfl ?_
          refine KL.case (d := 74) rfl ?_ ?_
          · intro hg74
            try simp only [decide_eq_true_eq, decide_eq_false_iff_not, Bool.not_eq_true', Bool.not_eq_false', Bool.and_eq_true, Bool.or_eq_false_iff] at hg74
            refine KL.skip rfl rfl rfl ?_
            refine KL.skip rfl rfl rfl ?_
            refine KL.op (R.pick rfl rfl rfl) rfl rfl rfl ?_
            refine KL.op (R.move rfl rfl) rfl rfl rfl ?_
            refine KL.skip rfl rfl rfl ?_
            refine KL.skip rfl rfl rfl ?_
            refine KL.skip rfl rfl rfl ?_
            refine KL.skip rfl rfl rfl ?_
            refine KL.skip rfl rfl rfl ?_
            refine KL.skip rfl rfl rfl ?_
            refine KL.op (R.pick rfl rfl rfl) rfl rfl rfl ?_
            refine KL.nil ?_
            refine KQ.seq ?_
            refine KC.condT rfl ?_
            refine KC.seq ?_
            refine KC.region ?_
            refine KL.op (R.assign rfl rfl) rfl rfl rfl ?_
            refine KL.nil ?_
            refine KQ.seq ?_
            refine KC.ret ?_
            refine KQ.retThen ?_
            refine KQ.ofRet ?_
            refine KQ.fin1 Tryd.results41 rfl ?_
            first
              | exact ⟨congrArg (Value.int .i64) (show (0 : Int) = ((Utf.chr l : Nat) : Int) by rw [Utf.chr0 q0 (by omega)]; rfl), rfl⟩
              | exact ⟨congrArg (Value.int .i64) (show (1 : Int) = ((Utf.chr l : Nat) : Int) by rw [Utf.chr1 (by omega)]; rfl), rfl⟩
              | exact ⟨congrArg (Value.int .i64) (show (0 : Int) = ((Utf.chr l : Nat) : Int) by rw [Utf.chr2 q0 (by omega), if_pos (by omega)]; rfl), rfl⟩
              | exact ⟨congrArg (Value.int .i64) (show (2 : Int) = ((Utf.chr l : Nat) : Int) by rw [Utf.chr2 q0 (by omega), if_neg (by omega)]; rfl), rfl⟩
              | exact ⟨congrArg (Value.int .i64) (show (0 : Int) = ((Utf.chr l : Nat) : Int) by rw [Utf.chr3 q0 (by omega), if_pos (by omega)]; rfl), rfl⟩
              | exact ⟨congrArg (Value.int .i64) (show (3 : Int) = ((Utf.chr l : Nat) : Int) by rw [Utf.chr3 q0 (by omega), if_neg (by omega)]; rfl), rfl⟩
              | exact ⟨congrArg (Value.int .i64) (show (0 : Int) = ((Utf.chr l : Nat) : Int) by rw [Utf.chr4 q0 (by omega), if_pos (by omega)]; rfl), rfl⟩
              | exact ⟨congrArg (Value.int .i64) (show (4 : Int) = ((Utf.chr l : Nat) : Int) by rw [Utf.chr4 q0 (by omega), if_neg (by omega)]; rfl), rfl⟩
          · intro hg74
            try simp only [decide_eq_true_eq, decide_eq_false_iff_not, Bool.not_eq_true', Bool.not_eq_false', Bool.and_eq_true, Bool.or_eq_false_iff] at hg74
            refine KL.op (R.move rfl rfl) rfl rfl rfl ?_
            refine KL.op (R.gtr rfl rfl rfl) rfl rfl rfl ?_
            refine KL.op (R.pick rfl rfl rfl) rfl rfl rfl ?_
            refine KL.op (R.move rfl rfl) rfl rfl rfl ?_
            refine KL.case (d := 78) rfl ?_ ?_
            · intro hg78
              try simp only [decide_eq_true_eq, decide_eq_false_iff_not, Bool.not_eq_true', Bool.not_eq_false', Bool.and_eq_true, Bool.or_eq_false_iff] at hg78
              refine KL.skip rfl rfl rfl ?_
              refine KL.skip rfl rfl rfl ?_
              refine KL.skip rfl rfl rfl ?_
              refine KL.skip rfl rfl rfl ?_
              refine KL.skip rfl rfl rfl ?_
              refine KL.skip rfl rfl rfl ?_
              refine KL.op (R.pick rfl rfl rfl) rfl rfl rfl ?_
              refine KL.nil ?_
              refine KQ.seq ?_
              refine KC.condT rfl ?_
              refine KC.seq ?_
              refine KC.region ?_
              refine KL.op (R.assign rfl rfl) rfl rfl rfl ?_
              refine KL.nil ?_
              refine KQ.seq ?_
              refine KC.ret ?_
              refine KQ.retThen ?_
              refine KQ.ofRet ?_
              refine KQ.fin1 Tryd.results41 rfl ?_
              first
                | exact ⟨congrArg (Value.int .i64) (show (0 : Int) = ((Utf.chr l : Nat) : Int) by rw [Utf.chr0 q0 (by omega)]; rfl), rfl⟩
                | exact ⟨congrArg (Value.int .i64) (show (1 : Int) = ((Utf.chr l : Nat) : Int) by rw [Utf.chr1 (by omega)]; rfl), rfl⟩
                | exact ⟨congrArg (Value.int .i64) (show (0 : Int) = ((Utf.chr l : Nat) : Int) by rw [Utf.chr2 q0 (by omega), if_pos (by omega)]; rfl), rfl⟩
                | exact ⟨congrArg (Value.int .i64) (show (2 : Int) = ((Utf.chr l : Nat) : Int) by rw [Utf.chr2 q0 (by omega), if_neg (by omega)]; rfl), rfl⟩
                | exact ⟨congrArg (Value.int .i64) (show (0 : Int) = ((Utf.chr l : Nat) : Int) by rw [Utf.chr3 q0 (by omega), if_pos (by omega)]; rfl), rfl⟩
                | exact ⟨congrArg (Value.int .i64) (show (3 : Int) = ((Utf.chr l : Nat) : Int) by rw [Utf.chr3 q0 (by omega), if_neg (by omega)]; rfl), rfl⟩
                | exact ⟨congrArg (Value.int .i64) (show (0 : Int) = ((Utf.chr l : Nat) : Int) by rw [Utf.chr4 q0 (by omega), if_pos (by omega)]; rfl), rfl⟩
                | exact ⟨congrArg (Value.int .i64) (show (4 : Int) = ((Utf.chr l : Nat) : Int) by rw [Utf.chr4 q0 (by omega), if_neg (by omega)]; rfl), rfl⟩
            · intro hg78
              try simp only [decide_eq_true_eq, decide_eq_false_iff_not, Bool.not_eq_true', Bool.not_eq_false', Bool.and_eq_true, Bool.or_eq_false_iff] at hg78
              refine KL.op (R.move rfl rfl) rfl rfl rfl ?_
              refine KL.op (R.geq rfl rfl rfl) rfl rfl rfl ?_
              refine KL.op (R.move rfl rfl) rfl rfl rfl ?_
              refine KL.case (d := 81) rfl ?_ ?_
              · intro hg81
                try simp only [decide_eq_true_eq, decide_eq_false_iff_not, Bool.not_eq_true', Bool.not_eq_false', Bool.and_eq_true, Bool.or_eq_false_iff] at hg81
                refine KL.op (R.move rfl rfl) rfl rfl rfl ?_
                refine KL.op (R.leq rfl rfl rfl) rfl rfl rfl ?_
                refine KL.op (R.pick rfl rfl rfl) rfl rfl rfl ?_
                refine KL.op (R.pick rfl rfl rfl) rfl rfl rfl ?_
                refine KL.nil ?_
                refine KQ.seq ?_
                refine KC.iteL rfl ?_ ?_
                · intro hc85
                  try simp only [decide_eq_true_eq, decide_eq_false_iff_not, Bool.not_eq_true', Bool.not_eq_false', Bool.and_eq_true, Bool.or_eq_false_iff] at hc85
                  refine KC.seq ?_
                  refine KC.region ?_
                  refine KL.op (R.assign rfl rfl) rfl rfl rfl ?_
                  refine KL.nil ?_
                  refine KQ.seq ?_
                  refine KC.ret ?_
                  refine KQ.retThen ?_
                  refine KQ.ofRet ?_
                  refine KQ.fin1 Tryd.results41 rfl ?_
                  first
                    | exact ⟨congrArg (Value.int .i64) (show (0 : Int) = ((Utf.chr l : Nat) : Int) by rw [Utf.chr0 q0 (by omega)]; rfl), rfl⟩
                    | exact ⟨congrArg (Value.int .i64) (show (1 : Int) = ((Utf.chr l : Nat) : Int) by rw [Utf.chr1 (by omega)]; rfl), rfl⟩
                    | exact ⟨congrArg (Value.int .i64) (show (0 : Int) = ((Utf.chr l : Nat) : Int) by rw [Utf.chr2 q0 (by omega), if_pos (by omega)]; rfl), rfl⟩
                    | exact ⟨congrArg (Value.int .i64) (show (2 : Int) = ((Utf.chr l : Nat) : Int) by rw [Utf.chr2 q0 (by omega), if_neg (by omega)]; rfl), rfl⟩
                    | exact ⟨congrArg (Value.int .i64) (show (0 : Int) = ((Utf.chr l : Nat) : Int) by rw [Utf.chr3 q0 (by omega), if_pos (by omega)]; rfl), rfl⟩
                    | exact ⟨congrArg (Value.int .i64) (show (3 : Int) = ((Utf.chr l : Nat) : Int) by rw [Utf.chr3 q0 (by omega), if_neg (by omega)]; rfl), rfl⟩
                    | exact ⟨congrArg (Value.int .i64) (show (0 : Int) = ((Utf.chr l : Nat) : Int) by rw [Utf.chr4 q0 (by omega), if_pos (by omega)]; rfl), rfl⟩
                    | exact ⟨congrArg (Value.int .i64) (show (4 : Int) = ((Utf.chr l : Nat) : Int) by rw [Utf.chr4 q0 (by omega), if_neg (by omega)]; rfl), rfl⟩
                · intro hc85
                  try simp only [decide_eq_true_eq, decide_eq_false_iff_not, Bool.not_eq_true', Bool.not_eq_false', Bool.and_eq_true, Bool.or_eq_false_iff] at hc85
                  refine KC.skip ?_
                  refine KQ.seq ?_
                  refine KC.seq ?_
                  refine KC.region ?_
                  refine KL.op (R.move rfl rfl) rfl rfl rfl ?_
                  refine KL.op (R.assign rfl rfl) rfl rfl rfl ?_
                  refine KL.nil ?_
                  refine KQ.seq ?_
                  refine KC.ret ?_
                  refine KQ.ofRet ?_
                  refine KQ.fin1 Tryd.results41 rfl ?_
                  first
                    | exact ⟨congrArg (Value.int .i64) (show (0 : Int) = ((Utf.chr l : Nat) : Int) by rw [Utf.chr0 q0 (by omega)]; rfl), rfl⟩
                    | exact ⟨congrArg (Value.int .i64) (show (1 : Int) = ((Utf.chr l : Nat) : Int) by rw [Utf.chr1 (by omega)]; rfl), rfl⟩
                    | exact ⟨congrArg (Value.int .i64) (show (0 : Int) = ((Utf.chr l : Nat) : Int) by rw [Utf.chr2 q0 (by omega), if_pos (by omega)]; rfl), rfl⟩
                    | exact ⟨congrArg (Value.int .i64) (show (2 : Int) = ((Utf.chr l : Nat) : Int) by rw [Utf.chr2 q0 (by omega), if_neg (by omega)]; rfl), rfl⟩
                    | exact ⟨congrArg (Value.int .i64) (show (0 : Int) = ((Utf.chr l : Nat) : Int) by rw [Utf.chr3 q0 (by omega), if_pos (by omega)]; rfl), rfl⟩
                    | exact ⟨congrArg (Value.int .i64) (show (3 : Int) = ((Utf.chr l : Nat) : Int) by rw [Utf.chr3 q0 (by omega), if_neg (by omega)]; rfl), rfl⟩
                    | exact ⟨congrArg (Value.int .i64) (show (0 : Int) = ((Utf.chr l : Nat) : Int) by rw [Utf.chr4 q0 (by omega), if_pos (by omega)]; rfl), rfl⟩
                    | exact ⟨congrArg (Value.int .i64) (show (4 : Int) = ((Utf.chr l : Nat) : Int) by rw [Utf.chr4 q0 (by omega), if_neg (by omega)]; rfl), rfl⟩
              · intro hg81
                try simp only [decide_eq_true_eq, decide_eq_false_iff_not, Bool.not_eq_true', Bool.not_eq_false', Bool.and_eq_true, Bool.or_eq_false_iff] at hg81
                refine KL.skip rfl rfl rfl ?_
                refine KL.skip rfl rfl rfl ?_
                refine KL.op (R.pick rfl rfl rfl) rfl rfl rfl ?_
                refine KL.op (R.pick rfl rfl rfl) rfl rfl rfl ?_
                refine KL.nil ?_
                refine KQ.seq ?_
                refine KC.condF rfl ?_
                refine KC.skip ?_
                refine KQ.seq ?_
                refine KC.seq ?_
                refine KC.region ?_
                refine KL.op (R.move rfl rfl) rfl rfl rfl ?_
                refine KL.op (R.assign rfl rfl) rfl rfl rfl ?_
                refine KL.nil ?_
                refine KQ.seq ?_
                refine KC.ret ?_
                refine KQ.ofRet ?_
                refine KQ.fin1 Tryd.results41 rfl ?_
                first
                  | exact ⟨congrArg (Value.int .i64) (show (0 : Int) = ((Utf.chr l : Nat) : Int) by rw [Utf.chr0 q0 (by omega)]; rfl), rfl⟩
                  | exact ⟨congrArg (Value.int .i64) (show (1 : Int) = ((Utf.chr l : Nat) : Int) by rw [Utf.chr1 (by omega)]; rfl), rfl⟩
                  | exact ⟨congrArg (Value.int .i64) (show (0 : Int) = ((Utf.chr l : Nat) : Int) by rw [Utf.chr2 q0 (by omega), if_pos (by omega)]; rfl), rfl⟩
                  | exact ⟨congrArg (Value.int .i64) (show (2 : Int) = ((Utf.chr l : Nat) : Int) by rw [Utf.chr2 q0 (by omega), if_neg (by omega)]; rfl), rfl⟩
                  | exact ⟨congrArg (Value.int .i64) (show (0 : Int) = ((Utf.chr l : Nat) : Int) by rw [Utf.chr3 q0 (by omega), if_pos (by omega)]; rfl), rfl⟩
                  | exact ⟨congrArg (Value.int .i64) (show (3 : Int) = ((Utf.chr l : Nat) : Int) by rw [Utf.chr3 q0 (by omega), if_neg (by omega)]; rfl), rfl⟩
                  | exact ⟨congrArg (Value.int .i64) (show (0 : Int) = ((Utf.chr l : Nat) : Int) by rw [Utf.chr4 q0 (by omega), if_pos (by omega)]; rfl), rfl⟩
                  | exact ⟨congrArg (Value.int .i64) (show (4 : Int) = ((Utf.chr l : Nat) : Int) by rw [Utf.chr4 q0 (by omega), if_neg (by omega)]; rfl), rfl⟩
  · intro hc11
    try simp only [decide_eq_true_eq, decide_eq_false_iff_not, Bool.not_eq_true', Bool.not_eq_false', Bool.and_eq_true, Bool.or_eq_false_iff] at hc11
    refine KC.seq ?_
    refine KC.region ?_
    refine KL.op (R.move rfl rfl) rfl rfl rfl ?_
    refine KL.op (R.geq rfl rfl rfl) rfl rfl rfl ?_
    refine KL.op (R.move rfl rfl) rfl rfl rfl ?_
    refine KL.case (d := 17) rfl ?_ ?_
    · intro hg17
      try simp only [decide_eq_true_eq, decide_eq_false_iff_not, Bool.not_eq_true', Bool.not_eq_false', Bool.and_eq_true, Bool.or_eq_false_iff] at hg17
      refine KL.op (R.move rfl rfl) rfl rfl rfl ?_
      refine KL.op (R.lss rfl rfl rfl) rfl rfl rfl ?_
      refine KL.op (R.pick rfl rfl rfl) rfl rfl rfl ?_
      refine KL.op (R.assign rfl rfl) rfl rfl rfl ?_
      refine KL.nil ?_
      refine KQ.seq ?_
      refine KC.iteL rfl ?_ ?_
      · intro hc14
        try simp only [decide_eq_true_eq, decide_eq_false_iff_not, Bool.not_eq_true', Bool.not_eq_false', Bool.and_eq_true, Bool.or_eq_false_iff] at hc14
        refine KC.seq ?_
        refine KC.region ?_
        refine KL.op (R.assign rfl rfl) rfl rfl rfl ?_
        refine KL.nil ?_
        refine KQ.seq ?_
        refine KC.seq ?_
        refine KC.region ?_
        refine KL.op (R.move rfl rfl) rfl rfl rfl ?_
        refine KL.op (R.sub rfl rfl rfl (by dsimp only [InR]; omega)) rfl rfl rfl ?_
        refine KL.op (R.assign rfl rfl) rfl rfl rfl ?_
        refine KL.nil ?_
        refine KQ.seq ?_
        refine KC.region ?_
        refine KL.op (R.assign rfl rfl) rfl rfl rfl ?_
        refine KL.nil ?_
        refine KQ.normBlock ?_
        refine KQ.seq ?_
        refine KC.seq ?_
        refine KC.seq ?_
        refine KC.region ?_
        refine KL.op (R.move rfl rfl) rfl rfl rfl ?_
        refine KL.op ((by first | exact R.lenS rfl Tryd.underlying22 rfl (by first | exact hs | assumption) | exact R.len (ty := 0) rfl Tryd.underlying22 rfl)) rfl rfl rfl ?_
        refine KL.op (R.move rfl rfl) rfl rfl rfl ?_
        refine KL.op (R.lss rfl rfl rfl) rfl rfl rfl ?_
        refine KL.nil ?_
        refine KQ.seq ?_
        refine KC.iteL rfl ?_ ?_
        · intro hc44
          try simp only [decide_eq_true_eq, decide_eq_false_iff_not, Bool.not_eq_true', Bool.not_eq_false', Bool.and_eq_true, Bool.or_eq_false_iff] at hc44
          refine KC.seq ?_
          refine KC.region ?_
          refine KL.op (R.assign rfl rfl) rfl rfl rfl ?_
          refine KL.nil ?_
          refine KQ.seq ?_
          refine KC.ret ?_
          refine KQ.retThen ?_
          refine KQ.ofRet ?_
          refine KQ.fin1 Tryd.results41 rfl ?_
          first
            | exact ⟨congrArg (Value.int .i64) (show (0 : Int) = ((Utf.chr l : Nat) : Int) by rw [Utf.chr0 q0 (by omega)]; rfl), rfl⟩
            | exact ⟨congrArg (Value.int .i64) (show (1 : Int) = ((Utf.chr l : Nat) : Int) by rw [Utf.chr1 (by omega)]; rfl), rfl⟩
            | exact ⟨congrArg (Value.int .i64) (show (0 : Int) = ((Utf.chr l : Nat) : Int) by rw [Utf.chr2 q0 (by omega), if_pos (by omega)]; rfl), rfl⟩
            | exact ⟨congrArg (Value.int .i64) (show (2 : Int) = ((Utf.chr l : Nat) : Int) by rw [Utf.chr2 q0 (by omega), if_neg (by omega)]; rfl), rfl⟩
            | exact ⟨congrArg (Value.int .i64) (show (0 : Int) = ((Utf.chr l : Nat) : Int) by rw [Utf.chr3 q0 (by omega), if_pos (by omega)]; rfl), rfl⟩
            | exact ⟨congrArg (Value.int .i64) (show (3 : Int) = ((Utf.chr l : Nat) : Int) by rw [Utf.chr3 q0 (by omega), if_neg (by omega)]; rfl), rfl⟩
            | exact ⟨congrArg (Value.int .i64) (show (0 : Int) = ((Utf.chr l : Nat) : Int) by rw [Utf.chr4 q0 (by omega), if_pos (by omega)]; rfl), rfl⟩
            | exact ⟨congrArg (Value.int .i64) (show (4 : Int) = ((Utf.chr l : Nat) : Int) by rw [Utf.chr4 q0 (by omega), if_neg (by omega)]; rfl), rfl⟩
        · intro hc44
          try simp only [decide_eq_true_eq, decide_eq_false_iff_not, Bool.not_eq_true', Bool.not_eq_false', Bool.and_eq_true, Bool.or_eq_false_iff] at hc44
          refine KC.skip ?_
          refine KQ.seq ?_
          refine KC.seq ?_
          refine KC.seq ?_
          refine KC.region ?_
          refine KL.op (R.assign rfl rfl) rfl rfl rfl ?_
          refine KL.nil ?_
          refine KQ.seq ?_
          refine KC.block ?_
          refine KC.loopD (κ := Nat × Int) [45, 46, 47, 50, 51, 52, 53, 54, 55, 56, 57, 58, 59, 60, 61, 2, 62, 63, 64, 65, 66, 67, 68, 69, 70, 3, 48, 49, 6] (fun k => [(6, .int .i64 (k.1 : Nat)), (3, .int .u32 k.2)]) (fun k Hl => H = Hl ∧ 1 ≤ k.1 ∧ k.1 ≤ 2 ∧ k.2 = Utf.cp ((l.getD 0 default) - 192) l k.1 ∧ (∀ j, 1 ≤ j → j < k.1 → 128 ≤ l.getD j default ∧ l.getD j default ≤ 191) ∧ 0 ≤ k.2 ∧ k.2 < Utf.bd k.1) (fun k => 2 - k.1) (1, (l.getD 0 default) - 192) ?_ ?_ ?_
          · exact (Sub.cons rfl (Sub.cons rfl (Ext.sub (Ext.refl _ _))))
          · exact ⟨rfl, Nat.le_refl _, by show 1 ≤ 2; omega, rfl, (fun j h1 h2 => absurd h2 (by show ¬ j < 1; omega)), by show 0 ≤ (l.getD 0 default) - 192; omega, by show (l.getD 0 default) - 192 < 32; omega⟩
          · rintro ⟨k, cc⟩ H2 ⟨rfl, hk1, hkn, hcp, hco, hc0, hc1⟩
            dsimp only at hk1 hkn hcp hco hc0 hc1
            refine KC.seq ?_
            refine KC.seq ?_
            refine KC.region ?_
            refine KL.op (R.move rfl rfl) rfl rfl rfl ?_
            refine KL.op (R.move rfl rfl) rfl rfl rfl ?_
            refine KL.op (R.lss rfl rfl rfl) rfl rfl rfl ?_
            refine KL.nil ?_
            refine KQ.seq ?_
            refine KC.iteL rfl ?_ ?_
            · intro hc47
              try simp only [decide_eq_true_eq, decide_eq_false_iff_not, Bool.not_eq_true', Bool.not_eq_false', Bool.and_eq_true, Bool.or_eq_false_iff] at hc47
              refine KC.skip ?_
              refine KQ.seq ?_
              refine KC.seq ?_
              refine KC.block ?_
              refine KC.seq ?_
              refine KC.seq ?_
              refine KC.region ?_
              refine KL.op (R.move rfl rfl) rfl rfl rfl ?_
              refine KL.op (R.move rfl rfl) rfl rfl rfl ?_
              have qk := (hs.int k (by omega)).2
              dsimp only [InR] at qk
              have hbd := Utf.bd_succ hk1 (show k < 4 by omega)
              refine KL.op (R.index1 (j := k) rfl Tryd.underlying22 sz5 rfl rfl hs rfl (by omega)) rfl rfl rfl ?_
              refine KL.op (R.load rfl Tryd.underlying5 rfl rfl ((hs.int k (by omega)).1)) rfl rfl rfl ?_
              refine KL.op (R.lss rfl rfl rfl) rfl rfl rfl ?_
              refine KL.op (R.move rfl rfl) rfl rfl rfl ?_
              refine KL.case (d := 55) rfl ?_ ?_
              · intro hg55
                try simp only [decide_eq_true_eq, decide_eq_false_iff_not, Bool.not_eq_true', Bool.not_eq_false', Bool.and_eq_true, Bool.or_eq_false_iff] at hg55
                refine KL.skip rfl rfl rfl ?_
                refine KL.skip rfl rfl rfl ?_
                refine KL.skip rfl rfl rfl ?_
                refine KL.skip rfl rfl rfl ?_
                refine KL.skip rfl rfl rfl ?_
                refine KL.op (R.pick rfl rfl rfl) rfl rfl rfl ?_
                refine KL.nil ?_
                refine KQ.seq ?_
                refine KC.condT rfl ?_
                refine KC.seq ?_
                have hba := Utf.bad_at (l := l) (k := k) hk1 (by omega) (by omega)
                refine KC.region ?_
                refine KL.op (R.assign rfl rfl) rfl rfl rfl ?_
                refine KL.nil ?_
                refine KQ.seq ?_
                refine KC.ret ?_
                refine KQ.retThen ?_
                refine KQ.retBlock ?_
                refine KQ.retThen ?_
                refine KQ.retThen ?_
                refine KQ.retBlock ?_
                refine KQ.retThen ?_
                refine KQ.ofRet ?_
                refine KQ.fin1 Tryd.results41 rfl ?_
                first
                  | exact ⟨congrArg (Value.int .i64) (show (0 : Int) = ((Utf.chr l : Nat) : Int) by rw [Utf.chr0 q0 (by omega)]; rfl), rfl⟩
                  | exact ⟨congrArg (Value.int .i64) (show (1 : Int) = ((Utf.chr l : Nat) : Int) by rw [Utf.chr1 (by omega)]; rfl), rfl⟩
                  | exact ⟨congrArg (Value.int .i64) (show (0 : Int) = ((Utf.chr l : Nat) : Int) by rw [Utf.chr2 q0 (by omega), if_pos (by omega)]; rfl), rfl⟩
                  | exact ⟨congrArg (Value.int .i64) (show (2 : Int) = ((Utf.chr l : Nat) : Int) by rw [Utf.chr2 q0 (by omega), if_neg (by omega)]; rfl), rfl⟩
                  | exact ⟨congrArg (Value.int .i64) (show (0 : Int) = ((Utf.chr l : Nat) : Int) by rw [Utf.chr3 q0 (by omega), if_pos (by omega)]; rfl), rfl⟩
                  | exact ⟨congrArg (Value.int .i64) (show (3 : Int) = ((Utf.chr l : Nat) : Int) by rw [Utf.chr3 q0 (by omega), if_neg (by omega)]; rfl), rfl⟩
                  | exact ⟨congrArg (Value.int .i64) (show (0 : Int) = ((Utf.chr l : Nat) : Int) by rw [Utf.chr4 q0 (by omega), if_pos (by omega)]; rfl), rfl⟩
                  | exact ⟨congrArg (Value.int .i64) (show (4 : Int) = ((Utf.chr l : Nat) : Int) by rw [Utf.chr4 q0 (by omega), if_neg (by omega)]; rfl), rfl⟩
              · intro hg55
                try simp only [decide_eq_true_eq, decide_eq_false_iff_not, Bool.not_eq_true', Bool.not_eq_false', Bool.and_eq_true, Bool.or_eq_false_iff] at hg55
                refine KL.op (R.move rfl rfl) rfl rfl rfl ?_
                refine KL.op (R.move rfl rfl) rfl rfl rfl ?_
                refine KL.op (R.index1 (j := k) rfl Tryd.underlying22 sz5 rfl rfl hs rfl (by omega)) rfl rfl rfl ?_
                refine KL.op (R.load rfl Tryd.underlying5 rfl rfl ((hs.int k (by omega)).1)) rfl rfl rfl ?_
                refine KL.op (R.gtr rfl rfl rfl) rfl rfl rfl ?_
                refine KL.op (R.pick rfl rfl rfl) rfl rfl rfl ?_
                refine KL.nil ?_
                refine KQ.seq ?_
                refine KC.iteL rfl ?_ ?_
                · intro hc61
                  try simp only [decide_eq_true_eq, decide_eq_false_iff_not, Bool.not_eq_true', Bool.not_eq_false', Bool.and_eq_true, Bool.or_eq_false_iff] at hc61
                  refine KC.seq ?_
                  have hba := Utf.bad_at (l := l) (k := k) hk1 (by omega) (by omega)
                  refine KC.region ?_
                  refine KL.op (R.assign rfl rfl) rfl rfl rfl ?_
                  refine KL.nil ?_
                  refine KQ.seq ?_
                  refine KC.ret ?_
                  refine KQ.retThen ?_
                  refine KQ.retBlock ?_
                  refine KQ.retThen ?_
                  refine KQ.retThen ?_
                  refine KQ.retBlock ?_
                  refine KQ.retThen ?_
                  refine KQ.ofRet ?_
                  refine KQ.fin1 Tryd.results41 rfl ?_
                  first
                    | exact ⟨congrArg (Value.int .i64) (show (0 : Int) = ((Utf.chr l : Nat) : Int) by rw [Utf.chr0 q0 (by omega)]; rfl), rfl⟩
                    | exact ⟨congrArg (Value.int .i64) (show (1 : Int) = ((Utf.chr l : Nat) : Int) by rw [Utf.chr1 (by omega)]; rfl), rfl⟩
                    | exact ⟨congrArg (Value.int .i64) (show (0 : Int) = ((Utf.chr l : Nat) : Int) by rw [Utf.chr2 q0 (by omega), if_pos (by omega)]; rfl), rfl⟩
                    | exact ⟨congrArg (Value.int .i64) (show (2 : Int) = ((Utf.chr l : Nat) : Int) by rw [Utf.chr2 q0 (by omega), if_neg (by omega)]; rfl), rfl⟩
                    | exact ⟨congrArg (Value.int .i64) (show (0 : Int) = ((Utf.chr l : Nat) : Int) by rw [Utf.chr3 q0 (by omega), if_pos (by omega)]; rfl), rfl⟩
                    | exact ⟨congrArg (Value.int .i64) (show (3 : Int) = ((Utf.chr l : Nat) : Int) by rw [Utf.chr3 q0 (by omega), if_neg (by omega)]; rfl), rfl⟩
                    | exact ⟨congrArg (Value.int .i64) (show (0 : Int) = ((Utf.chr l : Nat) : Int) by rw [Utf.chr4 q0 (by omega), if_pos (by omega)]; rfl), rfl⟩
                    | exact ⟨congrArg (Value.int .i64) (show (4 : Int) = ((Utf.chr l : Nat) : Int) by rw [Utf.chr4 q0 (by omega), if_neg (by omega)]; rfl), rfl⟩
                · intro hc61
                  try simp only [decide_eq_true_eq, decide_eq_false_iff_not, Bool.not_eq_true', Bool.not_eq_false', Bool.and_eq_true, Bool.or_eq_false_iff] at hc61
                  refine KC.skip ?_
                  refine KQ.seq ?_
                  refine KC.region ?_
                  refine KL.op (R.move rfl rfl) rfl rfl rfl ?_
                  refine KL.op (R.mul rfl rfl rfl (by dsimp only [InR]; omega)) rfl rfl rfl ?_
                  refine KL.op (R.move rfl rfl) rfl rfl rfl ?_
                  refine KL.op (R.move rfl rfl) rfl rfl rfl ?_
                  refine KL.op (R.index1 (j := k) rfl Tryd.underlying22 sz5 rfl rfl hs rfl (by omega)) rfl rfl rfl ?_
                  refine KL.op (R.load rfl Tryd.underlying5 rfl rfl ((hs.int k (by omega)).1)) rfl rfl rfl ?_
                  refine KL.op (R.convI rfl Tryd.underlying5 Tryd.underlying76 rfl (by dsimp only [InR]; omega)) rfl rfl rfl ?_
                  refine KL.op (R.add rfl rfl rfl (by dsimp only [InR]; omega)) rfl rfl rfl ?_
                  refine KL.op (R.sub rfl rfl rfl (by dsimp only [InR]; omega)) rfl rfl rfl ?_
                  refine KL.op (R.assign rfl rfl) rfl rfl rfl ?_
                  refine KL.nil ?_
                  refine KQ.normBlock ?_
                  refine KQ.seq ?_
                  refine KC.region ?_
                  refine KL.op (R.move rfl rfl) rfl rfl rfl ?_
                  refine KL.op ((R.add rfl rfl rfl (by dsimp only [InR]; omega)).val (congrArg (Value.int .i64) (show _ = ((k + 1 : Nat) : Int) from by omega))) rfl rfl rfl ?_
                  refine KL.op (R.assign rfl rfl) rfl rfl rfl ?_
                  refine KL.nil ?_
                  refine KQ.again ((k + 1, 64 * cc + l.getD k default - 128)) ?_ ?_ ?_
                  · exact (Sub.cons rfl (Sub.cons rfl (Ext.sub (by repeat (first | exact Ext.refl _ _ | refine Ext.put rfl ?_ | refine Ext.drop rfl ?_)))))
                  · show 2 - (k + 1) < 2 - k; omega
                  · exact ⟨rfl, by show 1 ≤ k + 1; omega, by show k + 1 ≤ 2; omega, (by show _ = Utf.cp _ l (k + 1); rw [Utf.cp_succ _ _ hk1, ← hcp]), (fun j h1 h2 => by
                          by_cases e : j = k
                          · subst e; omega
                          · exact hco j h1 (by have h2 : j < k + 1 := h2; omega)), (by show 0 ≤ 64 * cc + _ - 128; omega), (by show 64 * cc + _ - 128 < Utf.bd (k + 1); rw [hbd.1]; omega)⟩
            · intro hc47
              try simp only [decide_eq_true_eq, decide_eq_false_iff_not, Bool.not_eq_true', Bool.not_eq_false', Bool.and_eq_true, Bool.or_eq_false_iff] at hc47
              have ek : k = 2 := (by omega)
              subst ek
              have ho1 := hco 1 (by omega) (by omega)
              simp only [Utf.cp, Nat.zero_add, Nat.reduceAdd] at hcp
              refine KC.exit ?_
              refine KQ.exitThen ?_
              refine KQ.exitThen ?_
              refine KQ.hit ?_
              refine KQ.seq ?_
              refine KC.seq ?_
              refine KC.seq ?_
              refine KC.region ?_
              refine KL.op (R.move rfl rfl) rfl rfl rfl ?_
              refine KL.op (R.move rfl rfl) rfl rfl rfl ?_
              refine KL.op (R.lss rfl rfl rfl) rfl rfl rfl ?_
              refine KL.op (R.move rfl rfl) rfl rfl rfl ?_
              refine KL.case (d := 74) rfl ?_ ?_
              · intro hg74
                try simp only [decide_eq_true_eq, decide_eq_false_iff_not, Bool.not_eq_true', Bool.not_eq_false', Bool.and_eq_true, Bool.or_eq_false_iff] at hg74
                refine KL.skip rfl rfl rfl ?_
                refine KL.skip rfl rfl rfl ?_
                refine KL.op (R.pick rfl rfl rfl) rfl rfl rfl ?_
                refine KL.op (R.move rfl rfl) rfl rfl rfl ?_
                refine KL.skip rfl rfl rfl ?_
                refine KL.skip rfl rfl rfl ?_
                refine KL.skip rfl rfl rfl ?_
                refine KL.skip rfl rfl rfl ?_
                refine KL.skip rfl rfl rfl ?_
                refine KL.skip rfl rfl rfl ?_
                refine KL.op (R.pick rfl rfl rfl) rfl rfl rfl ?_
                refine KL.nil ?_
                refine KQ.seq ?_
                refine KC.condT rfl ?_
                refine KC.seq ?_
                refine KC.region ?_
                refine KL.op (R.assign rfl rfl) rfl rfl rfl ?_
                refine KL.nil ?_
                refine KQ.seq ?_
                refine KC.ret ?_
                refine KQ.retThen ?_
                refine KQ.ofRet ?_
                refine KQ.fin1 Tryd.results41 rfl ?_
                first
                  | exact ⟨congrArg (Value.int .i64) (show (0 : Int) = ((Utf.chr l : Nat) : Int) by rw [Utf.chr0 q0 (by omega)]; rfl), rfl⟩
                  | exact ⟨congrArg (Value.int .i64) (show (1 : Int) = ((Utf.chr l : Nat) : Int) by rw [Utf.chr1 (by omega)]; rfl), rfl⟩
                  | exact ⟨congrArg (Value.int .i64) (show (0 : Int) = ((Utf.chr l : Nat) : Int) by rw [Utf.chr2 q0 (by omega), if_pos (by omega)]; rfl), rfl⟩
                  | exact ⟨congrArg (Value.int .i64) (show (2 : Int) = ((Utf.chr l : Nat) : Int) by rw [Utf.chr2 q0 (by omega), if_neg (by omega)]; rfl), rfl⟩
                  | exact ⟨congrArg (Value.int .i64) (show (0 : Int) = ((Utf.chr l : Nat) : Int) by rw [Utf.chr3 q0 (by omega), if_pos (by omega)]; rfl), rfl⟩
                  | exact ⟨congrArg (Value.int .i64) (show (3 : Int) = ((Utf.chr l : Nat) : Int) by rw [Utf.chr3 q0 (by omega), if_neg (by omega)]; rfl), rfl⟩
                  | exact ⟨congrArg (Value.int .i64) (show (0 : Int) = ((Utf.chr l : Nat) : Int) by rw [Utf.chr4 q0 (by omega), if_pos (by omega)]; rfl), rfl⟩
                  | exact ⟨congrArg (Value.int .i64) (show (4 : Int) = ((Utf.chr l : Nat) : Int) by rw [Utf.chr4 q0 (by omega), if_neg (by omega)]; rfl), rfl⟩
              · intro hg74
                try simp only [decide_eq_true_eq, decide_eq_false_iff_not, Bool.not_eq_true', Bool.not_eq_false', Bool.and_eq_true, Bool.or_eq_false_iff] at hg74
                refine KL.op (R.move rfl rfl) rfl rfl rfl ?_
                refine KL.op (R.gtr rfl rfl rfl) rfl rfl rfl ?_
                refine KL.op (R.pick rfl rfl rfl) rfl rfl rfl ?_
                refine KL.op (R.move rfl rfl) rfl rfl rfl ?_
                refine KL.case (d := 78) rfl ?_ ?_
                · intro hg78
                  try simp only [decide_eq_true_eq, decide_eq_false_iff_not, Bool.not_eq_true', Bool.not_eq_false', Bool.and_eq_true, Bool.or_eq_false_iff] at hg78
                  refine KL.skip rfl rfl rfl ?_
                  refine KL.skip rfl rfl rfl ?_
                  refine KL.skip rfl rfl rfl ?_
                  refine KL.skip rfl rfl rfl ?_
                  refine KL.skip rfl rfl rfl ?_
                  refine KL.skip rfl rfl rfl ?_
                  refine KL.op (R.pick rfl rfl rfl) rfl rfl rfl ?_
                  refine KL.nil ?_
                  refine KQ.seq ?_
                  refine KC.condT rfl ?_
                  refine KC.seq ?_
                  refine KC.region ?_
                  refine KL.op (R.assign rfl rfl) rfl rfl rfl ?_
                  refine KL.nil ?_
                  refine KQ.seq ?_
                  refine KC.ret ?_
                  refine KQ.retThen ?_
                  refine KQ.ofRet ?_
                  refine KQ.fin1 Tryd.results41 rfl ?_
                  first
                    | exact ⟨congrArg (Value.int .i64) (show (0 : Int) = ((Utf.chr l : Nat) : Int) by rw [Utf.chr0 q0 (by omega)]; rfl), rfl⟩
                    | exact ⟨congrArg (Value.int .i64) (show (1 : Int) = ((Utf.chr l : Nat) : Int) by rw [Utf.chr1 (by omega)]; rfl), rfl⟩
                    | exact ⟨congrArg (Value.int .i64) (show (0 : Int) = ((Utf.chr l : Nat) : Int) by rw [Utf.chr2 q0 (by omega), if_pos (by omega)]; rfl), rfl⟩
                    | exact ⟨congrArg (Value.int .i64) (show (2 : Int) = ((Utf.chr l : Nat) : Int) by rw [Utf.chr2 q0 (by omega), if_neg (by omega)]; rfl), rfl⟩
                    | exact ⟨congrArg (Value.int .i64) (show (0 : Int) = ((Utf.chr l : Nat) : Int) by rw [Utf.chr3 q0 (by omega), if_pos (by omega)]; rfl), rfl⟩
                    | exact ⟨congrArg (Value.int .i64) (show (3 : Int) = ((Utf.chr l : Nat) : Int) by rw [Utf.chr3 q0 (by omega), if_neg (by omega)]; rfl), rfl⟩
                    | exact ⟨congrArg (Value.int .i64) (show (0 : Int) = ((Utf.chr l : Nat) : Int) by rw [Utf.chr4 q0 (by omega), if_pos (by omega)]; rfl), rfl⟩
                    | exact ⟨congrArg (Value.int .i64) (show (4 : Int) = ((Utf.chr l : Nat) : Int) by rw [Utf.chr4 q0 (by omega), if_neg (by omega)]; rfl), rfl⟩
                · intro hg78
                  try simp only [decide_eq_true_eq, decide_eq_false_iff_not, Bool.not_eq_true', Bool.not_eq_false', Bool.and_eq_true, Bool.or_eq_false_iff] at hg78
                  refine KL.op (R.move rfl rfl) rfl rfl rfl ?_
                  refine KL.op (R.geq rfl rfl rfl) rfl rfl rfl ?_
                  refine KL.op (R.move rfl rfl) rfl rfl rfl ?_
                  refine KL.case (d := 81) rfl ?_ ?_
                  · intro hg81
                    try simp only [decide_eq_true_eq, decide_eq_false_iff_not, Bool.not_eq_true', Bool.not_eq_false', Bool.and_eq_true, Bool.or_eq_false_iff] at hg81
                    refine KL.op (R.move rfl rfl) rfl rfl rfl ?_
                    refine KL.op (R.leq rfl rfl rfl) rfl rfl rfl ?_
                    refine KL.op (R.pick rfl rfl rfl) rfl rfl rfl ?_
                    refine KL.op (R.pick rfl rfl rfl) rfl rfl rfl ?_
                    refine KL.nil ?_
                    refine KQ.seq ?_
                    refine KC.iteL rfl ?_ ?_
                    · intro hc85
                      try simp only [decide_eq_true_eq, decide_eq_false_iff_not, Bool.not_eq_true', Bool.not_eq_false', Bool.and_eq_true, Bool.or_eq_false_iff] at hc85
                      refine KC.seq ?_
                      refine KC.region ?_
                      refine KL.op (R.assign rfl rfl) rfl rfl rfl ?_
                      refine KL.nil ?_
                      refine KQ.seq ?_
                      refine KC.ret ?_
                      refine KQ.retThen ?_
                      refine KQ.ofRet ?_
                      refine KQ.fin1 Tryd.results41 rfl ?_
                      first
                        | exact ⟨congrArg (Value.int .i64) (show (0 : Int) = ((Utf.chr l : Nat) : Int) by rw [Utf.chr0 q0 (by omega)]; rfl), rfl⟩
                        | exact ⟨congrArg (Value.int .i64) (show (1 : Int) = ((Utf.chr l : Nat) : Int) by rw [Utf.chr1 (by omega)]; rfl), rfl⟩
                        | exact ⟨congrArg (Value.int .i64) (show (0 : Int) = ((Utf.chr l : Nat) : Int) by rw [Utf.chr2 q0 (by omega), if_pos (by omega)]; rfl), rfl⟩
                        | exact ⟨congrArg (Value.int .i64) (show (2 : Int) = ((Utf.chr l : Nat) : Int) by rw [Utf.chr2 q0 (by omega), if_neg (by omega)]; rfl), rfl⟩
                        | exact ⟨congrArg (Value.int .i64) (show (0 : Int) = ((Utf.chr l : Nat) : Int) by rw [Utf.chr3 q0 (by omega), if_pos (by omega)]; rfl), rfl⟩
                        | exact ⟨congrArg (Value.int .i64) (show (3 : Int) = ((Utf.chr l : Nat) : Int) by rw [Utf.chr3 q0 (by omega), if_neg (by omega)]; rfl), rfl⟩
                        | exact ⟨congrArg (Value.int .i64) (show (0 : Int) = ((Utf.chr l : Nat) : Int) by rw [Utf.chr4 q0 (by omega), if_pos (by omega)]; rfl), rfl⟩
                        | exact ⟨congrArg (Value.int .i64) (show (4 : Int) = ((Utf.chr l : Nat) : Int) by rw [Utf.chr4 q0 (by omega), if_neg (by omega)]; rfl), rfl⟩
                    · intro hc85
                      try simp only [decide_eq_true_eq, decide_eq_false_iff_not, Bool.not_eq_true', Bool.not_eq_false', Bool.and_eq_true, Bool.or_eq_false_iff] at hc85
                      refine KC.skip ?_
                      refine KQ.seq ?_
                      refine KC.seq ?_
                      refine KC.region ?_
                      refine KL.op (R.move rfl rfl) rfl rfl rfl ?_
                      refine KL.op (R.assign rfl rfl) rfl rfl rfl ?_
                      refine KL.nil ?_
                      refine KQ.seq ?_
                      refine KC.ret ?_
                      refine KQ.ofRet ?_
                      refine KQ.fin1 Tryd.results41 rfl ?_
                      first
                        | exact ⟨congrArg (Value.int .i64) (show (0 : Int) = ((Utf.chr l : Nat) : Int) by rw [Utf.chr0 q0 (by omega)]; rfl), rfl⟩
                        | exact ⟨congrArg (Value.int .i64) (show (1 : Int) = ((Utf.chr l : Nat) : Int) by rw [Utf.chr1 (by omega)]; rfl), rfl⟩
                        | exact ⟨congrArg (Value.int .i64) (show (0 : Int) = ((Utf.chr l : Nat) : Int) by rw [Utf.chr2 q0 (by omega), if_pos (by omega)]; rfl), rfl⟩
                        | exact ⟨congrArg (Value.int .i64) (show (2 : Int) = ((Utf.chr l : Nat) : Int) by rw [Utf.chr2 q0 (by omega), if_neg (by omega)]; rfl), rfl⟩
                        | exact ⟨congrArg (Value.int .i64) (show (0 : Int) = ((Utf.chr l : Nat) : Int) by rw [Utf.chr3 q0 (by omega), if_pos (by omega)]; rfl), rfl⟩
                        | exact ⟨congrArg (Value.int .i64) (show (3 : Int) = ((Utf.chr l : Nat) : Int) by rw [Utf.chr3 q0 (by omega), if_neg (by omega)]; rfl), rfl⟩
                        | exact ⟨congrArg (Value.int .i64) (show (0 : Int) = ((Utf.chr l : Nat) : Int) by rw [Utf.chr4 q0 (by omega), if_pos (by omega)]; rfl), rfl⟩
                        | exact ⟨congrArg (Value.int .i64) (show (4 : Int) = ((Utf.chr l : Nat) : Int) by rw [Utf.chr4 q0 (by omega), if_neg (by omega)]; rfl), rfl⟩
                  · intro hg81
                    try simp only [decide_eq_true_eq, decide_eq_false_iff_not, Bool.not_eq_true', Bool.not_eq_false', Bool.and_eq_true, Bool.or_eq_false_iff] at hg81
                    refine KL.skip rfl rfl rfl ?_
                    refine KL.skip rfl rfl rfl ?_
                    refine KL.op (R.pick rfl rfl rfl) rfl rfl rfl ?_
                    refine KL.op (R.pick rfl rfl rfl) rfl rfl rfl ?_
                    refine KL.nil ?_
                    refine KQ.seq ?_
                    refine KC.condF rfl ?_
                    refine KC.skip ?_
                    refine KQ.seq ?_
                    refine KC.seq ?_
                    refine KC.region ?_
                    refine KL.op (R.move rfl rfl) rfl rfl rfl ?_
                    refine KL.op (R.assign rfl rfl) rfl rfl rfl ?_
                    refine KL.nil ?_
                    refine KQ.seq ?_
                    refine KC.ret ?_
                    refine KQ.ofRet ?_
                    refine KQ.fin1 Tryd.results41 rfl ?_
                    first
                      | exact ⟨congrArg (Value.int .i64) (show (0 : Int) = ((Utf.chr l : Nat) : Int) by rw [Utf.chr0 q0 (by omega)]; rfl), rfl⟩
                      | exact ⟨congrArg (Value.int .i64) (show (1 : Int) = ((Utf.chr l : Nat) : Int) by rw [Utf.chr1 (by omega)]; rfl), rfl⟩
                      | exact ⟨congrArg (Value.int .i64) (show (0 : Int) = ((Utf.chr l : Nat) : Int) by rw [Utf.chr2 q0 (by omega), if_pos (by omega)]; rfl), rfl⟩
                      | exact ⟨congrArg (Value.int .i64) (show (2 : Int) = ((Utf.chr l : Nat) : Int) by rw [Utf.chr2 q0 (by omega), if_neg (by omega)]; rfl), rfl⟩
                      | exact ⟨congrArg (Value.int .i64) (show (0 : Int) = ((Utf.chr l : Nat) : Int) by rw [Utf.chr3 q0 (by omega), if_pos (by omega)]; rfl), rfl⟩
                      | exact ⟨congrArg (Value.int .i64) (show (3 : Int) = ((Utf.chr l : Nat) : Int) by rw [Utf.chr3 q0 (by omega), if_neg (by omega)]; rfl), rfl⟩
                      | exact ⟨congrArg (Value.int .i64) (show (0 : Int) = ((Utf.chr l : Nat) : Int) by rw [Utf.chr4 q0 (by omega), if_pos (by omega)]; rfl), rfl⟩
                      | exact ⟨congrArg (Value.int .i64) (show (4 : Int) = ((Utf.chr l : Nat) : Int) by rw [Utf.chr4 q0 (by omega), if_neg (by omega)]; rfl), rfl⟩
      · intro hc14
        try simp only [decide_eq_true_eq, decide_eq_false_iff_not, Bool.not_eq_true', Bool.not_eq_false', Bool.and_eq_true, Bool.or_eq_false_iff] at hc14
        refine KC.seq ?_
        refine KC.region ?_
        refine KL.op (R.move rfl rfl) rfl rfl rfl ?_
        refine KL.op (R.geq rfl rfl rfl) rfl rfl rfl ?_
        refine KL.op (R.move rfl rfl) rfl rfl rfl ?_
        refine KL.case (d := 26) rfl ?_ ?_
        · intro hg26
          try simp only [decide_eq_true_eq, decide_eq_false_iff_not, Bool.not_eq_true', Bool.not_eq_false', Bool.and_eq_true, Bool.or_eq_false_iff] at hg26
          refine KL.op (R.move rfl rfl) rfl rfl rfl ?_
          refine KL.op (R.lss rfl rfl rfl) rfl rfl rfl ?_
          refine KL.op (R.pick rfl rfl rfl) rfl rfl rfl ?_
          refine KL.op (R.assign rfl rfl) rfl rfl rfl ?_
          refine KL.nil ?_
          refine KQ.seq ?_
          refine KC.iteL rfl ?_ ?_
          · intro hc23
            try simp only [decide_eq_true_eq, decide_eq_false_iff_not, Bool.not_eq_true', Bool.not_eq_false', Bool.and_eq_true, Bool.or_eq_false_iff] at hc23
            refine KC.seq ?_
            refine KC.region ?_
            refine KL.op (R.assign rfl rfl) rfl rfl rfl ?_
            refine KL.nil ?_
            refine KQ.seq ?_
            refine KC.seq ?_
            refine KC.region ?_
            refine KL.op (R.move rfl rfl) rfl rfl rfl ?_
            refine KL.op (R.sub rfl rfl rfl (by dsimp only [InR]; omega)) rfl rfl rfl ?_
            refine KL.op (R.assign rfl rfl) rfl rfl rfl ?_
            refine KL.nil ?_
            refine KQ.seq ?_
            refine KC.region ?_
            refine KL.op (R.assign rfl rfl) rfl rfl rfl ?_
            refine KL.nil ?_
            refine KQ.normBlock ?_
            refine KQ.seq ?_
            refine KC.seq ?_
            refine KC.seq ?_
            refine KC.region ?_
            refine KL.op (R.move rfl rfl) rfl rfl rfl ?_
            refine KL.op ((by first | exact R.lenS rfl Tryd.underlying22 rfl (by first | exact hs | assumption) | exact R.len (ty := 0) rfl Tryd.underlying22 rfl)) rfl rfl rfl ?_
            refine KL.op (R.move rfl rfl) rfl rfl rfl ?_
            refine KL.op (R.lss rfl rfl rfl) rfl rfl rfl ?_
            refine KL.nil ?_
            refine KQ.seq ?_
            refine KC.iteL rfl ?_ ?_
            · intro hc44
              try simp only [decide_eq_true_eq, decide_eq_false_iff_not, Bool.not_eq_true', Bool.not_eq_false', Bool.and_eq_true, Bool.or_eq_false_iff] at hc44
              refine KC.seq ?_
              refine KC.region ?_
              refine KL.op (R.assign rfl rfl) rfl rfl rfl ?_
              refine KL.nil ?_
              refine KQ.seq ?_
              refine KC.ret ?_
              refine KQ.retThen ?_
              refine KQ.ofRet ?_
              refine KQ.fin1 Tryd.results41 rfl ?_
              first
                | exact ⟨congrArg (Value.int .i64) (show (0 : Int) = ((Utf.chr l : Nat) : Int) by rw [Utf.chr0 q0 (by omega)]; rfl), rfl⟩
                | exact ⟨congrArg (Value.int .i64) (show (1 : Int) = ((Utf.chr l : Nat) : Int) by rw [Utf.chr1 (by omega)]; rfl), rfl⟩
                | exact ⟨congrArg (Value.int .i64) (show (0 : Int) = ((Utf.chr l : Nat) : Int) by rw [Utf.chr2 q0 (by omega), if_pos (by omega)]; rfl), rfl⟩
                | exact ⟨congrArg (Value.int .i64) (show (2 : Int) = ((Utf.chr l : Nat) : Int) by rw [Utf.chr2 q0 (by omega), if_neg (by omega)]; rfl), rfl⟩
                | exact ⟨congrArg (Value.int .i64) (show (0 : Int) = ((Utf.chr l : Nat) : Int) by rw [Utf.chr3 q0 (by omega), if_pos (by omega)]; rfl), rfl⟩
                | exact ⟨congrArg (Value.int .i64) (show (3 : Int) = ((Utf.chr l : Nat) : Int) by rw [Utf.chr3 q0 (by omega), if_neg (by omega)]; rfl), rfl⟩
                | exact ⟨congrArg (Value.int .i64) (show (0 : Int) = ((Utf.chr l : Nat) : Int) by rw [Utf.chr4 q0 (by omega), if_pos (by omega)]; rfl), rfl⟩
                | exact ⟨congrArg (Value.int .i64) (show (4 : Int) = ((Utf.chr l : Nat) : Int) by rw [Utf.chr4 q0 (by omega), if_neg (by omega)]; rfl), rfl⟩
            · intro hc44
              try simp only [decide_eq_true_eq, decide_eq_false_iff_not, Bool.not_eq_true', Bool.not_eq_false', Bool.and_eq_true, Bool.or_eq_false_iff] at hc44
              refine KC.skip ?_
              refine KQ.seq ?_
              refine KC.seq ?_
              refine KC.seq ?_
              refine KC.region ?_
              refine KL.op (R.assign rfl rfl) rfl rfl rfl ?_
              refine KL.nil ?_
              refine KQ.seq ?_
              refine KC.block ?_
              refine KC.loopD (κ := Nat × Int) [45, 46, 47, 50, 51, 52, 53, 54, 55, 56, 57, 58, 59, 60, 61, 2, 62, 63, 64, 65, 66, 67, 68, 69, 70, 3, 48, 49, 6] (fun k => [(6, .int .i64 (k.1 : Nat)), (3, .int .u32 k.2)]) (fun k Hl => H = Hl ∧ 1 ≤ k.1 ∧ k.1 ≤ 3 ∧ k.2 = Utf.cp ((l.getD 0 default) - 224) l k.1 ∧ (∀ j, 1 ≤ j → j < k.1 → 128 ≤ l.getD j default ∧ l.getD j default ≤ 191) ∧ 0 ≤ k.2 ∧ k.2 < Utf.bd k.1) (fun k => 3 - k.1) (1, (l.getD 0 default) - 224) ?_ ?_ ?_
              · exact (Sub.cons rfl (Sub.cons rfl (Ext.sub (Ext.refl _ _))))
              · exact ⟨rfl, Nat.le_refl _, by show 1 ≤ 3; omega, rfl, (fun j h1 h2 => absurd h2 (by show ¬ j < 1; omega)), by show 0 ≤ (l.getD 0 default) - 224; omega, by show (l.getD 0 default) - 224 < 32; omega⟩
              · rintro ⟨k, cc⟩ H3 ⟨rfl, hk1, hkn, hcp, hco, hc0, hc1⟩
                dsimp only at hk1 hkn hcp hco hc0 hc1
                refine KC.seq ?_
                refine KC.seq ?_
                refine KC.region ?_
                refine KL.op (R.move rfl rfl) rfl rfl rfl ?_
                refine KL.op (R.move rfl rfl) rfl rfl rfl ?_
                refine KL.op (R.lss rfl rfl rfl) rfl rfl rfl ?_
                refine KL.nil ?_
                refine KQ.seq ?_
                refine KC.iteL rfl ?_ ?_
                · intro hc47
                  try simp only [decide_eq_true_eq, decide_eq_false_iff_not, Bool.not_eq_true', Bool.not_eq_false', Bool.and_eq_true, Bool.or_eq_false_iff] at hc47
                  refine KC.skip ?_
                  refine KQ.seq ?_
                  refine KC.seq ?_
                  refine KC.block ?_
                  refine KC.seq ?_
                  refine KC.seq ?_
                  refine KC.region ?_
                  refine KL.op (R.move rfl rfl) rfl rfl rfl ?_
                  refine KL.op (R.move rfl rfl) rfl rfl rfl ?_
                  have qk := (hs.int k (by omega)).2
                  dsimp only [InR] at qk
                  have hbd := Utf.bd_succ hk1 (show k < 4 by omega)
                  refine KL.op (R.index1 (j := k) rfl Tryd.underlying22 sz5 rfl rfl hs rfl (by omega)) rfl rfl rfl ?_
                  refine KL.op (R.load rfl Tryd.underlying5 rfl rfl ((hs.int k (by omega)).1)) rfl rfl rfl ?_
                  refine KL.op (R.lss rfl rfl rfl) rfl rfl rfl ?_
                  refine KL.op (R.move rfl rfl) rfl rfl rfl ?_
                  refine KL.case (d := 55) rfl ?_ ?_
                  · intro hg55
                    try simp only [decide_eq_true_eq, decide_eq_false_iff_not, Bool.not_eq_true', Bool.not_eq_false', Bool.and_eq_true, Bool.or_eq_false_iff] at hg55
                    refine KL.skip rfl rfl rfl ?_
                    refine KL.skip rfl rfl rfl ?_
                    refine KL.skip rfl rfl rfl ?_
                    refine KL.skip rfl rfl rfl ?_
                    refine KL.skip rfl rfl rfl ?_
                    refine KL.op (R.pick rfl rfl rfl) rfl rfl rfl ?_
                    refine KL.nil ?_
                    refine KQ.seq ?_
                    refine KC.condT rfl ?_
                    refine KC.seq ?_
                    have hba := Utf.bad_at (l := l) (k := k) hk1 (by omega) (by omega)
                    refine KC.region ?_
                    refine KL.op (R.assign rfl rfl) rfl rfl rfl ?_
                    refine KL.nil ?_
                    refine KQ.seq ?_
                    refine KC.ret ?_
                    refine KQ.retThen ?_
                    refine KQ.retBlock ?_
                    refine KQ.retThen ?_
                    refine KQ.retThen ?_
                    refine KQ.retBlock ?_
                    refine KQ.retThen ?_
                    refine KQ.ofRet ?_
                    refine KQ.fin1 Tryd.results41 rfl ?_
                    first
                      | exact ⟨congrArg (Value.int .i64) (show (0 : Int) = ((Utf.chr l : Nat) : Int) by rw [Utf.chr0 q0 (by omega)]; rfl), rfl⟩
                      | exact ⟨congrArg (Value.int .i64) (show (1 : Int) = ((Utf.chr l : Nat) : Int) by rw [Utf.chr1 (by omega)]; rfl), rfl⟩
                      | exact ⟨congrArg (Value.int .i64) (show (0 : Int) = ((Utf.chr l : Nat) : Int) by rw [Utf.chr2 q0 (by omega), if_pos (by omega)]; rfl), rfl⟩
                      | exact ⟨congrArg (Value.int .i64) (show (2 : Int) = ((Utf.chr l : Nat) : Int) by rw [Utf.chr2 q0 (by omega), if_neg (by omega)]; rfl), rfl⟩
                      | exact ⟨congrArg (Value.int .i64) (show (0 : Int) = ((Utf.chr l : Nat) : Int) by rw [Utf.chr3 q0 (by omega), if_pos (by omega)]; rfl), rfl⟩
                      | exact ⟨congrArg (Value.int .i64) (show (3 : Int) = ((Utf.chr l : Nat) : Int) by rw [Utf.chr3 q0 (by omega), if_neg (by omega)]; rfl), rfl⟩
                      | exact ⟨congrArg (Value.int .i64) (show (0 : Int) = ((Utf.chr l : Nat) : Int) by rw [Utf.chr4 q0 (by omega), if_pos (by omega)]; rfl), rfl⟩
                      | exact ⟨congrArg (Value.int .i64) (show (4 : Int) = ((Utf.chr l : Nat) : Int) by rw [Utf.chr4 q0 (by omega), if_neg (by omega)]; rfl), rfl⟩
                  · intro hg55
                    try simp only [decide_eq_true_eq, decide_eq_false_iff_not, Bool.not_eq_true', Bool.not_eq_false', Bool.and_eq_true, Bool.or_eq_false_iff] at hg55
                    refine KL.op (R.move rfl rfl) rfl rfl rfl ?_
                    refine KL.op (R.move rfl rfl) rfl rfl rfl ?_
                    refine KL.op (R.index1 (j := k) rfl Tryd.underlying22 sz5 rfl rfl hs rfl (by omega)) rfl rfl rfl ?_
                    refine KL.op (R.load rfl Tryd.underlying5 rfl rfl ((hs.int k (by omega)).1)) rfl rfl rfl ?_
                    refine KL.op (R.gtr rfl rfl rfl) rfl rfl rfl ?_
                    refine KL.op (R.pick rfl rfl rfl) rfl rfl rfl ?_
                    refine KL.nil ?_
                    refine KQ.seq ?_
                    refine KC.iteL rfl ?_ ?_
                    · intro hc61
                      try simp only [decide_eq_true_eq, decide_eq_false_iff_not, Bool.not_eq_true', Bool.not_eq_false', Bool.and_eq_true, Bool.or_eq_false_iff] at hc61
                      refine KC.seq ?_
                      have hba := Utf.bad_at (l := l) (k := k) hk1 (by omega) (by omega)
                      refine KC.region ?_
                      refine KL.op (R.assign rfl rfl) rfl rfl rfl ?_
                      refine KL.nil ?_
                      refine KQ.seq ?_
                      refine KC.ret ?_
                      refine KQ.retThen ?_
                      refine KQ.retBlock ?_
                      refine KQ.retThen ?_
                      refine KQ.retThen ?_
                      refine KQ.retBlock ?_
                      refine KQ.retThen ?_
                      refine KQ.ofRet ?_
                      refine KQ.fin1 Tryd.results41 rfl ?_
                      first
                        | exact ⟨congrArg (Value.int .i64) (show (0 : Int) = ((Utf.chr l : Nat) : Int) by rw [Utf.chr0 q0 (by omega)]; rfl), rfl⟩
                        | exact ⟨congrArg (Value.int .i64) (show (1 : Int) = ((Utf.chr l : Nat) : Int) by rw [Utf.chr1 (by omega)]; rfl), rfl⟩
                        | exact ⟨congrArg (Value.int .i64) (show (0 : Int) = ((Utf.chr l : Nat) : Int) by rw [Utf.chr2 q0 (by omega), if_pos (by omega)]; rfl), rfl⟩
                        | exact ⟨congrArg (Value.int .i64) (show (2 : Int) = ((Utf.chr l : Nat) : Int) by rw [Utf.chr2 q0 (by omega), if_neg (by omega)]; rfl), rfl⟩
                        | exact ⟨congrArg (Value.int .i64) (show (0 : Int) = ((Utf.chr l : Nat) : Int) by rw [Utf.chr3 q0 (by omega), if_pos (by omega)]; rfl), rfl⟩
                        | exact ⟨congrArg (Value.int .i64) (show (3 : Int) = ((Utf.chr l : Nat) : Int) by rw [Utf.chr3 q0 (by omega), if_neg (by omega)]; rfl), rfl⟩
                        | exact ⟨congrArg (Value.int .i64) (show (0 : Int) = ((Utf.chr l : Nat) : Int) by rw [Utf.chr4 q0 (by omega), if_pos (by omega)]; rfl), rfl⟩
                        | exact ⟨congrArg (Value.int .i64) (show (4 : Int) = ((Utf.chr l : Nat) : Int) by rw [Utf.chr4 q0 (by omega), if_neg (by omega)]; rfl), rfl⟩
                    · intro hc61
                      try simp only [decide_eq_true_eq, decide_eq_false_iff_not, Bool.not_eq_true', Bool.not_eq_false', Bool.and_eq_true, Bool.or_eq_false_iff] at hc61
                      refine KC.skip ?_
                      refine KQ.seq ?_
                      refine KC.region ?_
                      refine KL.op (R.move rfl rfl) rfl rfl rfl ?_
                      refine KL.op (R.mul rfl rfl rfl (by dsimp only [InR]; omega)) rfl rfl rfl ?_
                      refine KL.op (R.move rfl rfl) rfl rfl rfl ?_
                      refine KL.op (R.move rfl rfl) rfl rfl rfl ?_
                      refine KL.op (R.index1 (j := k) rfl Tryd.underlying22 sz5 rfl rfl hs rfl (by omega)) rfl rfl rfl ?_
                      refine KL.op (R.load rfl Tryd.underlying5 rfl rfl ((hs.int k (by omega)).1)) rfl rfl rfl ?_
                      refine KL.op (R.convI rfl Tryd.underlying5 Tryd.underlying76 rfl (by dsimp only [InR]; omega)) rfl rfl rfl ?_
                      refine KL.op (R.add rfl rfl rfl (by dsimp only [InR]; omega)) rfl rfl rfl ?_
                      refine KL.op (R.sub rfl rfl rfl (by dsimp only [InR]; omega)) rfl rfl rfl ?_
                      refine KL.op (R.assign rfl rfl) rfl rfl rfl ?_
                      refine KL.nil ?_
                      refine KQ.normBlock ?_
                      refine KQ.seq ?_
                      refine KC.region ?_
                      refine KL.op (R.move rfl rfl) rfl rfl rfl ?_
                      refine KL.op ((R.add rfl rfl rfl (by dsimp only [InR]; omega)).val (congrArg (Value.int .i64) (show _ = ((k + 1 : Nat) : Int) from by omega))) rfl rfl rfl ?_
                      refine KL.op (R.assign rfl rfl) rfl rfl rfl ?_
                      refine KL.nil ?_
                      refine KQ.again ((k + 1, 64 * cc + l.getD k default - 128)) ?_ ?_ ?_
                      · exact (Sub.cons rfl (Sub.cons rfl (Ext.sub (by repeat (first | exact Ext.refl _ _ | refine Ext.put rfl ?_ | refine Ext.drop rfl ?_)))))
                      · show 3 - (k + 1) < 3 - k; omega
                      · exact ⟨rfl, by show 1 ≤ k + 1; omega, by show k + 1 ≤ 3; omega, (by show _ = Utf.cp _ l (k + 1); rw [Utf.cp_succ _ _ hk1, ← hcp]), (fun j h1 h2 => by
                              by_cases e : j = k
                              · subst e; omega
                              · exact hco j h1 (by have h2 : j < k + 1 := h2; omega)), (by show 0 ≤ 64 * cc + _ - 128; omega), (by show 64 * cc + _ - 128 < Utf.bd (k + 1); rw [hbd.1]; omega)⟩
                · intro hc47
                  try simp only [decide_eq_true_eq, decide_eq_false_iff_not, Bool.not_eq_true', Bool.not_eq_false', Bool.and_eq_true, Bool.or_eq_false_iff] at hc47
                  have ek : k = 3 := (by omega)
                  subst ek
                  have ho1 := hco 1 (by omega) (by omega)
                  have ho2 := hco 2 (by omega) (by omega)
                  simp only [Utf.cp, Nat.zero_add, Nat.reduceAdd] at hcp
                  refine KC.exit ?_
                  refine KQ.exitThen ?_
                  refine KQ.exitThen ?_
                  refine KQ.hit ?_
                  refine KQ.seq ?_
                  refine KC.seq ?_
                  refine KC.seq ?_
                  refine KC.region ?_
                  refine KL.op (R.move rfl rfl) rfl rfl rfl ?_
                  refine KL.op (R.move rfl rfl) rfl rfl rfl ?_
                  refine KL.op (R.lss rfl rfl rfl) rfl rfl rfl ?_
                  refine KL.op (R.move rfl rfl) rfl rfl rfl ?_
                  refine KL.case (d := 74) rfl ?_ ?_
                  · intro hg74
                    try simp only [decide_eq_true_eq, decide_eq_false_iff_not, Bool.not_eq_true', Bool.not_eq_false', Bool.and_eq_true, Bool.or_eq_false_iff] at hg74
                    refine KL.skip rfl rfl rfl ?_
                    refine KL.skip rfl rfl rfl ?_
                    refine KL.op (R.pick rfl rfl rfl) rfl rfl rfl ?_
                    refine KL.op (R.move rfl rfl) rfl rfl rfl ?_
                    refine KL.skip rfl rfl rfl ?_
                    refine KL.skip rfl rfl rfl ?_
                    refine KL.skip rfl rfl rfl ?_
                    refine KL.skip rfl rfl rfl ?_
                    refine KL.skip rfl rfl rfl ?_
                    refine KL.skip rfl rfl rfl ?_
                    refine KL.op (R.pick rfl rfl rfl) rfl rfl rfl ?_
                    refine KL.nil ?_
                    refine KQ.seq ?_
                    refine KC.condT rfl ?_
                    refine KC.seq ?_
                    refine KC.region ?_
                    refine KL.op (R.assign rfl rfl) rfl rfl rfl ?_
                    refine KL.nil ?_
                    refine KQ.seq ?_
                    refine KC.ret ?_
                    refine KQ.retThen ?_
                    refine KQ.ofRet ?_
                    refine KQ.fin1 Tryd.results41 rfl ?_
                    first
                      | exact ⟨congrArg (Value.int .i64) (show (0 : Int) = ((Utf.chr l : Nat) : Int) by rw [Utf.chr0 q0 (by omega)]; rfl), rfl⟩
                      | exact ⟨congrArg (Value.int .i64) (show (1 : Int) = ((Utf.chr l : Nat) : Int) by rw [Utf.chr1 (by omega)]; rfl), rfl⟩
                      | exact ⟨congrArg (Value.int .i64) (show (0 : Int) = ((Utf.chr l : Nat) : Int) by rw [Utf.chr2 q0 (by omega), if_pos (by omega)]; rfl), rfl⟩
                      | exact ⟨congrArg (Value.int .i64) (show (2 : Int) = ((Utf.chr l : Nat) : Int) by rw [Utf.chr2 q0 (by omega), if_neg (by omega)]; rfl), rfl⟩
                      | exact ⟨congrArg (Value.int .i64) (show (0 : Int) = ((Utf.chr l : Nat) : Int) by rw [Utf.chr3 q0 (by omega), if_pos (by omega)]; rfl), rfl⟩
                      | exact ⟨congrArg (Value.int .i64) (show (3 : Int) = ((Utf.chr l : Nat) : Int) by rw [Utf.chr3 q0 (by omega), if_neg (by omega)]; rfl), rfl⟩
                      | exact ⟨congrArg (Value.int .i64) (show (0 : Int) = ((Utf.chr l : Nat) : Int) by rw [Utf.chr4 q0 (by omega), if_pos (by omega)]; rfl), rfl⟩
                      | exact ⟨congrArg (Value.int .i64) (show (4 : Int) = ((Utf.chr l : Nat) : Int) by rw [Utf.chr4 q0 (by omega), if_neg (by omega)]; rfl), rfl⟩
                  · intro hg74
                    try simp only [decide_eq_true_eq, decide_eq_false_iff_not, Bool.not_eq_true', Bool.not_eq_false', Bool.and_eq_true, Bool.or_eq_false_iff] at hg74
                    refine KL.op (R.move rfl rfl) rfl rfl rfl ?_
                    refine KL.op (R.gtr rfl rfl rfl) rfl rfl rfl ?_
                    refine KL.op (R.pick rfl rfl rfl) rfl rfl rfl ?_
                    refine KL.op (R.move rfl rfl) rfl rfl rfl ?_
                    refine KL.case (d := 78) rfl ?_ ?_
                    · intro hg78
                      try simp only [decide_eq_true_eq, decide_eq_false_iff_not, Bool.not_eq_true', Bool.not_eq_false', Bool.and_eq_true, Bool.or_eq_false_iff] at hg78
                      refine KL.skip rfl rfl rfl ?_
                      refine KL.skip rfl rfl rfl ?_
                      refine KL.skip rfl rfl rfl ?_
                      refine KL.skip rfl rfl rfl ?_
                      refine KL.skip rfl rfl rfl ?_
                      refine KL.skip rfl rfl rfl ?_
                      refine KL.op (R.pick rfl rfl rfl) rfl rfl rfl ?_
                      refine KL.nil ?_
                      refine KQ.seq ?_
                      refine KC.condT rfl ?_
                      refine KC.seq ?_
                      refine KC.region ?_
                      refine KL.op (R.assign rfl rfl) rfl rfl rfl ?_
                      refine KL.nil ?_
                      refine KQ.seq ?_
                      refine KC.ret ?_
                      refine KQ.retThen ?_
                      refine KQ.ofRet ?_
                      refine KQ.fin1 Tryd.results41 rfl ?_
                      first
                        | exact ⟨congrArg (Value.int .i64) (show (0 : Int) = ((Utf.chr l : Nat) : Int) by rw [Utf.chr0 q0 (by omega)]; rfl), rfl⟩
                        | exact ⟨congrArg (Value.int .i64) (show (1 : Int) = ((Utf.chr l : Nat) : Int) by rw [Utf.chr1 (by omega)]; rfl), rfl⟩
                        | exact ⟨congrArg (Value.int .i64) (show (0 : Int) = ((Utf.chr l : Nat) : Int) by rw [Utf.chr2 q0 (by omega), if_pos (by omega)]; rfl), rfl⟩
                        | exact ⟨congrArg (Value.int .i64) (show (2 : Int) = ((Utf.chr l : Nat) : Int) by rw [Utf.chr2 q0 (by omega), if_neg (by omega)]; rfl), rfl⟩
                        | exact ⟨congrArg (Value.int .i64) (show (0 : Int) = ((Utf.chr l : Nat) : Int) by rw [Utf.chr3 q0 (by omega), if_pos (by omega)]; rfl), rfl⟩
                        | exact ⟨congrArg (Value.int .i64) (show (3 : Int) = ((Utf.chr l : Nat) : Int) by rw [Utf.chr3 q0 (by omega), if_neg (by omega)]; rfl), rfl⟩
                        | exact ⟨congrArg (Value.int .i64) (show (0 : Int) = ((Utf.chr l : Nat) : Int) by rw [Utf.chr4 q0 (by omega), if_pos (by omega)]; rfl), rfl⟩
                        | exact ⟨congrArg (Value.int .i64) (show (4 : Int) = ((Utf.chr l : Nat) : Int) by rw [Utf.chr4 q0 (by omega), if_neg (by omega)]; rfl), rfl⟩
                    · intro hg78
                      try simp only [decide_eq_true_eq, decide_eq_false_iff_not, Bool.not_eq_true', Bool.not_eq_false', Bool.and_eq_true, Bool.or_eq_false_iff] at hg78
                      refine KL.op (R.move rfl rfl) rfl rfl rfl ?_
                      refine KL.op (R.geq rfl rfl rfl) rfl rfl rfl ?_
                      refine KL.op (R.move rfl rfl) rfl rfl rfl ?_
                      refine KL.case (d := 81) rfl ?_ ?_
                      · intro hg81
                        try simp only [decide_eq_true_eq, decide_eq_false_iff_not, Bool.not_eq_true', Bool.not_eq_false', Bool.and_eq_true, Bool.or_eq_false_iff] at hg81
                        refine KL.op (R.move rfl rfl) rfl rfl rfl ?_
                        refine KL.op (R.leq rfl rfl rfl) rfl rfl rfl ?_
                        refine KL.op (R.pick rfl rfl rfl) rfl rfl rfl ?_
                        refine KL.op (R.pick rfl rfl rfl) rfl rfl rfl ?_
                        refine KL.nil ?_
                        refine KQ.seq ?_
                        refine KC.iteL rfl ?_ ?_
                        · intro hc85
                          try simp only [decide_eq_true_eq, decide_eq_false_iff_not, Bool.not_eq_true', Bool.not_eq_false', Bool.and_eq_true, Bool.or_eq_false_iff] at hc85
                          refine KC.seq ?_
                          refine KC.region ?_
                          refine KL.op (R.assign rfl rfl) rfl rfl rfl ?_
                          refine KL.nil ?_
                          refine KQ.seq ?_
                          refine KC.ret ?_
                          refine KQ.retThen ?_
                          refine KQ.ofRet ?_
                          refine KQ.fin1 Tryd.results41 rfl ?_
                          first
                            | exact ⟨congrArg (Value.int .i64) (show (0 : Int) = ((Utf.chr l : Nat) : Int) by rw [Utf.chr0 q0 (by omega)]; rfl), rfl⟩
                            | exact ⟨congrArg (Value.int .i64) (show (1 : Int) = ((Utf.chr l : Nat) : Int) by rw [Utf.chr1 (by omega)]; rfl), rfl⟩
                            | exact ⟨congrArg (Value.int .i64) (show (0 : Int) = ((Utf.chr l : Nat) : Int) by rw [Utf.chr2 q0 (by omega), if_pos (by omega)]; rfl), rfl⟩
                            | exact ⟨congrArg (Value.int .i64) (show (2 : Int) = ((Utf.chr l : Nat) : Int) by rw [Utf.chr2 q0 (by omega), if_neg (by omega)]; rfl), rfl⟩
                            | exact ⟨congrArg (Value.int .i64) (show (0 : Int) = ((Utf.chr l : Nat) : Int) by rw [Utf.chr3 q0 (by omega), if_pos (by omega)]; rfl), rfl⟩
                            | exact ⟨congrArg (Value.int .i64) (show (3 : Int) = ((Utf.chr l : Nat) : Int) by rw [Utf.chr3 q0 (by omega), if_neg (by omega)]; rfl), rfl⟩
                            | exact ⟨congrArg (Value.int .i64) (show (0 : Int) = ((Utf.chr l : Nat) : Int) by rw [Utf.chr4 q0 (by omega), if_pos (by omega)]; rfl), rfl⟩
                            | exact ⟨congrArg (Value.int .i64) (show (4 : Int) = ((Utf.chr l : Nat) : Int) by rw [Utf.chr4 q0 (by omega), if_neg (by omega)]; rfl), rfl⟩
                        · intro hc85
                          try simp only [decide_eq_true_eq, decide_eq_false_iff_not, Bool.not_eq_true', Bool.not_eq_false', Bool.and_eq_true, Bool.or_eq_false_iff] at hc85
                          refine KC.skip ?_
                          refine KQ.seq ?_
                          refine KC.seq ?_
                          refine KC.region ?_
                          refine KL.op (R.move rfl rfl) rfl rfl rfl ?_
                          refine KL.op (R.assign rfl rfl) rfl rfl rfl ?_
                          refine KL.nil ?_
                          refine KQ.seq ?_
                          refine KC.ret ?_
                          refine KQ.ofRet ?_
                          refine KQ.fin1 Tryd.results41 rfl ?_
                          first
                            | exact ⟨congrArg (Value.int .i64) (show (0 : Int) = ((Utf.chr l : Nat) : Int) by rw [Utf.chr0 q0 (by omega)]; rfl), rfl⟩
                            | exact ⟨congrArg (Value.int .i64) (show (1 : Int) = ((Utf.chr l : Nat) : Int) by rw [Utf.chr1 (by omega)]; rfl), rfl⟩
                            | exact ⟨congrArg (Value.int .i64) (show (0 : Int) = ((Utf.chr l : Nat) : Int) by rw [Utf.chr2 q0 (by omega), if_pos (by omega)]; rfl), rfl⟩
                            | exact ⟨congrArg (Value.int .i64) (show (2 : Int) = ((Utf.chr l : Nat) : Int) by rw [Utf.chr2 q0 (by omega), if_neg (by omega)]; rfl), rfl⟩
                            | exact ⟨congrArg (Value.int .i64) (show (0 : Int) = ((Utf.chr l : Nat) : Int) by rw [Utf.chr3 q0 (by omega), if_pos (by omega)]; rfl), rfl⟩
                            | exact ⟨congrArg (Value.int .i64) (show (3 : Int) = ((Utf.chr l : Nat) : Int) by rw [Utf.chr3 q0 (by omega), if_neg (by omega)]; rfl), rfl⟩
                            | exact ⟨congrArg (Value.int .i64) (show (0 : Int) = ((Utf.chr l : Nat) : Int) by rw [Utf.chr4 q0 (by omega), if_pos (by omega)]; rfl), rfl⟩
                            | exact ⟨congrArg (Value.int .i64) (show (4 : Int) = ((Utf.chr l : Nat) : Int) by rw [Utf.chr4 q0 (by omega), if_neg (by omega)]; rfl), rfl⟩
                      · intro hg81
                        try simp only [decide_eq_true_eq, decide_eq_false_iff_not, Bool.not_eq_true', Bool.not_eq_false', Bool.and_eq_true, Bool.or_eq_false_iff] at hg81
                        refine KL.skip rfl rfl rfl ?_
                        refine KL.skip rfl rfl rfl ?_
                        refine KL.op (R.pick rfl rfl rfl) rfl rfl rfl ?_
                        refine KL.op (R.pick rfl rfl rfl) rfl rfl rfl ?_
                        refine KL.nil ?_
                        refine KQ.seq ?_
                        refine KC.condF rfl ?_
                        refine KC.skip ?_
                        refine KQ.seq ?_
                        refine KC.seq ?_
                        refine KC.region ?_
                        refine KL.op (R.move rfl rfl) rfl rfl rfl ?_
                        refine KL.op (R.assign rfl rfl) rfl rfl rfl ?_
                        refine KL.nil ?_
                        refine KQ.seq ?_
                        refine KC.ret ?_
                        refine KQ.ofRet ?_
                        refine KQ.fin1 Tryd.results41 rfl ?_
                        first
                          | exact ⟨congrArg (Value.int .i64) (show (0 : Int) = ((Utf.chr l : Nat) : Int) by rw [Utf.chr0 q0 (by omega)]; rfl), rfl⟩
                          | exact ⟨congrArg (Value.int .i64) (show (1 : Int) = ((Utf.chr l : Nat) : Int) by rw [Utf.chr1 (by omega)]; rfl), rfl⟩
                          | exact ⟨congrArg (Value.int .i64) (show (0 : Int) = ((Utf.chr l : Nat) : Int) by rw [Utf.chr2 q0 (by omega), if_pos (by omega)]; rfl), rfl⟩
                          | exact ⟨congrArg (Value.int .i64) (show (2 : Int) = ((Utf.chr l : Nat) : Int) by rw [Utf.chr2 q0 (by omega), if_neg (by omega)]; rfl), rfl⟩
                          | exact ⟨congrArg (Value.int .i64) (show (0 : Int) = ((Utf.chr l : Nat) : Int) by rw [Utf.chr3 q0 (by omega), if_pos (by omega)]; rfl), rfl⟩
                          | exact ⟨congrArg (Value.int .i64) (show (3 : Int) = ((Utf.chr l : Nat) : Int) by rw [Utf.chr3 q0 (by omega), if_neg (by omega)]; rfl), rfl⟩
                          | exact ⟨congrArg (Value.int .i64) (show (0 : Int) = ((Utf.chr l : Nat) : Int) by rw [Utf.chr4 q0 (by omega), if_pos (by omega)]; rfl), rfl⟩
                          | exact ⟨congrArg (Value.int .i64) (show (4 : Int) = ((Utf.chr l : Nat) : Int) by rw [Utf.chr4 q0 (by omega), if_neg (by omega)]; rfl), rfl⟩
          · intro hc23
            try simp only [decide_eq_true_eq, decide_eq_false_iff_not, Bool.not_eq_true', Bool.not_eq_false', Bool.and_eq_true, Bool.or_eq_false_iff] at hc23
            refine KC.seq ?_
            refine KC.region ?_
            refine KL.op (R.move rfl rfl) rfl rfl rfl ?_
            refine KL.op (R.geq rfl rfl rfl) rfl rfl rfl ?_
            refine KL.op (R.move rfl rfl) rfl rfl rfl ?_
            refine KL.case (d := 35) rfl ?_ ?_
            · intro hg35
              try simp only [decide_eq_true_eq, decide_eq_false_iff_not, Bool.not_eq_true', Bool.not_eq_false', Bool.and_eq_true, Bool.or_eq_false_iff] at hg35
              refine KL.op (R.move rfl rfl) rfl rfl rfl ?_
              refine KL.op (R.lss rfl rfl rfl) rfl rfl rfl ?_
              refine KL.op (R.pick rfl rfl rfl) rfl rfl rfl ?_
              refine KL.op (R.assign rfl rfl) rfl rfl rfl ?_
              refine KL.nil ?_
              refine KQ.seq ?_
              refine KC.iteL rfl ?_ ?_
              · intro hc32
                try simp only [decide_eq_true_eq, decide_eq_false_iff_not, Bool.not_eq_true', Bool.not_eq_false', Bool.and_eq_true, Bool.or_eq_false_iff] at hc32
                refine KC.seq ?_
                refine KC.region ?_
                refine KL.op (R.assign rfl rfl) rfl rfl rfl ?_
                refine KL.nil ?_
                refine KQ.seq ?_
                refine KC.seq ?_
                refine KC.region ?_
                refine KL.op (R.move rfl rfl) rfl rfl rfl ?_
                refine KL.op (R.sub rfl rfl rfl (by dsimp only [InR]; omega)) rfl rfl rfl ?_
                refine KL.op (R.assign rfl rfl) rfl rfl rfl ?_
                refine KL.nil ?_
                refine KQ.seq ?_
                refine KC.region ?_
                refine KL.op (R.assign rfl rfl) rfl rfl rfl ?_
                refine KL.nil ?_
                refine KQ.normBlock ?_
                refine KQ.seq ?_
                refine KC.seq ?_
                refine KC.seq ?_
                refine KC.region ?_
                refine KL.op (R.move rfl rfl) rfl rfl rfl ?_
                refine KL.op ((by first | exact R.lenS rfl Tryd.underlying22 rfl (by first | exact hs | assumption) | exact R.len (ty := 0) rfl Tryd.underlying22 rfl)) rfl rfl rfl ?_
                refine KL.op (R.move rfl rfl) rfl rfl rfl ?_
                refine KL.op (R.lss rfl rfl rfl) rfl rfl rfl ?_
                refine KL.nil ?_
                refine KQ.seq ?_
                refine KC.iteL rfl ?_ ?_
                · intro hc44
                  try simp only [decide_eq_true_eq, decide_eq_false_iff_not, Bool.not_eq_true', Bool.not_eq_false', Bool.and_eq_true, Bool.or_eq_false_iff] at hc44
                  refine KC.seq ?_
                  refine KC.region ?_
                  refine KL.op (R.assign rfl rfl) rfl rfl rfl ?_
                  refine KL.nil ?_
                  refine KQ.seq ?_
                  refine KC.ret ?_
                  refine KQ.retThen ?_
                  refine KQ.ofRet ?_
                  refine KQ.fin1 Tryd.results41 rfl ?_
                  first
                    | exact ⟨congrArg (Value.int .i64) (show (0 : Int) = ((Utf.chr l : Nat) : Int) by rw [Utf.chr0 q0 (by omega)]; rfl), rfl⟩
                    | exact ⟨congrArg (Value.int .i64) (show (1 : Int) = ((Utf.chr l : Nat) : Int) by rw [Utf.chr1 (by omega)]; rfl), rfl⟩
                    | exact ⟨congrArg (Value.int .i64) (show (0 : Int) = ((Utf.chr l : Nat) : Int) by rw [Utf.chr2 q0 (by omega), if_pos (by omega)]; rfl), rfl⟩
                    | exact ⟨congrArg (Value.int .i64) (show (2 : Int) = ((Utf.chr l : Nat) : Int) by rw [Utf.chr2 q0 (by omega), if_neg (by omega)]; rfl), rfl⟩
                    | exact ⟨congrArg (Value.int .i64) (show (0 : Int) = ((Utf.chr l : Nat) : Int) by rw [Utf.chr3 q0 (by omega), if_pos (by omega)]; rfl), rfl⟩
                    | exact ⟨congrArg (Value.int .i64) (show (3 : Int) = ((Utf.chr l : Nat) : Int) by rw [Utf.chr3 q0 (by omega), if_neg (by omega)]; rfl), rfl⟩
                    | exact ⟨congrArg (Value.int .i64) (show (0 : Int) = ((Utf.chr l : Nat) : Int) by rw [Utf.chr4 q0 (by omega), if_pos (by omega)]; rfl), rfl⟩
                    | exact ⟨congrArg (Value.int .i64) (show (4 : Int) = ((Utf.chr l : Nat) : Int) by rw [Utf.chr4 q0 (by omega), if_neg (by omega)]; rfl), rfl⟩
                · intro hc44
                  try simp only [decide_eq_true_eq, decide_eq_false_iff_not, Bool.not_eq_true', Bool.not_eq_false', Bool.and_eq_true, Bool.or_eq_false_iff] at hc44
                  refine KC.skip ?_
                  refine KQ.seq ?_
                  refine KC.seq ?_
                  refine KC.seq ?_
                  refine KC.region ?_
                  refine KL.op (R.assign rfl rfl) rfl rfl rfl ?_
                  refine KL.nil ?_
                  refine KQ.seq ?_
                  refine KC.block ?_
                  refine KC.loopD (κ := Nat × Int) [45, 46, 47, 50, 51, 52, 53, 54, 55, 56, 57, 58, 59, 60, 61, 2, 62, 63, 64, 65, 66, 67, 68, 69, 70, 3, 48, 49, 6] (fun k => [(6, .int .i64 (k.1 : Nat)), (3, .int .u32 k.2)]) (fun k Hl => H = Hl ∧ 1 ≤ k.1 ∧ k.1 ≤ 4 ∧ k.2 = Utf.cp ((l.getD 0 default) - 240) l k.1 ∧ (∀ j, 1 ≤ j → j < k.1 → 128 ≤ l.getD j default ∧ l.getD j default ≤ 191) ∧ 0 ≤ k.2 ∧ k.2 < Utf.bd k.1) (fun k => 4 - k.1) (1, (l.getD 0 default) - 240) ?_ ?_ ?_
                  · exact (Sub.cons rfl (Sub.cons rfl (Ext.sub (Ext.refl _ _))))
                  · exact ⟨rfl, Nat.le_refl _, by show 1 ≤ 4; omega, rfl, (fun j h1 h2 => absurd h2 (by show ¬ j < 1; omega)), by show 0 ≤ (l.getD 0 default) - 240; omega, by show (l.getD 0 default) - 240 < 32; omega⟩
                  · rintro ⟨k, cc⟩ H4 ⟨rfl, hk1, hkn, hcp, hco, hc0, hc1⟩
                    dsimp only at hk1 hkn hcp hco hc0 hc1
                    refine KC.seq ?_
                    refine KC.seq ?_
                    refine KC.region ?_
                    refine KL.op (R.move rfl rfl) rfl rfl rfl ?_
                    refine KL.op (R.move rfl rfl) rfl rfl rfl ?_
                    refine KL.op (R.lss rfl rfl rfl) rfl rfl rfl ?_
                    refine KL.nil ?_
                    refine KQ.seq ?_
                    refine KC.iteL rfl ?_ ?_
                    · intro hc47
                      try simp only [decide_eq_true_eq, decide_eq_false_iff_not, Bool.not_eq_true', Bool.not_eq_false', Bool.and_eq_true, Bool.or_eq_false_iff] at hc47
                      refine KC.skip ?_
                      refine KQ.seq ?_
                      refine KC.seq ?_
                      refine KC.block ?_
                      refine KC.seq ?_
                      refine KC.seq ?_
                      refine KC.region ?_
                      refine KL.op (R.move rfl rfl) rfl rfl rfl ?_
                      refine KL.op (R.move rfl rfl) rfl rfl rfl ?_
                      have qk := (hs.int k (by omega)).2
                      dsimp only [InR] at qk
                      have hbd := Utf.bd_succ hk1 (show k < 4 by omega)
                      refine KL.op (R.index1 (j := k) rfl Tryd.underlying22 sz5 rfl rfl hs rfl (by omega)) rfl rfl rfl ?_
                      refine KL.op (R.load rfl Tryd.underlying5 rfl rfl ((hs.int k (by omega)).1)) rfl rfl rfl ?_
                      refine KL.op (R.lss rfl rfl rfl) rfl rfl rfl ?_
                      refine KL.op (R.move rfl rfl) rfl rfl rfl ?_
                      refine KL.case (d := 55) rfl ?_ ?_
                      · intro hg55
                        try simp only [decide_eq_true_eq, decide_eq_false_iff_not, Bool.not_eq_true', Bool.not_eq_false', Bool.and_eq_true, Bool.or_eq_false_iff] at hg55
                        refine KL.skip rfl rfl rfl ?_
                        refine KL.skip rfl rfl rfl ?_
                        refine KL.skip rfl rfl rfl ?_
                        refine KL.skip rfl rfl rfl ?_
                        refine KL.skip rfl rfl rfl ?_
                        refine KL.op (R.pick rfl rfl rfl) rfl rfl rfl ?_
                        refine KL.nil ?_
                        refine KQ.seq ?_
                        refine KC.condT rfl ?_
                        refine KC.seq ?_
                        have hba := Utf.bad_at (l := l) (k := k) hk1 (by omega) (by omega)
                        refine KC.region ?_
                        refine KL.op (R.assign rfl rfl) rfl rfl rfl ?_
                        refine KL.nil ?_
                        refine KQ.seq ?_
                        refine KC.ret ?_
                        refine KQ.retThen ?_
                        refine KQ.retBlock ?_
                        refine KQ.retThen ?_
                        refine KQ.retThen ?_
                        refine KQ.retBlock ?_
                        refine KQ.retThen ?_
                        refine KQ.ofRet ?_
                        refine KQ.fin1 Tryd.results41 rfl ?_
                        first
                          | exact ⟨congrArg (Value.int .i64) (show (0 : Int) = ((Utf.chr l : Nat) : Int) by rw [Utf.chr0 q0 (by omega)]; rfl), rfl⟩
                          | exact ⟨congrArg (Value.int .i64) (show (1 : Int) = ((Utf.chr l : Nat) : Int) by rw [Utf.chr1 (by omega)]; rfl), rfl⟩
                          | exact ⟨congrArg (Value.int .i64) (show (0 : Int) = ((Utf.chr l : Nat) : Int) by rw [Utf.chr2 q0 (by omega), if_pos (by omega)]; rfl), rfl⟩
                          | exact ⟨congrArg (Value.int .i64) (show (2 : Int) = ((Utf.chr l : Nat) : Int) by rw [Utf.chr2 q0 (by omega), if_neg (by omega)]; rfl), rfl⟩
                          | exact ⟨congrArg (Value.int .i64) (show (0 : Int) = ((Utf.chr l : Nat) : Int) by rw [Utf.chr3 q0 (by omega), if_pos (by omega)]; rfl), rfl⟩
                          | exact ⟨congrArg (Value.int .i64) (show (3 : Int) = ((Utf.chr l : Nat) : Int) by rw [Utf.chr3 q0 (by omega), if_neg (by omega)]; rfl), rfl⟩
                          | exact ⟨congrArg (Value.int .i64) (show (0 : Int) = ((Utf.chr l : Nat) : Int) by rw [Utf.chr4 q0 (by omega), if_pos (by omega)]; rfl), rfl⟩
                          | exact ⟨congrArg (Value.int .i64) (show (4 : Int) = ((Utf.chr l : Nat) : Int) by rw [Utf.chr4 q0 (by omega), if_neg (by omega)]; rfl), rfl⟩
                      · intro hg55
                        try simp only [decide_eq_true_eq, decide_eq_false_iff_not, Bool.not_eq_true', Bool.not_eq_false', Bool.and_eq_true, Bool.or_eq_false_iff] at hg55
                        refine KL.op (R.move rfl rfl) rfl rfl rfl ?_
                        refine KL.op (R.move rfl rfl) rfl rfl rfl ?_
                        refine KL.op (R.index1 (j := k) rfl Tryd.underlying22 sz5 rfl rfl hs rfl (by omega)) rfl rfl rfl ?_
                        refine KL.op (R.load rfl Tryd.underlying5 rfl rfl ((hs.int k (by omega)).1)) rfl rfl rfl ?_
                        refine KL.op (R.gtr rfl rfl rfl) rfl rfl rfl ?_
                        refine KL.op (R.pick rfl rfl rfl) rfl rfl rfl ?_
                        refine KL.nil ?_
                        refine KQ.seq ?_
                        refine KC.iteL rfl ?_ ?_
                        · intro hc61
                          try simp only [decide_eq_true_eq, decide_eq_false_iff_not, Bool.not_eq_true', Bool.not_eq_false', Bool.and_eq_true, Bool.or_eq_false_iff] at hc61
                          refine KC.seq ?_
                          have hba := Utf.bad_at (l := l) (k := k) hk1 (by omega) (by omega)
                          refine KC.region ?_
                          refine KL.op (R.assign rfl rfl) rfl rfl rfl ?_
                          refine KL.nil ?_
                          refine KQ.seq ?_
                          refine KC.ret ?_
                          refine KQ.retThen ?_
                          refine KQ.retBlock ?_
                          refine KQ.retThen ?_
                          refine KQ.retThen ?_
                          refine KQ.retBlock ?_
                          refine KQ.retThen ?_
                          refine KQ.ofRet ?_
                          refine KQ.fin1 Tryd.results41 rfl ?_
                          first
                            | exact ⟨congrArg (Value.int .i64) (show (0 : Int) = ((Utf.chr l : Nat) : Int) by rw [Utf.chr0 q0 (by omega)]; rfl), rfl⟩
                            | exact ⟨congrArg (Value.int .i64) (show (1 : Int) = ((Utf.chr l : Nat) : Int) by rw [Utf.chr1 (by omega)]; rfl), rfl⟩
                            | exact ⟨congrArg (Value.int .i64) (show (0 : Int) = ((Utf.chr l : Nat) : Int) by rw [Utf.chr2 q0 (by omega), if_pos (by omega)]; rfl), rfl⟩
                            | exact ⟨congrArg (Value.int .i64) (show (2 : Int) = ((Utf.chr l : Nat) : Int) by rw [Utf.chr2 q0 (by omega), if_neg (by omega)]; rfl), rfl⟩
                            | exact ⟨congrArg (Value.int .i64) (show (0 : Int) = ((Utf.chr l : Nat) : Int) by rw [Utf.chr3 q0 (by omega), if_pos (by omega)]; rfl), rfl⟩
                            | exact ⟨congrArg (Value.int .i64) (show (3 : Int) = ((Utf.chr l : Nat) : Int) by rw [Utf.chr3 q0 (by omega), if_neg (by omega)]; rfl), rfl⟩
                            | exact ⟨congrArg (Value.int .i64) (show (0 : Int) = ((Utf.chr l : Nat) : Int) by rw [Utf.chr4 q0 (by omega), if_pos (by omega)]; rfl), rfl⟩
                            | exact ⟨congrArg (Value.int .i64) (show (4 : Int) = ((Utf.chr l : Nat) : Int) by rw [Utf.chr4 q0 (by omega), if_neg (by omega)]; rfl), rfl⟩
                        · intro hc61
                          try simp only [decide_eq_true_eq, decide_eq_false_iff_not, Bool.not_eq_true', Bool.not_eq_false', Bool.and_eq_true, Bool.or_eq_false_iff] at hc61
                          refine KC.skip ?_
                          refine KQ.seq ?_
                          refine KC.region ?_
                          refine KL.op (R.move rfl rfl) rfl rfl rfl ?_
                          refine KL.op (R.mul rfl rfl rfl (by dsimp only [InR]; omega)) rfl rfl rfl ?_
                          refine KL.op (R.move rfl rfl) rfl rfl rfl ?_
                          refine KL.op (R.move rfl rfl) rfl rfl rfl ?_
                          refine KL.op (R.index1 (j := k) rfl Tryd.underlying22 sz5 rfl rfl hs rfl (by omega)) rfl rfl rfl ?_
                          refine KL.op (R.load rfl Tryd.underlying5 rfl rfl ((hs.int k (by omega)).1)) rfl rfl rfl ?_
                          refine KL.op (R.convI rfl Tryd.underlying5 Tryd.underlying76 rfl (by dsimp only [InR]; omega)) rfl rfl rfl ?_
                          refine KL.op (R.add rfl rfl rfl (by dsimp only [InR]; omega)) rfl rfl rfl ?_
                          refine KL.op (R.sub rfl rfl rfl (by dsimp only [InR]; omega)) rfl rfl rfl ?_
                          refine KL.op (R.assign rfl rfl) rfl rfl rfl ?_
                          refine KL.nil ?_
                          refine KQ.normBlock ?_
                          refine KQ.seq ?_
                          refine KC.region ?_
                          refine KL.op (R.move rfl rfl) rfl rfl rfl ?_
                          refine KL.op ((R.add rfl rfl rfl (by dsimp only [InR]; omega)).val (congrArg (Value.int .i64) (show _ = ((k + 1 : Nat) : Int) from by omega))) rfl rfl rfl ?_
                          refine KL.op (R.assign rfl rfl) rfl rfl rfl ?_
                          refine KL.nil ?_
                          refine KQ.again ((k + 1, 64 * cc + l.getD k default - 128)) ?_ ?_ ?_
                          · exact (Sub.cons rfl (Sub.cons rfl (Ext.sub (by repeat (first | exact Ext.refl _ _ | refine Ext.put rfl ?_ | refine Ext.drop rfl ?_)))))
                          · show 4 - (k + 1) < 4 - k; omega
                          · exact ⟨rfl, by show 1 ≤ k + 1; omega, by show k + 1 ≤ 4; omega, (by show _ = Utf.cp _ l (k + 1); rw [Utf.cp_succ _ _ hk1, ← hcp]), (fun j h1 h2 => by
                                  by_cases e : j = k
                                  · subst e; omega
                                  · exact hco j h1 (by have h2 : j < k + 1 := h2; omega)), (by show 0 ≤ 64 * cc + _ - 128; omega), (by show 64 * cc + _ - 128 < Utf.bd (k + 1); rw [hbd.1]; omega)⟩
                    · intro hc47
                      try simp only [decide_eq_true_eq, decide_eq_false_iff_not, Bool.not_eq_true', Bool.not_eq_false', Bool.and_eq_true, Bool.or_eq_false_iff] at hc47
                      have ek : k = 4 := (by omega)
                      subst ek
                      have ho1 := hco 1 (by omega) (by omega)
                      have ho2 := hco 2 (by omega) (by omega)
                      have ho3 := hco 3 (by omega) (by omega)
                      simp only [Utf.cp, Nat.zero_add, Nat.reduceAdd] at hcp
                      refine KC.exit ?_
                      refine KQ.exitThen ?_
                      refine KQ.exitThen ?_
                      refine KQ.hit ?_
                      refine KQ.seq ?_
                      refine KC.seq ?_
                      refine KC.seq ?_
                      refine KC.region ?_
                      refine KL.op (R.move rfl rfl) rfl rfl rfl ?_
                      refine KL.op (R.move rfl rfl) rfl rfl rfl ?_
                      refine KL.op (R.lss rfl rfl rfl) rfl rfl rfl ?_
                      refine KL.op (R.move rfl rfl) rfl rfl rfl ?_
                      refine KL.case (d := 74) rfl ?_ ?_
                      · intro hg74
                        try simp only [decide_eq_true_eq, decide_eq_false_iff_not, Bool.not_eq_true', Bool.not_eq_false', Bool.and_eq_true, Bool.or_eq_false_iff] at hg74
                        refine KL.skip rfl rfl rfl ?_
                        refine KL.skip rfl rfl rfl ?_
                        refine KL.op (R.pick rfl rfl rfl) rfl rfl rfl ?_
                        refine KL.op (R.move rfl rfl) rfl rfl rfl ?_
                        refine KL.skip rfl rfl rfl ?_
                        refine KL.skip rfl rfl rfl ?_
                        refine KL.skip rfl rfl rfl ?_
                        refine KL.skip rfl rfl rfl ?_
                        refine KL.skip rfl rfl rfl ?_
                        refine KL.skip rfl rfl rfl ?_
                        refine KL.op (R.pick rfl rfl rfl) rfl rfl rfl ?_
                        refine KL.nil ?_
                        refine KQ.seq ?_
                        refine KC.condT rfl ?_
                        refine KC.seq ?_
                        refine KC.region ?_
                        refine KL.op (R.assign rfl rfl) rfl rfl rfl ?_
                        refine KL.nil ?_
                        refine KQ.seq ?_
                        refine KC.ret ?_
                        refine KQ.retThen ?_
                        refine KQ.ofRet ?_
                        refine KQ.fin1 Tryd.results41 rfl ?_
                        first
                          | exact ⟨congrArg (Value.int .i64) (show (0 : Int) = ((Utf.chr l : Nat) : Int) by rw [Utf.chr0 q0 (by omega)]; rfl), rfl⟩
                          | exact ⟨congrArg (Value.int .i64) (show (1 : Int) = ((Utf.chr l : Nat) : Int) by rw [Utf.chr1 (by omega)]; rfl), rfl⟩
                          | exact ⟨congrArg (Value.int .i64) (show (0 : Int) = ((Utf.chr l : Nat) : Int) by rw [Utf.chr2 q0 (by omega), if_pos (by omega)]; rfl), rfl⟩
                          | exact ⟨congrArg (Value.int .i64) (show (2 : Int) = ((Utf.chr l : Nat) : Int) by rw [Utf.chr2 q0 (by omega), if_neg (by omega)]; rfl), rfl⟩
                          | exact ⟨congrArg (Value.int .i64) (show (0 : Int) = ((Utf.chr l : Nat) : Int) by rw [Utf.chr3 q0 (by omega), if_pos (by omega)]; rfl), rfl⟩
                          | exact ⟨congrArg (Value.int .i64) (show (3 : Int) = ((Utf.chr l : Nat) : Int) by rw [Utf.chr3 q0 (by omega), if_neg (by omega)]; rfl), rfl⟩
                          | exact ⟨congrArg (Value.int .i64) (show (0 : Int) = ((Utf.chr l : Nat) : Int) by rw [Utf.chr4 q0 (by omega), if_pos (by omega)]; rfl), rfl⟩
                          | exact ⟨congrArg (Value.int .i64) (show (4 : Int) = ((Utf.chr l : Nat) : Int) by rw [Utf.chr4 q0 (by omega), if_neg (by omega)]; rfl), rfl⟩
                      · intro hg74
                        try simp only [decide_eq_true_eq, decide_eq_false_iff_not, Bool.not_eq_true', Bool.not_eq_false', Bool.and_eq_true, Bool.or_eq_false_iff] at hg74
                        refine KL.op (R.move rfl rfl) rfl rfl rfl ?_
                        refine KL.op (R.gtr rfl rfl rfl) rfl rfl rfl ?_
                        refine KL.op (R.pick rfl rfl rfl) rfl rfl rfl ?_
                        refine KL.op (R.move rfl rfl) rfl rfl rfl ?_
                        refine KL.case (d := 78) rfl ?_ ?_
                        · intro hg78
                          try simp only [decide_eq_true_eq, decide_eq_false_iff_not, Bool.not_eq_true', Bool.not_eq_false', Bool.and_eq_true, Bool.or_eq_false_iff] at hg78
                          refine KL.skip rfl rfl rfl ?_
                          refine KL.skip rfl rfl rfl ?_
                          refine KL.skip rfl rfl rfl ?_
                          refine KL.skip rfl rfl rfl ?_
                          refine KL.skip rfl rfl rfl ?_
                          refine KL.skip rfl rfl rfl ?_
                          refine KL.op (R.pick rfl rfl rfl) rfl rfl rfl ?_
                          refine KL.nil ?_
                          refine KQ.seq ?_
                          refine KC.condT rfl ?_
                          refine KC.seq ?_
                          refine KC.region ?_
                          refine KL.op (R.assign rfl rfl) rfl rfl rfl ?_
                          refine KL.nil ?_
                          refine KQ.seq ?_
                          refine KC.ret ?_
                          refine KQ.retThen ?_
                          refine KQ.ofRet ?_
                          refine KQ.fin1 Tryd.results41 rfl ?_
                          first
                            | exact ⟨congrArg (Value.int .i64) (show (0 : Int) = ((Utf.chr l : Nat) : Int) by rw [Utf.chr0 q0 (by omega)]; rfl), rfl⟩
                            | exact ⟨congrArg (Value.int .i64) (show (1 : Int) = ((Utf.chr l : Nat) : Int) by rw [Utf.chr1 (by omega)]; rfl), rfl⟩
                            | exact ⟨congrArg (Value.int .i64) (show (0 : Int) = ((Utf.chr l : Nat) : Int) by rw [Utf.chr2 q0 (by omega), if_pos (by omega)]; rfl), rfl⟩
                            | exact ⟨congrArg (Value.int .i64) (show (2 : Int) = ((Utf.chr l : Nat) : Int) by rw [Utf.chr2 q0 (by omega), if_neg (by omega)]; rfl), rfl⟩
                            | exact ⟨congrArg (Value.int .i64) (show (0 : Int) = ((Utf.chr l : Nat) : Int) by rw [Utf.chr3 q0 (by omega), if_pos (by omega)]; rfl), rfl⟩
                            | exact ⟨congrArg (Value.int .i64) (show (3 : Int) = ((Utf.chr l : Nat) : Int) by rw [Utf.chr3 q0 (by omega), if_neg (by omega)]; rfl), rfl⟩
                            | exact ⟨congrArg (Value.int .i64) (show (0 : Int) = ((Utf.chr l : Nat) : Int) by rw [Utf.chr4 q0 (by omega), if_pos (by omega)]; rfl), rfl⟩
                            | exact ⟨congrArg (Value.int .i64) (show (4 : Int) = ((Utf.chr l : Nat) : Int) by rw [Utf.chr4 q0 (by omega), if_neg (by omega)]; rfl), rfl⟩
                        · intro hg78
                          try simp only [decide_eq_true_eq, decide_eq_false_iff_not, Bool.not_eq_true', Bool.not_eq_false', Bool.and_eq_true, Bool.or_eq_false_iff] at hg78
                          refine KL.op (R.move rfl rfl) rfl rfl rfl ?_
                          refine KL.op (R.geq rfl rfl rfl) rfl rfl rfl ?_
                          refine KL.op (R.move rfl rfl) rfl rfl rfl ?_
                          refine KL.case (d := 81) rfl ?_ ?_
                          · intro hg81
                            try simp only [decide_eq_true_eq, decide_eq_false_iff_not, Bool.not_eq_true', Bool.not_eq_false', Bool.and_eq_true, Bool.or_eq_false_iff] at hg81
                            refine KL.op (R.move rfl rfl) rfl rfl rfl ?_
                            refine KL.op (R.leq rfl rfl rfl) rfl rfl rfl ?_
                            refine KL.op (R.pick rfl rfl rfl) rfl rfl rfl ?_
                            refine KL.op (R.pick rfl rfl rfl) rfl rfl rfl ?_
                            refine KL.nil ?_
                            refine KQ.seq ?_
                            refine KC.iteL rfl ?_ ?_
                            · intro hc85
                              try simp only [decide_eq_true_eq, decide_eq_false_iff_not, Bool.not_eq_true', Bool.not_eq_false', Bool.and_eq_true, Bool.or_eq_false_iff] at hc85
                              refine KC.seq ?_
                              refine KC.region ?_
                              refine KL.op (R.assign rfl rfl) rfl rfl rfl ?_
                              refine KL.nil ?_
                              refine KQ.seq ?_
                              refine KC.ret ?_
                              refine KQ.retThen ?_
                              refine KQ.ofRet ?_
                              refine KQ.fin1 Tryd.results41 rfl ?_
                              first
                                | exact ⟨congrArg (Value.int .i64) (show (0 : Int) = ((Utf.chr l : Nat) : Int) by rw [Utf.chr0 q0 (by omega)]; rfl), rfl⟩
                                | exact ⟨congrArg (Value.int .i64) (show (1 : Int) = ((Utf.chr l : Nat) : Int) by rw [Utf.chr1 (by omega)]; rfl), rfl⟩
                                | exact ⟨congrArg (Value.int .i64) (show (0 : Int) = ((Utf.chr l : Nat) : Int) by rw [Utf.chr2 q0 (by omega), if_pos (by omega)]; rfl), rfl⟩
                                | exact ⟨congrArg (Value.int .i64) (show (2 : Int) = ((Utf.chr l : Nat) : Int) by rw [Utf.chr2 q0 (by omega), if_neg (by omega)]; rfl), rfl⟩
                                | exact ⟨congrArg (Value.int .i64) (show (0 : Int) = ((Utf.chr l : Nat) : Int) by rw [Utf.chr3 q0 (by omega), if_pos (by omega)]; rfl), rfl⟩
                                | exact ⟨congrArg (Value.int .i64) (show (3 : Int) = ((Utf.chr l : Nat) : Int) by rw [Utf.chr3 q0 (by omega), if_neg (by omega)]; rfl), rfl⟩
                                | exact ⟨congrArg (Value.int .i64) (show (0 : Int) = ((Utf.chr l : Nat) : Int) by rw [Utf.chr4 q0 (by omega), if_pos (by omega)]; rfl), rfl⟩
                                | exact ⟨congrArg (Value.int .i64) (show (4 : Int) = ((Utf.chr l : Nat) : Int) by rw [Utf.chr4 q0 (by omega), if_neg (by omega)]; rfl), rfl⟩
                            · intro hc85
                              try simp only [decide_eq_true_eq, decide_eq_false_iff_not, Bool.not_eq_true', Bool.not_eq_false', Bool.and_eq_true, Bool.or_eq_false_iff] at hc85
                              refine KC.skip ?_
                              refine KQ.seq ?_
                              refine KC.seq ?_
                              refine KC.region ?_
                              refine KL.op (R.move rfl rfl) rfl rfl rfl ?_
                              refine KL.op (R.assign rfl rfl) rfl rfl rfl ?_
                              refine KL.nil ?_
                              refine KQ.seq ?_
                              refine KC.ret ?_
                              refine KQ.ofRet ?_
                              refine KQ.fin1 Tryd.results41 rfl ?_
                              first
                                | exact ⟨congrArg (Value.int .i64) (show (0 : Int) = ((Utf.chr l : Nat) : Int) by rw [Utf.chr0 q0 (by omega)]; rfl), rfl⟩
                                | exact ⟨congrArg (Value.int .i64) (show (1 : Int) = ((Utf.chr l : Nat) : Int) by rw [Utf.chr1 (by omega)]; rfl), rfl⟩
                                | exact ⟨congrArg (Value.int .i64) (show (0 : Int) = ((Utf.chr l : Nat) : Int) by rw [Utf.chr2 q0 (by omega), if_pos (by omega)]; rfl), rfl⟩
                                | exact ⟨congrArg (Value.int .i64) (show (2 : Int) = ((Utf.chr l : Nat) : Int) by rw [Utf.chr2 q0 (by omega), if_neg (by omega)]; rfl), rfl⟩
                                | exact ⟨congrArg (Value.int .i64) (show (0 : Int) = ((Utf.chr l : Nat) : Int) by rw [Utf.chr3 q0 (by omega), if_pos (by omega)]; rfl), rfl⟩
                                | exact ⟨congrArg (Value.int .i64) (show (3 : Int) = ((Utf.chr l : Nat) : Int) by rw [Utf.chr3 q0 (by omega), if_neg (by omega)]; rfl), rfl⟩
                                | exact ⟨congrArg (Value.int .i64) (show (0 : Int) = ((Utf.chr l : Nat) : Int) by rw [Utf.chr4 q0 (by omega), if_pos (by omega)]; rfl), rfl⟩
                                | exact ⟨congrArg (Value.int .i64) (show (4 : Int) = ((Utf.chr l : Nat) : Int) by rw [Utf.chr4 q0 (by omega), if_neg (by omega)]; rfl), rfl⟩
                          · intro hg81
                            try simp only [decide_eq_true_eq, decide_eq_false_iff_not, Bool.not_eq_true', Bool.not_eq_false', Bool.and_eq_true, Bool.or_eq_false_iff] at hg81
                            refine KL.skip rfl rfl rfl ?_
                            refine KL.skip rfl rfl rfl ?_
                            refine KL.op (R.pick rfl rfl rfl) rfl rfl rfl ?_
                            refine KL.op (R.pick rfl rfl rfl) rfl rfl rfl ?_
                            refine KL.nil ?_
                            refine KQ.seq ?_
                            refine KC.condF rfl ?_
                            refine KC.skip ?_
                            refine KQ.seq ?_
                            refine KC.seq ?_
                            refine KC.region ?_
                            refine KL.op (R.move rfl rfl) rfl rfl rfl ?_
                            refine KL.op (R.assign rfl rfl) rfl rfl rfl ?_
                            refine KL.nil ?_
                            refine KQ.seq ?_
                            refine KC.ret ?_
                            refine KQ.ofRet ?_
                            refine KQ.fin1 Tryd.results41 rfl ?_
                            first
                              | exact ⟨congrArg (Value.int .i64) (show (0 : Int) = ((Utf.chr l : Nat) : Int) by rw [Utf.chr0 q0 (by omega)]; rfl), rfl⟩
                              | exact ⟨congrArg (Value.int .i64) (show (1 : Int) = ((Utf.chr l : Nat) : Int) by rw [Utf.chr1 (by omega)]; rfl), rfl⟩
                              | exact ⟨congrArg (Value.int .i64) (show (0 : Int) = ((Utf.chr l : Nat) : Int) by rw [Utf.chr2 q0 (by omega), if_pos (by omega)]; rfl), rfl⟩
                              | exact ⟨congrArg (Value.int .i64) (show (2 : Int) = ((Utf.chr l : Nat) : Int) by rw [Utf.chr2 q0 (by omega), if_neg (by omega)]; rfl), rfl⟩
                              | exact ⟨congrArg (Value.int .i64) (show (0 : Int) = ((Utf.chr l : Nat) : Int) by rw [Utf.chr3 q0 (by omega), if_pos (by omega)]; rfl), rfl⟩
                              | exact ⟨congrArg (Value.int .i64) (show (3 : Int) = ((Utf.chr l : Nat) : Int) by rw [Utf.chr3 q0 (by omega), if_neg (by omega)]; rfl), rfl⟩
                              | exact ⟨congrArg (Value.int .i64) (show (0 : Int) = ((Utf.chr l : Nat) : Int) by rw [Utf.chr4 q0 (by omega), if_pos (by omega)]; rfl), rfl⟩
                              | exact ⟨congrArg (Value.int .i64) (show (4 : Int) = ((Utf.chr l : Nat) : Int) by rw [Utf.chr4 q0 (by omega), if_neg (by omega)]; rfl), rfl⟩
              · intro hc32
                try simp only [decide_eq_true_eq, decide_eq_false_iff_not, Bool.not_eq_true', Bool.not_eq_false', Bool.and_eq_true, Bool.or_eq_false_iff] at hc32
                refine KC.seq ?_
                refine KC.region ?_
                refine KL.op (R.assign rfl rfl) rfl rfl rfl ?_
                refine KL.nil ?_
                refine KQ.seq ?_
                refine KC.ret ?_
                refine KQ.retBlock ?_
                refine KQ.retThen ?_
                refine KQ.ofRet ?_
                refine KQ.fin1 Tryd.results41 rfl ?_
                first
                  | exact ⟨congrArg (Value.int .i64) (show (0 : Int) = ((Utf.chr l : Nat) : Int) by rw [Utf.chr0 q0 (by omega)]; rfl), rfl⟩
                  | exact ⟨congrArg (Value.int .i64) (show (1 : Int) = ((Utf.chr l : Nat) : Int) by rw [Utf.chr1 (by omega)]; rfl), rfl⟩
                  | exact ⟨congrArg (Value.int .i64) (show (0 : Int) = ((Utf.chr l : Nat) : Int) by rw [Utf.chr2 q0 (by omega), if_pos (by omega)]; rfl), rfl⟩
                  | exact ⟨congrArg (Value.int .i64) (show (2 : Int) = ((Utf.chr l : Nat) : Int) by rw [Utf.chr2 q0 (by omega), if_neg (by omega)]; rfl), rfl⟩
                  | exact ⟨congrArg (Value.int .i64) (show (0 : Int) = ((Utf.chr l : Nat) : Int) by rw [Utf.chr3 q0 (by omega), if_pos (by omega)]; rfl), rfl⟩
                  | exact ⟨congrArg (Value.int .i64) (show (3 : Int) = ((Utf.chr l : Nat) : Int) by rw [Utf.chr3 q0 (by omega), if_neg (by omega)]; rfl), rfl⟩
                  | exact ⟨congrArg (Value.int .i64) (show (0 : Int) = ((Utf.chr l : Nat) : Int) by rw [Utf.chr4 q0 (by omega), if_pos (by omega)]; rfl), rfl⟩
                  | exact ⟨congrArg (Value.int .i64) (show (4 : Int) = ((Utf.chr l : Nat) : Int) by rw [Utf.chr4 q0 (by omega), if_neg (by omega)]; rfl), rfl⟩
            · intro hg35
              try simp only [decide_eq_true_eq, decide_eq_false_iff_not, Bool.not_eq_true', Bool.not_eq_false', Bool.and_eq_true, Bool.or_eq_false_iff] at hg35
              refine KL.skip rfl rfl rfl ?_
              refine KL.skip rfl rfl rfl ?_
              refine KL.op (R.pick rfl rfl rfl) rfl rfl rfl ?_
              refine KL.op (R.assign rfl rfl) rfl rfl rfl ?_
              refine KL.nil ?_
              refine KQ.seq ?_
              refine KC.condF rfl ?_
              refine KC.seq ?_
              refine KC.region ?_
              refine KL.op (R.assign rfl rfl) rfl rfl rfl ?_
              refine KL.nil ?_
              refine KQ.seq ?_
              refine KC.ret ?_
              refine KQ.retBlock ?_
              refine KQ.retThen ?_
              refine KQ.ofRet ?_
              refine KQ.fin1 Tryd.results41 rfl ?_
              first
                | exact ⟨congrArg (Value.int .i64) (show (0 : Int) = ((Utf.chr l : Nat) : Int) by rw [Utf.chr0 q0 (by omega)]; rfl), rfl⟩
                | exact ⟨congrArg (Value.int .i64) (show (1 : Int) = ((Utf.chr l : Nat) : Int) by rw [Utf.chr1 (by omega)]; rfl), rfl⟩
                | exact ⟨congrArg (Value.int .i64) (show (0 : Int) = ((Utf.chr l : Nat) : Int) by rw [Utf.chr2 q0 (by omega), if_pos (by omega)]; rfl), rfl⟩
                | exact ⟨congrArg (Value.int .i64) (show (2 : Int) = ((Utf.chr l : Nat) : Int) by rw [Utf.chr2 q0 (by omega), if_neg (by omega)]; rfl), rfl⟩
                | exact ⟨congrArg (Value.int .i64) (show (0 : Int) = ((Utf.chr l : Nat) : Int) by rw [Utf.chr3 q0 (by omega), if_pos (by omega)]; rfl), rfl⟩
                | exact ⟨congrArg (Value.int .i64) (show (3 : Int) = ((Utf.chr l : Nat) : Int) by rw [Utf.chr3 q0 (by omega), if_neg (by omega)]; rfl), rfl⟩
                | exact ⟨congrArg (Value.int .i64) (show (0 : Int) = ((Utf.chr l : Nat) : Int) by rw [Utf.chr4 q0 (by omega), if_pos (by omega)]; rfl), rfl⟩
                | exact ⟨congrArg (Value.int .i64) (show (4 : Int) = ((Utf.chr l : Nat) : Int) by rw [Utf.chr4 q0 (by omega), if_neg (by omega)]; rfl), rfl⟩
        · intro hg26
          try simp only [decide_eq_true_eq, decide_eq_false_iff_not, Bool.not_eq_true', Bool.not_eq_false', Bool.and_eq_true, Bool.or_eq_false_iff] at hg26
          refine KL.skip rfl rfl rfl ?_
          refine KL.skip rfl rfl rfl ?_
          refine KL.op (R.pick rfl rfl rfl) rfl rfl rfl ?_
          refine KL.op (R.assign rfl rfl) rfl rfl rfl ?_
          refine KL.nil ?_
          refine KQ.seq ?_
          refine KC.condF rfl ?_
          refine KC.seq ?_
          refine KC.region ?_
          refine KL.op (R.move rfl rfl) rfl rfl rfl ?_
          refine KL.op (R.geq rfl rfl rfl) rfl rfl rfl ?_
          refine KL.op (R.move rfl rfl) rfl rfl rfl ?_
          refine KL.case (d := 35) rfl ?_ ?_
          · intro hg35
            try simp only [decide_eq_true_eq, decide_eq_false_iff_not, Bool.not_eq_true', Bool.not_eq_false', Bool.and_eq_true, Bool.or_eq_false_iff] at hg35
            refine KL.op (R.move rfl rfl) rfl rfl rfl ?_
            refine KL.op (R.lss rfl rfl rfl) rfl rfl rfl ?_
            refine KL.op (R.pick rfl rfl rfl) rfl rfl rfl ?_
            refine KL.op (R.assign rfl rfl) rfl rfl rfl ?_
            refine KL.nil ?_
            refine KQ.seq ?_
            refine KC.iteL rfl ?_ ?_
            · intro hc32
              try simp only [decide_eq_true_eq, decide_eq_false_iff_not, Bool.not_eq_true', Bool.not_eq_false', Bool.and_eq_true, Bool.or_eq_false_iff] at hc32
              refine KC.seq ?_
              refine KC.region ?_
              refine KL.op (R.assign rfl rfl) rfl rfl rfl ?_
              refine KL.nil ?_
              refine KQ.seq ?_
              refine KC.seq ?_
              refine KC.region ?_
              refine KL.op (R.move rfl rfl) rfl rfl rfl ?_
              refine KL.op (R.sub rfl rfl rfl (by dsimp only [InR]; omega)) rfl rfl rfl ?_
              refine KL.op (R.assign rfl rfl) rfl rfl rfl ?_
              refine KL.nil ?_
              refine KQ.seq ?_
              refine KC.region ?_
              refine KL.op (R.assign rfl rfl) rfl rfl rfl ?_
              refine KL.nil ?_
              refine KQ.normBlock ?_
              refine KQ.seq ?_
              refine KC.seq ?_
              refine KC.seq ?_
              refine KC.region ?_
              refine KL.op (R.move rfl rfl) rfl rfl rfl ?_
              refine KL.op ((by first | exact R.lenS rfl Tryd.underlying22 rfl (by first | exact hs | assumption) | exact R.len (ty := 0) rfl Tryd.underlying22 rfl)) rfl rfl rfl ?_
              refine KL.op (R.move rfl rfl) rfl rfl rfl ?_
              refine KL.op (R.lss rfl rfl rfl) rfl rfl rfl ?_
              refine KL.nil ?_
              refine KQ.seq ?_
              refine KC.iteL rfl ?_ ?_
              · intro hc44
                try simp only [decide_eq_true_eq, decide_eq_false_iff_not, Bool.not_eq_true', Bool.not_eq_false', Bool.and_eq_true, Bool.or_eq_false_iff] at hc44
                refine KC.seq ?_
                refine KC.region ?_
                refine KL.op (R.assign rfl rfl) rfl rfl rfl ?_
                refine KL.nil ?_
                refine KQ.seq ?_
                refine KC.ret ?_
                refine KQ.retThen ?_
                refine KQ.ofRet ?_
                refine KQ.fin1 Tryd.results41 rfl ?_
                first
                  | exact ⟨congrArg (Value.int .i64) (show (0 : Int) = ((Utf.chr l : Nat) : Int) by rw [Utf.chr0 q0 (by omega)]; rfl), rfl⟩
                  | exact ⟨congrArg (Value.int .i64) (show (1 : Int) = ((Utf.chr l : Nat) : Int) by rw [Utf.chr1 (by omega)]; rfl), rfl⟩
                  | exact ⟨congrArg (Value.int .i64) (show (0 : Int) = ((Utf.chr l : Nat) : Int) by rw [Utf.chr2 q0 (by omega), if_pos (by omega)]; rfl), rfl⟩
                  | exact ⟨congrArg (Value.int .i64) (show (2 : Int) = ((Utf.chr l : Nat) : Int) by rw [Utf.chr2 q0 (by omega), if_neg (by omega)]; rfl), rfl⟩
                  | exact ⟨congrArg (Value.int .i64) (show (0 : Int) = ((Utf.chr l : Nat) : Int) by rw [Utf.chr3 q0 (by omega), if_pos (by omega)]; rfl), rfl⟩
                  | exact ⟨congrArg (Value.int .i64) (show (3 : Int) = ((Utf.chr l : Nat) : Int) by rw [Utf.chr3 q0 (by omega), if_neg (by omega)]; rfl), rfl⟩
                  | exact ⟨congrArg (Value.int .i64) (show (0 : Int) = ((Utf.chr l : Nat) : Int) by rw [Utf.chr4 q0 (by omega), if_pos (by omega)]; rfl), rfl⟩
                  | exact ⟨congrArg (Value.int .i64) (show (4 : Int) = ((Utf.chr l : Nat) : Int) by rw [Utf.chr4 q0 (by omega), if_neg (by omega)]; rfl), rfl⟩
              · intro hc44
                try simp only [decide_eq_true_eq, decide_eq_false_iff_not, Bool.not_eq_true', Bool.not_eq_false', Bool.and_eq_true, Bool.or_eq_false_iff] at hc44
                refine KC.skip ?_
                refine KQ.seq ?_
                refine KC.seq ?_
                refine KC.seq ?_
                refine KC.region ?_
                refine KL.op (R.assign rfl rfl) rfl rfl rfl ?_
                refine KL.nil ?_
                refine KQ.seq ?_
                refine KC.block ?_
                refine KC.loopD (κ := Nat × Int) [45, 46, 47, 50, 51, 52, 53, 54, 55, 56, 57, 58, 59, 60, 61, 2, 62, 63, 64, 65, 66, 67, 68, 69, 70, 3, 48, 49, 6] (fun k => [(6, .int .i64 (k.1 : Nat)), (3, .int .u32 k.2)]) (fun k Hl => H = Hl ∧ 1 ≤ k.1 ∧ k.1 ≤ 4 ∧ k.2 = Utf.cp ((l.getD 0 default) - 240) l k.1 ∧ (∀ j, 1 ≤ j → j < k.1 → 128 ≤ l.getD j default ∧ l.getD j default ≤ 191) ∧ 0 ≤ k.2 ∧ k.2 < Utf.bd k.1) (fun k => 4 - k.1) (1, (l.getD 0 default) - 240) ?_ ?_ ?_
                · exact (Sub.cons rfl (Sub.cons rfl (Ext.sub (Ext.refl _ _))))
                · exact ⟨rfl, Nat.le_refl _, by show 1 ≤ 4; omega, rfl, (fun j h1 h2 => absurd h2 (by show ¬ j < 1; omega)), by show 0 ≤ (l.getD 0 default) - 240; omega, by show (l.getD 0 default) - 240 < 32; omega⟩
                · rintro ⟨k, cc⟩ H5 ⟨rfl, hk1, hkn, hcp, hco, hc0, hc1⟩
                  dsimp only at hk1 hkn hcp hco hc0 hc1
                  refine KC.seq ?_
                  refine KC.seq ?_
                  refine KC.region ?_
                  refine KL.op (R.move rfl rfl) rfl rfl rfl ?_
                  refine KL.op (R.move rfl rfl) rfl rfl rfl ?_
                  refine KL.op (R.lss rfl rfl rfl) rfl rfl rfl ?_
                  refine KL.nil ?_
                  refine KQ.seq ?_
                  refine KC.iteL rfl ?_ ?_
                  · intro hc47
                    try simp only [decide_eq_true_eq, decide_eq_false_iff_not, Bool.not_eq_true', Bool.not_eq_false', Bool.and_eq_true, Bool.or_eq_false_iff] at hc47
                    refine KC.skip ?_
                    refine KQ.seq ?_
                    refine KC.seq ?_
                    refine KC.block ?_
                    refine KC.seq ?_
                    refine KC.seq ?_
                    refine KC.region ?_
                    refine KL.op (R.move rfl rfl) rfl rfl rfl ?_
                    refine KL.op (R.move rfl rfl) rfl rfl rfl ?_
                    have qk := (hs.int k (by omega)).2
                    dsimp only [InR] at qk
                    have hbd := Utf.bd_succ hk1 (show k < 4 by omega)
                    refine KL.op (R.index1 (j := k) rfl Tryd.underlying22 sz5 rfl rfl hs rfl (by omega)) rfl rfl rfl ?_
                    refine KL.op (R.load rfl Tryd.underlying5 rfl rfl ((hs.int k (by omega)).1)) rfl rfl rfl ?_
                    refine KL.op (R.lss rfl rfl rfl) rfl rfl rfl ?_
                    refine KL.op (R.move rfl rfl) rfl rfl rfl ?_
                    refine KL.case (d := 55) rfl ?_ ?_
                    · intro hg55
                      try simp only [decide_eq_true_eq, decide_eq_false_iff_not, Bool.not_eq_true', Bool.not_eq_false', Bool.and_eq_true, Bool.or_eq_false_iff] at hg55
                      refine KL.skip rfl rfl rfl ?_
                      refine KL.skip rfl rfl rfl ?_
                      refine KL.skip rfl rfl rfl ?_
                      refine KL.skip rfl rfl rfl ?_
                      refine KL.skip rfl rfl rfl ?_
                      refine KL.op (R.pick rfl rfl rfl) rfl rfl rfl ?_
                      refine KL.nil ?_
                      refine KQ.seq ?_
                      refine KC.condT rfl ?_
                      refine KC.seq ?_
                      have hba := Utf.bad_at (l := l) (k := k) hk1 (by omega) (by omega)
                      refine KC.region ?_
                      refine KL.op (R.assign rfl rfl) rfl rfl rfl ?_
                      refine KL.nil ?_
                      refine KQ.seq ?_
                      refine KC.ret ?_
                      refine KQ.retThen ?_
                      refine KQ.retBlock ?_
                      refine KQ.retThen ?_
                      refine KQ.retThen ?_
                      refine KQ.retBlock ?_
                      refine KQ.retThen ?_
                      refine KQ.ofRet ?_
                      refine KQ.fin1 Tryd.results41 rfl ?_
                      first
                        | exact ⟨congrArg (Value.int .i64) (show (0 : Int) = ((Utf.chr l : Nat) : Int) by rw [Utf.chr0 q0 (by omega)]; rfl), rfl⟩
                        | exact ⟨congrArg (Value.int .i64) (show (1 : Int) = ((Utf.chr l : Nat) : Int) by rw [Utf.chr1 (by omega)]; rfl), rfl⟩
                        | exact ⟨congrArg (Value.int .i64) (show (0 : Int) = ((Utf.chr l : Nat) : Int) by rw [Utf.chr2 q0 (by omega), if_pos (by omega)]; rfl), rfl⟩
                        | exact ⟨congrArg (Value.int .i64) (show (2 : Int) = ((Utf.chr l : Nat) : Int) by rw [Utf.chr2 q0 (by omega), if_neg (by omega)]; rfl), rfl⟩
                        | exact ⟨congrArg (Value.int .i64) (show (0 : Int) = ((Utf.chr l : Nat) : Int) by rw [Utf.chr3 q0 (by omega), if_pos (by omega)]; rfl), rfl⟩
                        | exact ⟨congrArg (Value.int .i64) (show (3 : Int) = ((Utf.chr l : Nat) : Int) by rw [Utf.chr3 q0 (by omega), if_neg (by omega)]; rfl), rfl⟩
                        | exact ⟨congrArg (Value.int .i64) (show (0 : Int) = ((Utf.chr l : Nat) : Int) by rw [Utf.chr4 q0 (by omega), if_pos (by omega)]; rfl), rfl⟩
                        | exact ⟨congrArg (Value.int .i64) (show (4 : Int) = ((Utf.chr l : Nat) : Int) by rw [Utf.chr4 q0 (by omega), if_neg (by omega)]; rfl), rfl⟩
                    · intro hg55
                      try simp only [decide_eq_true_eq, decide_eq_false_iff_not, Bool.not_eq_true', Bool.not_eq_false', Bool.and_eq_true, Bool.or_eq_false_iff] at hg55
                      refine KL.op (R.move rfl rfl) rfl rfl rfl ?_
                      refine KL.op (R.move rfl rfl) rfl rfl rfl ?_
                      refine KL.op (R.index1 (j := k) rfl Tryd.underlying22 sz5 rfl rfl hs rfl (by omega)) rfl rfl rfl ?_
                      refine KL.op (R.load rfl Tryd.underlying5 rfl rfl ((hs.int k (by omega)).1)) rfl rfl rfl ?_
                      refine KL.op (R.gtr rfl rfl rfl) rfl rfl rfl ?_
                      refine KL.op (R.pick rfl rfl rfl) rfl rfl rfl ?_
                      refine KL.nil ?_
                      refine KQ.seq ?_
                      refine KC.iteL rfl ?_ ?_
                      · intro hc61
                        try simp only [decide_eq_true_eq, decide_eq_false_iff_not, Bool.not_eq_true', Bool.not_eq_false', Bool.and_eq_true, Bool.or_eq_false_iff] at hc61
                        refine KC.seq ?_
                        have hba := Utf.bad_at (l := l) (k := k) hk1 (by omega) (by omega)
                        refine KC.region ?_
                        refine KL.op (R.assign rfl rfl) rfl rfl rfl ?_
                        refine KL.nil ?_
                        refine KQ.seq ?_
                        refine KC.ret ?_
                        refine KQ.retThen ?_
                        refine KQ.retBlock ?_
                        refine KQ.retThen ?_
                        refine KQ.retThen ?_
                        refine KQ.retBlock ?_
                        refine KQ.retThen ?_
                        refine KQ.ofRet ?_
                        refine KQ.fin1 Tryd.results41 rfl ?_
                        first
                          | exact ⟨congrArg (Value.int .i64) (show (0 : Int) = ((Utf.chr l : Nat) : Int) by rw [Utf.chr0 q0 (by omega)]; rfl), rfl⟩
                          | exact ⟨congrArg (Value.int .i64) (show (1 : Int) = ((Utf.chr l : Nat) : Int) by rw [Utf.chr1 (by omega)]; rfl), rfl⟩
                          | exact ⟨congrArg (Value.int .i64) (show (0 : Int) = ((Utf.chr l : Nat) : Int) by rw [Utf.chr2 q0 (by omega), if_pos (by omega)]; rfl), rfl⟩
                          | exact ⟨congrArg (Value.int .i64) (show (2 : Int) = ((Utf.chr l : Nat) : Int) by rw [Utf.chr2 q0 (by omega), if_neg (by omega)]; rfl), rfl⟩
                          | exact ⟨congrArg (Value.int .i64) (show (0 : Int) = ((Utf.chr l : Nat) : Int) by rw [Utf.chr3 q0 (by omega), if_pos (by omega)]; rfl), rfl⟩
                          | exact ⟨congrArg (Value.int .i64) (show (3 : Int) = ((Utf.chr l : Nat) : Int) by rw [Utf.chr3 q0 (by omega), if_neg (by omega)]; rfl), rfl⟩
                          | exact ⟨congrArg (Value.int .i64) (show (0 : Int) = ((Utf.chr l : Nat) : Int) by rw [Utf.chr4 q0 (by omega), if_pos (by omega)]; rfl), rfl⟩
                          | exact ⟨congrArg (Value.int .i64) (show (4 : Int) = ((Utf.chr l : Nat) : Int) by rw [Utf.chr4 q0 (by omega), if_neg (by omega)]; rfl), rfl⟩
                      · intro hc61
                        try simp only [decide_eq_true_eq, decide_eq_false_iff_not, Bool.not_eq_true', Bool.not_eq_false', Bool.and_eq_true, Bool.or_eq_false_iff] at hc61
                        refine KC.skip ?_
                        refine KQ.seq ?_
                        refine KC.region ?_
                        refine KL.op (R.move rfl rfl) rfl rfl rfl ?_
                        refine KL.op (R.mul rfl rfl rfl (by dsimp only [InR]; omega)) rfl rfl rfl ?_
                        refine KL.op (R.move rfl rfl) rfl rfl rfl ?_
                        refine KL.op (R.move rfl rfl) rfl rfl rfl ?_
                        refine KL.op (R.index1 (j := k) rfl Tryd.underlying22 sz5 rfl rfl hs rfl (by omega)) rfl rfl rfl ?_
                        refine KL.op (R.load rfl Tryd.underlying5 rfl rfl ((hs.int k (by omega)).1)) rfl rfl rfl ?_
                        refine KL.op (R.convI rfl Tryd.underlying5 Tryd.underlying76 rfl (by dsimp only [InR]; omega)) rfl rfl rfl ?_
                        refine KL.op (R.add rfl rfl rfl (by dsimp only [InR]; omega)) rfl rfl rfl ?_
                        refine KL.op (R.sub rfl rfl rfl (by dsimp only [InR]; omega)) rfl rfl rfl ?_
                        refine KL.op (R.assign rfl rfl) rfl rfl rfl ?_
                        refine KL.nil ?_
                        refine KQ.normBlock ?_
                        refine KQ.seq ?_
                        refine KC.region ?_
                        refine KL.op (R.move rfl rfl) rfl rfl rfl ?_
                        refine KL.op ((R.add rfl rfl rfl (by dsimp only [InR]; omega)).val (congrArg (Value.int .i64) (show _ = ((k + 1 : Nat) : Int) from by omega))) rfl rfl rfl ?_
                        refine KL.op (R.assign rfl rfl) rfl rfl rfl ?_
                        refine KL.nil ?_
                        refine KQ.again ((k + 1, 64 * cc + l.getD k default - 128)) ?_ ?_ ?_
                        · exact (Sub.cons rfl (Sub.cons rfl (Ext.sub (by repeat (first | exact Ext.refl _ _ | refine Ext.put rfl ?_ | refine Ext.drop rfl ?_)))))
                        · show 4 - (k + 1) < 4 - k; omega
                        · exact ⟨rfl, by show 1 ≤ k + 1; omega, by show k + 1 ≤ 4; omega, (by show _ = Utf.cp _ l (k + 1); rw [Utf.cp_succ _ _ hk1, ← hcp]), (fun j h1 h2 => by
                                by_cases e : j = k
                                · subst e; omega
                                · exact hco j h1 (by have h2 : j < k + 1 := h2; omega)), (by show 0 ≤ 64 * cc + _ - 128; omega), (by show 64 * cc + _ - 128 < Utf.bd (k + 1); rw [hbd.1]; omega)⟩
                  · intro hc47
                    try simp only [decide_eq_true_eq, decide_eq_false_iff_not, Bool.not_eq_true', Bool.not_eq_false', Bool.and_eq_true, Bool.or_eq_false_iff] at hc47
                    have ek : k = 4 := (by omega)
                    subst ek
                    have ho1 := hco 1 (by omega) (by omega)
                    have ho2 := hco 2 (by omega) (by omega)
                    have ho3 := hco 3 (by omega) (by omega)
                    simp only [Utf.cp, Nat.zero_add, Nat.reduceAdd] at hcp
                    refine KC.exit ?_
                    refine KQ.exitThen ?_
                    refine KQ.exitThen ?_
                    refine KQ.hit ?_
                    refine KQ.seq ?_
                    refine KC.seq ?_
                    refine KC.seq ?_
                    refine KC.region ?_
                    refine KL.op (R.move rfl rfl) rfl rfl rfl ?_
                    refine KL.op (R.move rfl rfl) rfl rfl rfl ?_
                    refine KL.op (R.lss rfl rfl rfl) rfl rfl rfl ?_
                    refine KL.op (R.move rfl rfl) rfl rfl rfl ?_
                    refine KL.case (d := 74) rfl ?_ ?_
                    · intro hg74
                      try simp only [decide_eq_true_eq, decide_eq_false_iff_not, Bool.not_eq_true', Bool.not_eq_false', Bool.and_eq_true, Bool.or_eq_false_iff] at hg74
                      refine KL.skip rfl rfl rfl ?_
                      refine KL.skip rfl rfl rfl ?_
                      refine KL.op (R.pick rfl rfl rfl) rfl rfl rfl ?_
                      refine KL.op (R.move rfl rfl) rfl rfl rfl ?_
                      refine KL.skip rfl rfl rfl ?_
                      refine KL.skip rfl rfl rfl ?_
                      refine KL.skip rfl rfl rfl ?_
                      refine KL.skip rfl rfl rfl ?_
                      refine KL.skip rfl rfl rfl ?_
                      refine KL.skip rfl rfl rfl ?_
                      refine KL.op (R.pick rfl rfl rfl) rfl rfl rfl ?_
                      refine KL.nil ?_
                      refine KQ.seq ?_
                      refine KC.condT rfl ?_
                      refine KC.seq ?_
                      refine KC.region ?_
                      refine KL.op (R.assign rfl rfl) rfl rfl rfl ?_
                      refine KL.nil ?_
                      refine KQ.seq ?_
                      refine KC.ret ?_
                      refine KQ.retThen ?_
                      refine KQ.ofRet ?_
                      refine KQ.fin1 Tryd.results41 rfl ?_
                      first
                        | exact ⟨congrArg (Value.int .i64) (show (0 : Int) = ((Utf.chr l : Nat) : Int) by rw [Utf.chr0 q0 (by omega)]; rfl), rfl⟩
                        | exact ⟨congrArg (Value.int .i64) (show (1 : Int) = ((Utf.chr l : Nat) : Int) by rw [Utf.chr1 (by omega)]; rfl), rfl⟩
                        | exact ⟨congrArg (Value.int .i64) (show (0 : Int) = ((Utf.chr l : Nat) : Int) by rw [Utf.chr2 q0 (by omega), if_pos (by omega)]; rfl), rfl⟩
                        | exact ⟨congrArg (Value.int .i64) (show (2 : Int) = ((Utf.chr l : Nat) : Int) by rw [Utf.chr2 q0 (by omega), if_neg (by omega)]; rfl), rfl⟩
                        | exact ⟨congrArg (Value.int .i64) (show (0 : Int) = ((Utf.chr l : Nat) : Int) by rw [Utf.chr3 q0 (by omega), if_pos (by omega)]; rfl), rfl⟩
                        | exact ⟨congrArg (Value.int .i64) (show (3 : Int) = ((Utf.chr l : Nat) : Int) by rw [Utf.chr3 q0 (by omega), if_neg (by omega)]; rfl), rfl⟩
                        | exact ⟨congrArg (Value.int .i64) (show (0 : Int) = ((Utf.chr l : Nat) : Int) by rw [Utf.chr4 q0 (by omega), if_pos (by omega)]; rfl), rfl⟩
                        | exact ⟨congrArg (Value.int .i64) (show (4 : Int) = ((Utf.chr l : Nat) : Int) by rw [Utf.chr4 q0 (by omega), if_neg (by omega)]; rfl), rfl⟩
                    · intro hg74
                      try simp only [decide_eq_true_eq, decide_eq_false_iff_not, Bool.not_eq_true', Bool.not_eq_false', Bool.and_eq_true, Bool.or_eq_false_iff] at hg74
                      refine KL.op (R.move rfl rfl) rfl rfl rfl ?_
                      refine KL.op (R.gtr rfl rfl rfl) rfl rfl rfl ?_
                      refine KL.op (R.pick rfl rfl rfl) rfl rfl rfl ?_
                      refine KL.op (R.move rfl rfl) rfl rfl rfl ?_
                      refine KL.case (d := 78) rfl ?_ ?_
                      · intro hg78
                        try simp only [decide_eq_true_eq, decide_eq_false_iff_not, Bool.not_eq_true', Bool.not_eq_false', Bool.and_eq_true, Bool.or_eq_false_iff] at hg78
                        refine KL.skip rfl rfl rfl ?_
                        refine KL.skip rfl rfl rfl ?_
                        refine KL.skip rfl rfl rfl ?_
                        refine KL.skip rfl rfl rfl ?_
                        refine KL.skip rfl rfl rfl ?_
                        refine KL.skip rfl rfl rfl ?_
                        refine KL.op (R.pick rfl rfl rfl) rfl rfl rfl ?_
                        refine KL.nil ?_
                        refine KQ.seq ?_
                        refine KC.condT rfl ?_
                        refine KC.seq ?_
                        refine KC.region ?_
                        refine KL.op (R.assign rfl rfl) rfl rfl rfl ?_
                        refine KL.nil ?_
                        refine KQ.seq ?_
                        refine KC.ret ?_
                        refine KQ.retThen ?_
                        refine KQ.ofRet ?_
                        refine KQ.fin1 Tryd.results41 rfl ?_
                        first
                          | exact ⟨congrArg (Value.int .i64) (show (0 : Int) = ((Utf.chr l : Nat) : Int) by rw [Utf.chr0 q0 (by omega)]; rfl), rfl⟩
                          | exact ⟨congrArg (Value.int .i64) (show (1 : Int) = ((Utf.chr l : Nat) : Int) by rw [Utf.chr1 (by omega)]; rfl), rfl⟩
                          | exact ⟨congrArg (Value.int .i64) (show (0 : Int) = ((Utf.chr l : Nat) : Int) by rw [Utf.chr2 q0 (by omega), if_pos (by omega)]; rfl), rfl⟩
                          | exact ⟨congrArg (Value.int .i64) (show (2 : Int) = ((Utf.chr l : Nat) : Int) by rw [Utf.chr2 q0 (by omega), if_neg (by omega)]; rfl), rfl⟩
                          | exact ⟨congrArg (Value.int .i64) (show (0 : Int) = ((Utf.chr l : Nat) : Int) by rw [Utf.chr3 q0 (by omega), if_pos (by omega)]; rfl), rfl⟩
                          | exact ⟨congrArg (Value.int .i64) (show (3 : Int) = ((Utf.chr l : Nat) : Int) by rw [Utf.chr3 q0 (by omega), if_neg (by omega)]; rfl), rfl⟩
                          | exact ⟨congrArg (Value.int .i64) (show (0 : Int) = ((Utf.chr l : Nat) : Int) by rw [Utf.chr4 q0 (by omega), if_pos (by omega)]; rfl), rfl⟩
                          | exact ⟨congrArg (Value.int .i64) (show (4 : Int) = ((Utf.chr l : Nat) : Int) by rw [Utf.chr4 q0 (by omega), if_neg (by omega)]; rfl), rfl⟩
                      · intro hg78
                        try simp only [decide_eq_true_eq, decide_eq_false_iff_not, Bool.not_eq_true', Bool.not_eq_false', Bool.and_eq_true, Bool.or_eq_false_iff] at hg78
                        refine KL.op (R.move rfl rfl) rfl rfl rfl ?_
                        refine KL.op (R.geq rfl rfl rfl) rfl rfl rfl ?_
                        refine KL.op (R.move rfl rfl) rfl rfl rfl ?_
                        refine KL.case (d := 81) rfl ?_ ?_
                        · intro hg81
                          try simp only [decide_eq_true_eq, decide_eq_false_iff_not, Bool.not_eq_true', Bool.not_eq_false', Bool.and_eq_true, Bool.or_eq_false_iff] at hg81
                          refine KL.op (R.move rfl rfl) rfl rfl rfl ?_
                          refine KL.op (R.leq rfl rfl rfl) rfl rfl rfl ?_
                          refine KL.op (R.pick rfl rfl rfl) rfl rfl rfl ?_
                          refine KL.op (R.pick rfl rfl rfl) rfl rfl rfl ?_
                          refine KL.nil ?_
                          refine KQ.seq ?_
                          refine KC.iteL rfl ?_ ?_
                          · intro hc85
                            try simp only [decide_eq_true_eq, decide_eq_false_iff_not, Bool.not_eq_true', Bool.not_eq_false', Bool.and_eq_true, Bool.or_eq_false_iff] at hc85
                            refine KC.seq ?_
                            refine KC.region ?_
                            refine KL.op (R.assign rfl rfl) rfl rfl rfl ?_
                            refine KL.nil ?_
                            refine KQ.seq ?_
                            refine KC.ret ?_
                            refine KQ.retThen ?_
                            refine KQ.ofRet ?_
                            refine KQ.fin1 Tryd.results41 rfl ?_
                            first
                              | exact ⟨congrArg (Value.int .i64) (show (0 : Int) = ((Utf.chr l : Nat) : Int) by rw [Utf.chr0 q0 (by omega)]; rfl), rfl⟩
                              | exact ⟨congrArg (Value.int .i64) (show (1 : Int) = ((Utf.chr l : Nat) : Int) by rw [Utf.chr1 (by omega)]; rfl), rfl⟩
                              | exact ⟨congrArg (Value.int .i64) (show (0 : Int) = ((Utf.chr l : Nat) : Int) by rw [Utf.chr2 q0 (by omega), if_pos (by omega)]; rfl), rfl⟩
                              | exact ⟨congrArg (Value.int .i64) (show (2 : Int) = ((Utf.chr l : Nat) : Int) by rw [Utf.chr2 q0 (by omega), if_neg (by omega)]; rfl), rfl⟩
                              | exact ⟨congrArg (Value.int .i64) (show (0 : Int) = ((Utf.chr l : Nat) : Int) by rw [Utf.chr3 q0 (by omega), if_pos (by omega)]; rfl), rfl⟩
                              | exact ⟨congrArg (Value.int .i64) (show (3 : Int) = ((Utf.chr l : Nat) : Int) by rw [Utf.chr3 q0 (by omega), if_neg (by omega)]; rfl), rfl⟩
                              | exact ⟨congrArg (Value.int .i64) (show (0 : Int) = ((Utf.chr l : Nat) : Int) by rw [Utf.chr4 q0 (by omega), if_pos (by omega)]; rfl), rfl⟩
                              | exact ⟨congrArg (Value.int .i64) (show (4 : Int) = ((Utf.chr l : Nat) : Int) by rw [Utf.chr4 q0 (by omega), if_neg (by omega)]; rfl), rfl⟩
                          · intro hc85
                            try simp only [decide_eq_true_eq, decide_eq_false_iff_not, Bool.not_eq_true', Bool.not_eq_false', Bool.and_eq_true, Bool.or_eq_false_iff] at hc85
                            refine KC.skip ?_
                            refine KQ.seq ?_
                            refine KC.seq ?_
                            refine KC.region ?_
                            refine KL.op (R.move rfl rfl) rfl rfl rfl ?_
                            refine KL.op (R.assign rfl rfl) rfl rfl rfl ?_
                            refine KL.nil ?_
                            refine KQ.seq ?_
                            refine KC.ret ?_
                            refine KQ.ofRet ?_
                            refine KQ.fin1 Tryd.results41 rfl ?_
                            first
                              | exact ⟨congrArg (Value.int .i64) (show (0 : Int) = ((Utf.chr l : Nat) : Int) by rw [Utf.chr0 q0 (by omega)]; rfl), rfl⟩
                              | exact ⟨congrArg (Value.int .i64) (show (1 : Int) = ((Utf.chr l : Nat) : Int) by rw [Utf.chr1 (by omega)]; rfl), rfl⟩
                              | exact ⟨congrArg (Value.int .i64) (show (0 : Int) = ((Utf.chr l : Nat) : Int) by rw [Utf.chr2 q0 (by omega), if_pos (by omega)]; rfl), rfl⟩
                              | exact ⟨congrArg (Value.int .i64) (show (2 : Int) = ((Utf.chr l : Nat) : Int) by rw [Utf.chr2 q0 (by omega), if_neg (by omega)]; rfl), rfl⟩
                              | exact ⟨congrArg (Value.int .i64) (show (0 : Int) = ((Utf.chr l : Nat) : Int) by rw [Utf.chr3 q0 (by omega), if_pos (by omega)]; rfl), rfl⟩
                              | exact ⟨congrArg (Value.int .i64) (show (3 : Int) = ((Utf.chr l : Nat) : Int) by rw [Utf.chr3 q0 (by omega), if_neg (by omega)]; rfl), rfl⟩
                              | exact ⟨congrArg (Value.int .i64) (show (0 : Int) = ((Utf.chr l : Nat) : Int) by rw [Utf.chr4 q0 (by omega), if_pos (by omega)]; rfl), rfl⟩
                              | exact ⟨congrArg (Value.int .i64) (show (4 : Int) = ((Utf.chr l : Nat) : Int) by rw [Utf.chr4 q0 (by omega), if_neg (by omega)]; rfl), rfl⟩
                        · intro hg81
                          try simp only [decide_eq_true_eq, decide_eq_false_iff_not, Bool.not_eq_true', Bool.not_eq_false', Bool.and_eq_true, Bool.or_eq_false_iff] at hg81
                          refine KL.skip rfl rfl rfl ?_
                          refine KL.skip rfl rfl rfl ?_
                          refine KL.op (R.pick rfl rfl rfl) rfl rfl rfl ?_
                          refine KL.op (R.pick rfl rfl rfl) rfl rfl rfl ?_
                          refine KL.nil ?_
                          refine KQ.seq ?_
                          refine KC.condF rfl ?_
                          refine KC.skip ?_
                          refine KQ.seq ?_
                          refine KC.seq ?_
                          refine KC.region ?_
                          refine KL.op (R.move rfl rfl) rfl rfl rfl ?_
                          refine KL.op (R.assign rfl rfl) rfl rfl rfl ?_
                          refine KL.nil ?_
                          refine KQ.seq ?_
                          refine KC.ret ?_
                          refine KQ.ofRet ?_
                          refine KQ.fin1 Tryd.results41 rfl ?_
                          first
                            | exact ⟨congrArg (Value.int .i64) (show (0 : Int) = ((Utf.chr l : Nat) : Int) by rw [Utf.chr0 q0 (by omega)]; rfl), rfl⟩
                            | exact ⟨congrArg (Value.int .i64) (show (1 : Int) = ((Utf.chr l : Nat) : Int) by rw [Utf.chr1 (by omega)]; rfl), rfl⟩
                            | exact ⟨congrArg (Value.int .i64) (show (0 : Int) = ((Utf.chr l : Nat) : Int) by rw [Utf.chr2 q0 (by omega), if_pos (by omega)]; rfl), rfl⟩
                            | exact ⟨congrArg (Value.int .i64) (show (2 : Int) = ((Utf.chr l : Nat) : Int) by rw [Utf.chr2 q0 (by omega), if_neg (by omega)]; rfl), rfl⟩
                            | exact ⟨congrArg (Value.int .i64) (show (0 : Int) = ((Utf.chr l : Nat) : Int) by rw [Utf.chr3 q0 (by omega), if_pos (by omega)]; rfl), rfl⟩
                            | exact ⟨congrArg (Value.int .i64) (show (3 : Int) = ((Utf.chr l : Nat) : Int) by rw [Utf.chr3 q0 (by omega), if_neg (by omega)]; rfl), rfl⟩
                            | exact ⟨congrArg (Value.int .i64) (show (0 : Int) = ((Utf.chr l : Nat) : Int) by rw [Utf.chr4 q0 (by omega), if_pos (by omega)]; rfl), rfl⟩
                            | exact ⟨congrArg (Value.int .i64) (show (4 : Int) = ((Utf.chr l : Nat) : Int) by rw [Utf.chr4 q0 (by omega), if_neg (by omega)]; rfl), rfl⟩
            · intro hc32
              try simp only [decide_eq_true_eq, decide_eq_false_iff_not, Bool.not_eq_true', Bool.not_eq_false', Bool.and_eq_true, Bool.or_eq_false_iff] at hc32
              refine KC.seq ?_
              refine KC.region ?_
              refine KL.op (R.assign rfl rfl) rfl rfl rfl ?_
              refine KL.nil ?_
              refine KQ.seq ?_
              refine KC.ret ?_
              refine KQ.retBlock ?_
              refine KQ.retThen ?_
              refine KQ.ofRet ?_
              refine KQ.fin1 Tryd.results41 rfl ?_
              first
                | exact ⟨congrArg (Value.int .i64) (show (0 : Int) = ((Utf.chr l : Nat) : Int) by rw [Utf.chr0 q0 (by omega)]; rfl), rfl⟩
                | exact ⟨congrArg (Value.int .i64) (show (1 : Int) = ((Utf.chr l : Nat) : Int) by rw [Utf.chr1 (by omega)]; rfl), rfl⟩
                | exact ⟨congrArg (Value.int .i64) (show (0 : Int) = ((Utf.chr l : Nat) : Int) by rw [Utf.chr2 q0 (by omega), if_pos (by omega)]; rfl), rfl⟩
                | exact ⟨congrArg (Value.int .i64) (show (2 : Int) = ((Utf.chr l : Nat) : Int) by rw [Utf.chr2 q0 (by omega), if_neg (by omega)]; rfl), rfl⟩
                | exact ⟨congrArg (Value.int .i64) (show (0 : Int) = ((Utf.chr l : Nat) : Int) by rw [Utf.chr3 q0 (by omega), if_pos (by omega)]; rfl), rfl⟩
                | exact ⟨congrArg (Value.int .i64) (show (3 : Int) = ((Utf.chr l : Nat) : Int) by rw [Utf.chr3 q0 (by omega), if_neg (by omega)]; rfl), rfl⟩
                | exact ⟨congrArg (Value.int .i64) (show (0 : Int) = ((Utf.chr l : Nat) : Int) by rw [Utf.chr4 q0 (by omega), if_pos (by omega)]; rfl), rfl⟩
                | exact ⟨congrArg (Value.int .i64) (show (4 : Int) = ((Utf.chr l : Nat) : Int) by rw [Utf.chr4 q0 (by omega), if_neg (by omega)]; rfl), rfl⟩
          · intro hg35
            try simp only [decide_eq_true_eq, decide_eq_false_iff_not, Bool.not_eq_true', Bool.not_eq_false', Bool.and_eq_true, Bool.or_eq_false_iff] at hg35
            refine KL.skip rfl rfl rfl ?_
            refine KL.skip rfl rfl rfl ?_
            refine KL.op (R.pick rfl rfl rfl) rfl rfl rfl ?_
            refine KL.op (R.assign rfl rfl) rfl rfl rfl ?_
            refine KL.nil ?_
            refine KQ.seq ?_
            refine KC.condF rfl ?_
            refine KC.seq ?_
            refine KC.region ?_
            refine KL.op (R.assign rfl rfl) rfl rfl rfl ?_
            refine KL.nil ?_
            refine KQ.seq ?_
            refine KC.ret ?_
            refine KQ.retBlock ?_
            refine KQ.retThen ?_
            refine KQ.ofRet ?_
            refine KQ.fin1 Tryd.results41 rfl ?_
            first
              | exact ⟨congrArg (Value.int .i64) (show (0 : Int) = ((Utf.chr l : Nat) : Int) by rw [Utf.chr0 q0 (by omega)]; rfl), rfl⟩
              | exact ⟨congrArg (Value.int .i64) (show (1 : Int) = ((Utf.chr l : Nat) : Int) by rw [Utf.chr1 (by omega)]; rfl), rfl⟩
              | exact ⟨congrArg (Value.int .i64) (show (0 : Int) = ((Utf.chr l : Nat) : Int) by rw [Utf.chr2 q0 (by omega), if_pos (by omega)]; rfl), rfl⟩
              | exact ⟨congrArg (Value.int .i64) (show (2 : Int) = ((Utf.chr l : Nat) : Int) by rw [Utf.chr2 q0 (by omega), if_neg (by omega)]; rfl), rfl⟩
              | exact ⟨congrArg (Value.int .i64) (show (0 : Int) = ((Utf.chr l : Nat) : Int) by rw [Utf.chr3 q0 (by omega), if_pos (by omega)]; rfl), rfl⟩
              | exact ⟨congrArg (Value.int .i64) (show (3 : Int) = ((Utf.chr l : Nat) : Int) by rw [Utf.chr3 q0 (by omega), if_neg (by omega)]; rfl), rfl⟩
              | exact ⟨congrArg (Value.int .i64) (show (0 : Int) = ((Utf.chr l : Nat) : Int) by rw [Utf.chr4 q0 (by omega), if_pos (by omega)]; rfl), rfl⟩
              | exact ⟨congrArg (Value.int .i64) (show (4 : Int) = ((Utf.chr l : Nat) : Int) by rw [Utf.chr4 q0 (by omega), if_neg (by omega)]; rfl), rfl⟩
    · intro hg17
      try simp only [decide_eq_true_eq, decide_eq_false_iff_not, Bool.not_eq_true', Bool.not_eq_false', Bool.and_eq_true, Bool.or_eq_false_iff] at hg17
      refine KL.skip rfl rfl rfl ?_
      refine KL.skip rfl rfl rfl ?_
      refine KL.op (R.pick rfl rfl rfl) rfl rfl rfl ?_
      refine KL.op (R.assign rfl rfl) rfl rfl rfl ?_
      refine KL.nil ?_
      refine KQ.seq ?_
      refine KC.condF rfl ?_
      refine KC.seq ?_
      refine KC.region ?_
      refine KL.op (R.move rfl rfl) rfl rfl rfl ?_
      refine KL.op (R.geq rfl rfl rfl) rfl rfl rfl ?_
      refine KL.op (R.move rfl rfl) rfl rfl rfl ?_
      refine KL.case (d := 26) rfl ?_ ?_
      · intro hg26
        try simp only [decide_eq_true_eq, decide_eq_false_iff_not, Bool.not_eq_true', Bool.not_eq_false', Bool.and_eq_true, Bool.or_eq_false_iff] at hg26
        refine KL.op (R.move rfl rfl) rfl rfl rfl ?_
        refine KL.op (R.lss rfl rfl rfl) rfl rfl rfl ?_
        refine KL.op (R.pick rfl rfl rfl) rfl rfl rfl ?_
        refine KL.op (R.assign rfl rfl) rfl rfl rfl ?_
        refine KL.nil ?_
        refine KQ.seq ?_
        refine KC.iteL rfl ?_ ?_
        · intro hc23
          try simp only [decide_eq_true_eq, decide_eq_false_iff_not, Bool.not_eq_true', Bool.not_eq_false', Bool.and_eq_true, Bool.or_eq_false_iff] at hc23
          refine KC.seq ?_
          refine KC.region ?_
          refine KL.op (R.assign rfl rfl) rfl rfl rfl ?_
          refine KL.nil ?_
          refine KQ.seq ?_
          refine KC.seq ?_
          refine KC.region ?_
          refine KL.op (R.move rfl rfl) rfl rfl rfl ?_
          refine KL.op (R.sub rfl rfl rfl (by dsimp only [InR]; omega)) rfl rfl rfl ?_
          refine KL.op (R.assign rfl rfl) rfl rfl rfl ?_
          refine KL.nil ?_
          refine KQ.seq ?_
          refine KC.region ?_
          refine KL.op (R.assign rfl rfl) rfl rfl rfl ?_
          refine KL.nil ?_
          refine KQ.normBlock ?_
          refine KQ.seq ?_
          refine KC.seq ?_
          refine KC.seq ?_
          refine KC.region ?_
          refine KL.op (R.move rfl rfl) rfl rfl rfl ?_
          refine KL.op ((by first | exact R.lenS rfl Tryd.underlying22 rfl (by first | exact hs | assumption) | exact R.len (ty := 0) rfl Tryd.underlying22 rfl)) rfl rfl rfl ?_
          refine KL.op (R.move rfl rfl) rfl rfl rfl ?_
          refine KL.op (R.lss rfl rfl rfl) rfl rfl rfl ?_
          refine KL.nil ?_
          refine KQ.seq ?_
          refine KC.iteL rfl ?_ ?_
          · intro hc44
            try simp only [decide_eq_true_eq, decide_eq_false_iff_not, Bool.not_eq_true', Bool.not_eq_false', Bool.and_eq_true, Bool.or_eq_false_iff] at hc44
            refine KC.seq ?_
            refine KC.region ?_
            refine KL.op (R.assign rfl rfl) rfl rfl rfl ?_
            refine KL.nil ?_
            refine KQ.seq ?_
            refine KC.ret ?_
            refine KQ.retThen ?_
            refine KQ.ofRet ?_
            refine KQ.fin1 Tryd.results41 rfl ?_
            first
              | exact ⟨congrArg (Value.int .i64) (show (0 : Int) = ((Utf.chr l : Nat) : Int) by rw [Utf.chr0 q0 (by omega)]; rfl), rfl⟩
              | exact ⟨congrArg (Value.int .i64) (show (1 : Int) = ((Utf.chr l : Nat) : Int) by rw [Utf.chr1 (by omega)]; rfl), rfl⟩
              | exact ⟨congrArg (Value.int .i64) (show (0 : Int) = ((Utf.chr l : Nat) : Int) by rw [Utf.chr2 q0 (by omega), if_pos (by omega)]; rfl), rfl⟩
              | exact ⟨congrArg (Value.int .i64) (show (2 : Int) = ((Utf.chr l : Nat) : Int) by rw [Utf.chr2 q0 (by omega), if_neg (by omega)]; rfl), rfl⟩
              | exact ⟨congrArg (Value.int .i64) (show (0 : Int) = ((Utf.chr l : Nat) : Int) by rw [Utf.chr3 q0 (by omega), if_pos (by omega)]; rfl), rfl⟩
              | exact ⟨congrArg (Value.int .i64) (show (3 : Int) = ((Utf.chr l : Nat) : Int) by rw [Utf.chr3 q0 (by omega), if_neg (by omega)]; rfl), rfl⟩
              | exact ⟨congrArg (Value.int .i64) (show (0 : Int) = ((Utf.chr l : Nat) : Int) by rw [Utf.chr4 q0 (by omega), if_pos (by omega)]; rfl), rfl⟩
              | exact ⟨congrArg (Value.int .i64) (show (4 : Int) = ((Utf.chr l : Nat) : Int) by rw [Utf.chr4 q0 (by omega), if_neg (by omega)]; rfl), rfl⟩
          · intro hc44
            try simp only [decide_eq_true_eq, decide_eq_false_iff_not, Bool.not_eq_true', Bool.not_eq_false', Bool.and_eq_true, Bool.or_eq_false_iff] at hc44
            refine KC.skip ?_
            refine KQ.seq ?_
            refine KC.seq ?_
            refine KC.seq ?_
            refine KC.region ?_
            refine KL.op (R.assign rfl rfl) rfl rfl rfl ?_
            refine KL.nil ?_
            refine KQ.seq ?_
            refine KC.block ?_
            refine KC.loopD (κ := Nat × Int) [45, 46, 47, 50, 51, 52, 53, 54, 55, 56, 57, 58, 59, 60, 61, 2, 62, 63, 64, 65, 66, 67, 68, 69, 70, 3, 48, 49, 6] (fun k => [(6, .int .i64 (k.1 : Nat)), (3, .int .u32 k.2)]) (fun k Hl => H = Hl ∧ 1 ≤ k.1 ∧ k.1 ≤ 3 ∧ k.2 = Utf.cp ((l.getD 0 default) - 224) l k.1 ∧ (∀ j, 1 ≤ j → j < k.1 → 128 ≤ l.getD j default ∧ l.getD j default ≤ 191) ∧ 0 ≤ k.2 ∧ k.2 < Utf.bd k.1) (fun k => 3 - k.1) (1, (l.getD 0 default) - 224) ?_ ?_ ?_
            · exact (Sub.cons rfl (Sub.cons rfl (Ext.sub (Ext.refl _ _))))
            · exact ⟨rfl, Nat.le_refl _, by show 1 ≤ 3; omega, rfl, (fun j h1 h2 => absurd h2 (by show ¬ j < 1; omega)), by show 0 ≤ (l.getD 0 default) - 224; omega, by show (l.getD 0 default) - 224 < 32; omega⟩
            · rintro ⟨k, cc⟩ H6 ⟨rfl, hk1, hkn, hcp, hco, hc0, hc1⟩
              dsimp only at hk1 hkn hcp hco hc0 hc1
              refine KC.seq ?_
              refine KC.seq ?_
              refine KC.region ?_
              refine KL.op (R.move rfl rfl) rfl rfl rfl ?_
              refine KL.op (R.move rfl rfl) rfl rfl rfl ?_
              refine KL.op (R.lss rfl rfl rfl) rfl rfl rfl ?_
              refine KL.nil ?_
              refine KQ.seq ?_
              refine KC.iteL rfl ?_ ?_
              · intro hc47
                try simp only [decide_eq_true_eq, decide_eq_false_iff_not, Bool.not_eq_true', Bool.not_eq_false', Bool.and_eq_true, Bool.or_eq_false_iff] at hc47
                refine KC.skip ?_
                refine KQ.seq ?_
                refine KC.seq ?_
                refine KC.block ?_
                refine KC.seq ?_
                refine KC.seq ?_
                refine KC.region ?_
                refine KL.op (R.move rfl rfl) rfl rfl rfl ?_
                refine KL.op (R.move rfl rfl) rfl rfl rfl ?_
                have qk := (hs.int k (by omega)).2
                dsimp only [InR] at qk
                have hbd := Utf.bd_succ hk1 (show k < 4 by omega)
                refine KL.op (R.index1 (j := k) rfl Tryd.underlying22 sz5 rfl rfl hs rfl (by omega)) rfl rfl rfl ?_
                refine KL.op (R.load rfl Tryd.underlying5 rfl rfl ((hs.int k (by omega)).1)) rfl rfl rfl ?_
                refine KL.op (R.lss rfl rfl rfl) rfl rfl rfl ?_
                refine KL.op (R.move rfl rfl) rfl rfl rfl ?_
                refine KL.case (d := 55) rfl ?_ ?_
                · intro hg55
                  try simp only [decide_eq_true_eq, decide_eq_false_iff_not, Bool.not_eq_true', Bool.not_eq_false', Bool.and_eq_true, Bool.or_eq_false_iff] at hg55
                  refine KL.skip rfl rfl rfl ?_
                  refine KL.skip rfl rfl rfl ?_
                  refine KL.skip rfl rfl rfl ?_
                  refine KL.skip rfl rfl rfl ?_
                  refine KL.skip rfl rfl rfl ?_
                  refine KL.op (R.pick rfl rfl rfl) rfl rfl rfl ?_
                  refine KL.nil ?_
                  refine KQ.seq ?_
                  refine KC.condT rfl ?_
                  refine KC.seq ?_
                  have hba := Utf.bad_at (l := l) (k := k) hk1 (by omega) (by omega)
                  refine KC.region ?_
                  refine KL.op (R.assign rfl rfl) rfl rfl rfl ?_
                  refine KL.nil ?_
                  refine KQ.seq ?_
                  refine KC.ret ?_
                  refine KQ.retThen ?_
                  refine KQ.retBlock ?_
                  refine KQ.retThen ?_
                  refine KQ.retThen ?_
                  refine KQ.retBlock ?_
                  refine KQ.retThen ?_
                  refine KQ.ofRet ?_
                  refine KQ.fin1 Tryd.results41 rfl ?_
                  first
                    | exact ⟨congrArg (Value.int .i64) (show (0 : Int) = ((Utf.chr l : Nat) : Int) by rw [Utf.chr0 q0 (by omega)]; rfl), rfl⟩
                    | exact ⟨congrArg (Value.int .i64) (show (1 : Int) = ((Utf.chr l : Nat) : Int) by rw [Utf.chr1 (by omega)]; rfl), rfl⟩
                    | exact ⟨congrArg (Value.int .i64) (show (0 : Int) = ((Utf.chr l : Nat) : Int) by rw [Utf.chr2 q0 (by omega), if_pos (by omega)]; rfl), rfl⟩
                    | exact ⟨congrArg (Value.int .i64) (show (2 : Int) = ((Utf.chr l : Nat) : Int) by rw [Utf.chr2 q0 (by omega), if_neg (by omega)]; rfl), rfl⟩
                    | exact ⟨congrArg (Value.int .i64) (show (0 : Int) = ((Utf.chr l : Nat) : Int) by rw [Utf.chr3 q0 (by omega), if_pos (by omega)]; rfl), rfl⟩
                    | exact ⟨congrArg (Value.int .i64) (show (3 : Int) = ((Utf.chr l : Nat) : Int) by rw [Utf.chr3 q0 (by omega), if_neg (by omega)]; rfl), rfl⟩
                    | exact ⟨congrArg (Value.int .i64) (show (0 : Int) = ((Utf.chr l : Nat) : Int) by rw [Utf.chr4 q0 (by omega), if_pos (by omega)]; rfl), rfl⟩
                    | exact ⟨congrArg (Value.int .i64) (show (4 : Int) = ((Utf.chr l : Nat) : Int) by rw [Utf.chr4 q0 (by omega), if_neg (by omega)]; rfl), rfl⟩
                · intro hg55
                  try simp only [decide_eq_true_eq, decide_eq_false_iff_not, Bool.not_eq_true', Bool.not_eq_false', Bool.and_eq_true, Bool.or_eq_false_iff] at hg55
                  refine KL.op (R.move rfl rfl) rfl rfl rfl ?_
                  refine KL.op (R.move rfl rfl) rfl rfl rfl ?_
                  refine KL.op (R.index1 (j := k) rfl Tryd.underlying22 sz5 rfl rfl hs rfl (by omega)) rfl rfl rfl ?_
                  refine KL.op (R.load rfl Tryd.underlying5 rfl rfl ((hs.int k (by omega)).1)) rfl rfl rfl ?_
                  refine KL.op (R.gtr rfl rfl rfl) rfl rfl rfl ?_
                  refine KL.op (R.pick rfl rfl rfl) rfl rfl rfl ?_
                  refine KL.nil ?_
                  refine KQ.seq ?_
                  refine KC.iteL rfl ?_ ?_
                  · intro hc61
                    try simp only [decide_eq_true_eq, decide_eq_false_iff_not, Bool.not_eq_true', Bool.not_eq_false', Bool.and_eq_true, Bool.or_eq_false_iff] at hc61
                    refine KC.seq ?_
                    have hba := Utf.bad_at (l := l) (k := k) hk1 (by omega) (by omega)
                    refine KC.region ?_
                    refine KL.op (R.assign rfl rfl) rfl rfl rfl ?_
                    refine KL.nil ?_
                    refine KQ.seq ?_
                    refine KC.ret ?_
                    refine KQ.retThen ?_
                    refine KQ.retBlock ?_
                    refine KQ.retThen ?_
                    refine KQ.retThen ?_
                    refine KQ.retBlock ?_
                    refine KQ.retThen ?_
                    refine KQ.ofRet ?_
                    refine KQ.fin1 Tryd.results41 rfl ?_
                    first
                      | exact ⟨congrArg (Value.int .i64) (show (0 : Int) = ((Utf.chr l : Nat) : Int) by rw [Utf.chr0 q0 (by omega)]; rfl), rfl⟩
                      | exact ⟨congrArg (Value.int .i64) (show (1 : Int) = ((Utf.chr l : Nat) : Int) by rw [Utf.chr1 (by omega)]; rfl), rfl⟩
                      | exact ⟨congrArg (Value.int .i64) (show (0 : Int) = ((Utf.chr l : Nat) : Int) by rw [Utf.chr2 q0 (by omega), if_pos (by omega)]; rfl), rfl⟩
                      | exact ⟨congrArg (Value.int .i64) (show (2 : Int) = ((Utf.chr l : Nat) : Int) by rw [Utf.chr2 q0 (by omega), if_neg (by omega)]; rfl), rfl⟩
                      | exact ⟨congrArg (Value.int .i64) (show (0 : Int) = ((Utf.chr l : Nat) : Int) by rw [Utf.chr3 q0 (by omega), if_pos (by omega)]; rfl), rfl⟩
                      | exact ⟨congrArg (Value.int .i64) (show (3 : Int) = ((Utf.chr l : Nat) : Int) by rw [Utf.chr3 q0 (by omega), if_neg (by omega)]; rfl), rfl⟩
                      | exact ⟨congrArg (Value.int .i64) (show (0 : Int) = ((Utf.chr l : Nat) : Int) by rw [Utf.chr4 q0 (by omega), if_pos (by omega)]; rfl), rfl⟩
                      | exact ⟨congrArg (Value.int .i64) (show (4 : Int) = ((Utf.chr l : Nat) : Int) by rw [Utf.chr4 q0 (by omega), if_neg (by omega)]; rfl), rfl⟩
                  · intro hc61
                    try simp only [decide_eq_true_eq, decide_eq_false_iff_not, Bool.not_eq_true', Bool.not_eq_false', Bool.and_eq_true, Bool.or_eq_false_iff] at hc61
                    refine KC.skip ?_
                    refine KQ.seq ?_
                    refine KC.region ?_
                    refine KL.op (R.move rfl rfl) rfl rfl rfl ?_
                    refine KL.op (R.mul rfl rfl rfl (by dsimp only [InR]; omega)) rfl rfl rfl ?_
                    refine KL.op (R.move rfl rfl) rfl rfl rfl ?_
                    refine KL.op (R.move rfl rfl) rfl rfl rfl ?_
                    refine KL.op (R.index1 (j := k) rfl Tryd.underlying22 sz5 rfl rfl hs rfl (by omega)) rfl rfl rfl ?_
                    refine KL.op (R.load rfl Tryd.underlying5 rfl rfl ((hs.int k (by omega)).1)) rfl rfl rfl ?_
                    refine KL.op (R.convI rfl Tryd.underlying5 Tryd.underlying76 rfl (by dsimp only [InR]; omega)) rfl rfl rfl ?_
                    refine KL.op (R.add rfl rfl rfl (by dsimp only [InR]; omega)) rfl rfl rfl ?_
                    refine KL.op (R.sub rfl rfl rfl (by dsimp only [InR]; omega)) rfl rfl rfl ?_
                    refine KL.op (R.assign rfl rfl) rfl rfl rfl ?_
                    refine KL.nil ?_
                    refine KQ.normBlock ?_
                    refine KQ.seq ?_
                    refine KC.region ?_
                    refine KL.op (R.move rfl rfl) rfl rfl rfl ?_
                    refine KL.op ((R.add rfl rfl rfl (by dsimp only [InR]; omega)).val (congrArg (Value.int .i64) (show _ = ((k + 1 : Nat) : Int) from by omega))) rfl rfl rfl ?_
                    refine KL.op (R.assign rfl rfl) rfl rfl rfl ?_
                    refine KL.nil ?_
                    refine KQ.again ((k + 1, 64 * cc + l.getD k default - 128)) ?_ ?_ ?_
                    · exact (Sub.cons rfl (Sub.cons rfl (Ext.sub (by repeat (first | exact Ext.refl _ _ | refine Ext.put rfl ?_ | refine Ext.drop rfl ?_)))))
                    · show 3 - (k + 1) < 3 - k; omega
                    · exact ⟨rfl, by show 1 ≤ k + 1; omega, by show k + 1 ≤ 3; omega, (by show _ = Utf.cp _ l (k + 1); rw [Utf.cp_succ _ _ hk1, ← hcp]), (fun j h1 h2 => by
                            by_cases e : j = k
                            · subst e; omega
                            · exact hco j h1 (by have h2 : j < k + 1 := h2; omega)), (by show 0 ≤ 64 * cc + _ - 128; omega), (by show 64 * cc + _ - 128 < Utf.bd (k + 1); rw [hbd.1]; omega)⟩
              · intro hc47
                try simp only [decide_eq_true_eq, decide_eq_false_iff_not, Bool.not_eq_true', Bool.not_eq_false', Bool.and_eq_true, Bool.or_eq_false_iff] at hc47
                have ek : k = 3 := (by omega)
                subst ek
                have ho1 := hco 1 (by omega) (by omega)
                have ho2 := hco 2 (by omega) (by omega)
                simp only [Utf.cp, Nat.zero_add, Nat.reduceAdd] at hcp
                refine KC.exit ?_
                refine KQ.exitThen ?_
                refine KQ.exitThen ?_
                refine KQ.hit ?_
                refine KQ.seq ?_
                refine KC.seq ?_
                refine KC.seq ?_
                refine KC.region ?_
                refine KL.op (R.move rfl rfl) rfl rfl rfl ?_
                refine KL.op (R.move rfl rfl) rfl rfl rfl ?_
                refine KL.op (R.lss rfl rfl rfl) rfl rfl rfl ?_
                refine KL.op (R.move rfl rfl) rfl rfl rfl ?_
                refine KL.case (d := 74) rfl ?_ ?_
                · intro hg74
                  try simp only [decide_eq_true_eq, decide_eq_false_iff_not, Bool.not_eq_true', Bool.not_eq_false', Bool.and_eq_true, Bool.or_eq_false_iff] at hg74
                  refine KL.skip rfl rfl rfl ?_
                  refine KL.skip rfl rfl rfl ?_
                  refine KL.op (R.pick rfl rfl rfl) rfl rfl rfl ?_
                  refine KL.op (R.move rfl rfl) rfl rfl rfl ?_
                  refine KL.skip rfl rfl rfl ?_
                  refine KL.skip rfl rfl rfl ?_
                  refine KL.skip rfl rfl rfl ?_
                  refine KL.skip rfl rfl rfl ?_
                  refine KL.skip rfl rfl rfl ?_
                  refine KL.skip rfl rfl rfl ?_
                  refine KL.op (R.pick rfl rfl rfl) rfl rfl rfl ?_
                  refine KL.nil ?_
                  refine KQ.seq ?_
                  refine KC.condT rfl ?_
                  refine KC.seq ?_
                  refine KC.region ?_
                  refine KL.op (R.assign rfl rfl) rfl rfl rfl ?_
                  refine KL.nil ?_
                  refine KQ.seq ?_
                  refine KC.ret ?_
                  refine KQ.retThen ?_
                  refine KQ.ofRet ?_
                  refine KQ.fin1 Tryd.results41 rfl ?_
                  first
                    | exact ⟨congrArg (Value.int .i64) (show (0 : Int) = ((Utf.chr l : Nat) : Int) by rw [Utf.chr0 q0 (by omega)]; rfl), rfl⟩
                    | exact ⟨congrArg (Value.int .i64) (show (1 : Int) = ((Utf.chr l : Nat) : Int) by rw [Utf.chr1 (by omega)]; rfl), rfl⟩
                    | exact ⟨congrArg (Value.int .i64) (show (0 : Int) = ((Utf.chr l : Nat) : Int) by rw [Utf.chr2 q0 (by omega), if_pos (by omega)]; rfl), rfl⟩
                    | exact ⟨congrArg (Value.int .i64) (show (2 : Int) = ((Utf.chr l : Nat) : Int) by rw [Utf.chr2 q0 (by omega), if_neg (by omega)]; rfl), rfl⟩
                    | exact ⟨congrArg (Value.int .i64) (show (0 : Int) = ((Utf.chr l : Nat) : Int) by rw [Utf.chr3 q0 (by omega), if_pos (by omega)]; rfl), rfl⟩
                    | exact ⟨congrArg (Value.int .i64) (show (3 : Int) = ((Utf.chr l : Nat) : Int) by rw [Utf.chr3 q0 (by omega), if_neg (by omega)]; rfl), rfl⟩
                    | exact ⟨congrArg (Value.int .i64) (show (0 : Int) = ((Utf.chr l : Nat) : Int) by rw [Utf.chr4 q0 (by omega), if_pos (by omega)]; rfl), rfl⟩
                    | exact ⟨congrArg (Value.int .i64) (show (4 : Int) = ((Utf.chr l : Nat) : Int) by rw [Utf.chr4 q0 (by omega), if_neg (by omega)]; rfl), rfl⟩
                · intro hg74
                  try simp only [decide_eq_true_eq, decide_eq_false_iff_not, Bool.not_eq_true', Bool.not_eq_false', Bool.and_eq_true, Bool.or_eq_false_iff] at hg74
                  refine KL.op (R.move rfl rfl) rfl rfl rfl ?_
                  refine KL.op (R.gtr rfl rfl rfl) rfl rfl rfl ?_
                  refine KL.op (R.pick rfl rfl rfl) rfl rfl rfl ?_
                  refine KL.op (R.move rfl rfl) rfl rfl rfl ?_
                  refine KL.case (d := 78) rfl ?_ ?_
                  · intro hg78
                    try simp only [decide_eq_true_eq, decide_eq_false_iff_not, Bool.not_eq_true', Bool.not_eq_false', Bool.and_eq_true, Bool.or_eq_false_iff] at hg78
                    refine KL.skip rfl rfl rfl ?_
                    refine KL.skip rfl rfl rfl ?_
                    refine KL.skip rfl rfl rfl ?_
                    refine KL.skip rfl rfl rfl ?_
                    refine KL.skip rfl rfl rfl ?_
                    refine KL.skip rfl rfl rfl ?_
                    refine KL.op (R.pick rfl rfl rfl) rfl rfl rfl ?_
                    refine KL.nil ?_
                    refine KQ.seq ?_
                    refine KC.condT rfl ?_
                    refine KC.seq ?_
                    refine KC.region ?_
                    refine KL.op (R.assign rfl rfl) rfl rfl rfl ?_
                    refine KL.nil ?_
                    refine KQ.seq ?_
                    refine KC.ret ?_
                    refine KQ.retThen ?_
                    refine KQ.ofRet ?_
                    refine KQ.fin1 Tryd.results41 rfl ?_
                    first
                      | exact ⟨congrArg (Value.int .i64) (show (0 : Int) = ((Utf.chr l : Nat) : Int) by rw [Utf.chr0 q0 (by omega)]; rfl), rfl⟩
                      | exact ⟨congrArg (Value.int .i64) (show (1 : Int) = ((Utf.chr l : Nat) : Int) by rw [Utf.chr1 (by omega)]; rfl), rfl⟩
                      | exact ⟨congrArg (Value.int .i64) (show (0 : Int) = ((Utf.chr l : Nat) : Int) by rw [Utf.chr2 q0 (by omega), if_pos (by omega)]; rfl), rfl⟩
                      | exact ⟨congrArg (Value.int .i64) (show (2 : Int) = ((Utf.chr l : Nat) : Int) by rw [Utf.chr2 q0 (by omega), if_neg (by omega)]; rfl), rfl⟩
                      | exact ⟨congrArg (Value.int .i64) (show (0 : Int) = ((Utf.chr l : Nat) : Int) by rw [Utf.chr3 q0 (by omega), if_pos (by omega)]; rfl), rfl⟩
                      | exact ⟨congrArg (Value.int .i64) (show (3 : Int) = ((Utf.chr l : Nat) : Int) by rw [Utf.chr3 q0 (by omega), if_neg (by omega)]; rfl), rfl⟩
                      | exact ⟨congrArg (Value.int .i64) (show (0 : Int) = ((Utf.chr l : Nat) : Int) by rw [Utf.chr4 q0 (by omega), if_pos (by omega)]; rfl), rfl⟩
                      | exact ⟨congrArg (Value.int .i64) (show (4 : Int) = ((Utf.chr l : Nat) : Int) by rw [Utf.chr4 q0 (by omega), if_neg (by omega)]; rfl), rfl⟩
                  · intro hg78
                    try simp only [decide_eq_true_eq, decide_eq_false_iff_not, Bool.not_eq_true', Bool.not_eq_false', Bool.and_eq_true, Bool.or_eq_false_iff] at hg78
                    refine KL.op (R.move rfl rfl) rfl rfl rfl ?_
                    refine KL.op (R.geq rfl rfl rfl) rfl rfl rfl ?_
                    refine KL.op (R.move rfl rfl) rfl rfl rfl ?_
                    refine KL.case (d := 81) rfl ?_ ?_
                    · intro hg81
                      try simp only [decide_eq_true_eq, decide_eq_false_iff_not, Bool.not_eq_true', Bool.not_eq_false', Bool.and_eq_true, Bool.or_eq_false_iff] at hg81
                      refine KL.op (R.move rfl rfl) rfl rfl rfl ?_
                      refine KL.op (R.leq rfl rfl rfl) rfl rfl rfl ?_
                      refine KL.op (R.pick rfl rfl rfl) rfl rfl rfl ?_
                      refine KL.op (R.pick rfl rfl rfl) rfl rfl rfl ?_
                      refine KL.nil ?_
                      refine KQ.seq ?_
                      refine KC.iteL rfl ?_ ?_
                      · intro hc85
                        try simp only [decide_eq_true_eq, decide_eq_false_iff_not, Bool.not_eq_true', Bool.not_eq_false', Bool.and_eq_true, Bool.or_eq_false_iff] at hc85
                        refine KC.seq ?_
                        refine KC.region ?_
                        refine KL.op (R.assign rfl rfl) rfl rfl rfl ?_
                        refine KL.nil ?_
                        refine KQ.seq ?_
                        refine KC.ret ?_
                        refine KQ.retThen ?_
                        refine KQ.ofRet ?_
                        refine KQ.fin1 Tryd.results41 rfl ?_
                        first
                          | exact ⟨congrArg (Value.int .i64) (show (0 : Int) = ((Utf.chr l : Nat) : Int) by rw [Utf.chr0 q0 (by omega)]; rfl), rfl⟩
                          | exact ⟨congrArg (Value.int .i64) (show (1 : Int) = ((Utf.chr l : Nat) : Int) by rw [Utf.chr1 (by omega)]; rfl), rfl⟩
                          | exact ⟨congrArg (Value.int .i64) (show (0 : Int) = ((Utf.chr l : Nat) : Int) by rw [Utf.chr2 q0 (by omega), if_pos (by omega)]; rfl), rfl⟩
                          | exact ⟨congrArg (Value.int .i64) (show (2 : Int) = ((Utf.chr l : Nat) : Int) by rw [Utf.chr2 q0 (by omega), if_neg (by omega)]; rfl), rfl⟩
                          | exact ⟨congrArg (Value.int .i64) (show (0 : Int) = ((Utf.chr l : Nat) : Int) by rw [Utf.chr3 q0 (by omega), if_pos (by omega)]; rfl), rfl⟩
                          | exact ⟨congrArg (Value.int .i64) (show (3 : Int) = ((Utf.chr l : Nat) : Int) by rw [Utf.chr3 q0 (by omega), if_neg (by omega)]; rfl), rfl⟩
                          | exact ⟨congrArg (Value.int .i64) (show (0 : Int) = ((Utf.chr l : Nat) : Int) by rw [Utf.chr4 q0 (by omega), if_pos (by omega)]; rfl), rfl⟩
                          | exact ⟨congrArg (Value.int .i64) (show (4 : Int) = ((Utf.chr l : Nat) : Int) by rw [Utf.chr4 q0 (by omega), if_neg (by omega)]; rfl), rfl⟩
                      · intro hc85
                        try simp only [decide_eq_true_eq, decide_eq_false_iff_not, Bool.not_eq_true', Bool.not_eq_false', Bool.and_eq_true, Bool.or_eq_false_iff] at hc85
                        refine KC.skip ?_
                        refine KQ.seq ?_
                        refine KC.seq ?_
                        refine KC.region ?_
                        refine KL.op (R.move rfl rfl) rfl rfl rfl ?_
                        refine KL.op (R.assign rfl rfl) rfl rfl rfl ?_
                        refine KL.nil ?_
                        refine KQ.seq ?_
                        refine KC.ret ?_
                        refine KQ.ofRet ?_
                        refine KQ.fin1 Tryd.results41 rfl ?_
                        first
                          | exact ⟨congrArg (Value.int .i64) (show (0 : Int) = ((Utf.chr l : Nat) : Int) by rw [Utf.chr0 q0 (by omega)]; rfl), rfl⟩
                          | exact ⟨congrArg (Value.int .i64) (show (1 : Int) = ((Utf.chr l : Nat) : Int) by rw [Utf.chr1 (by omega)]; rfl), rfl⟩
                          | exact ⟨congrArg (Value.int .i64) (show (0 : Int) = ((Utf.chr l : Nat) : Int) by rw [Utf.chr2 q0 (by omega), if_pos (by omega)]; rfl), rfl⟩
                          | exact ⟨congrArg (Value.int .i64) (show (2 : Int) = ((Utf.chr l : Nat) : Int) by rw [Utf.chr2 q0 (by omega), if_neg (by omega)]; rfl), rfl⟩
                          | exact ⟨congrArg (Value.int .i64) (show (0 : Int) = ((Utf.chr l : Nat) : Int) by rw [Utf.chr3 q0 (by omega), if_pos (by omega)]; rfl), rfl⟩
                          | exact ⟨congrArg (Value.int .i64) (show (3 : Int) = ((Utf.chr l : Nat) : Int) by rw [Utf.chr3 q0 (by omega), if_neg (by omega)]; rfl), rfl⟩
                          | exact ⟨congrArg (Value.int .i64) (show (0 : Int) = ((Utf.chr l : Nat) : Int) by rw [Utf.chr4 q0 (by omega), if_pos (by omega)]; rfl), rfl⟩
                          | exact ⟨congrArg (Value.int .i64) (show (4 : Int) = ((Utf.chr l : Nat) : Int) by rw [Utf.chr4 q0 (by omega), if_neg (by omega)]; rfl), rfl⟩
                    · intro hg81
                      try simp only [decide_eq_true_eq, decide_eq_false_iff_not, Bool.not_eq_true', Bool.not_eq_false', Bool.and_eq_true, Bool.or_eq_false_iff] at hg81
                      refine KL.skip rfl rfl rfl ?_
                      refine KL.skip rfl rfl rfl ?_
                      refine KL.op (R.pick rfl rfl rfl) rfl rfl rfl ?_
                      refine KL.op (R.pick rfl rfl rfl) rfl rfl rfl ?_
                      refine KL.nil ?_
                      refine KQ.seq ?_
                      refine KC.condF rfl ?_
                      refine KC.skip ?_
                      refine KQ.seq ?_
                      refine KC.seq ?_
                      refine KC.region ?_
                      refine KL.op (R.move rfl rfl) rfl rfl rfl ?_
                      refine KL.op (R.assign rfl rfl) rfl rfl rfl ?_
                      refine KL.nil ?_
                      refine KQ.seq ?_
                      refine KC.ret ?_
                      refine KQ.ofRet ?_
                      refine KQ.fin1 Tryd.results41 rfl ?_
                      first
                        | exact ⟨congrArg (Value.int .i64) (show (0 : Int) = ((Utf.chr l : Nat) : Int) by rw [Utf.chr0 q0 (by omega)]; rfl), rfl⟩
                        | exact ⟨congrArg (Value.int .i64) (show (1 : Int) = ((Utf.chr l : Nat) : Int) by rw [Utf.chr1 (by omega)]; rfl), rfl⟩
                        | exact ⟨congrArg (Value.int .i64) (show (0 : Int) = ((Utf.chr l : Nat) : Int) by rw [Utf.chr2 q0 (by omega), if_pos (by omega)]; rfl), rfl⟩
                        | exact ⟨congrArg (Value.int .i64) (show (2 : Int) = ((Utf.chr l : Nat) : Int) by rw [Utf.chr2 q0 (by omega), if_neg (by omega)]; rfl), rfl⟩
                        | exact ⟨congrArg (Value.int .i64) (show (0 : Int) = ((Utf.chr l : Nat) : Int) by rw [Utf.chr3 q0 (by omega), if_pos (by omega)]; rfl), rfl⟩
                        | exact ⟨congrArg (Value.int .i64) (show (3 : Int) = ((Utf.chr l : Nat) : Int) by rw [Utf.chr3 q0 (by omega), if_neg (by omega)]; rfl), rfl⟩
                        | exact ⟨congrArg (Value.int .i64) (show (0 : Int) = ((Utf.chr l : Nat) : Int) by rw [Utf.chr4 q0 (by omega), if_pos (by omega)]; rfl), rfl⟩
                        | exact ⟨congrArg (Value.int .i64) (show (4 : Int) = ((Utf.chr l : Nat) : Int) by rw [Utf.chr4 q0 (by omega), if_neg (by omega)]; rfl), rfl⟩
        · intro hc23
          try simp only [decide_eq_true_eq, decide_eq_false_iff_not, Bool.not_eq_true', Bool.not_eq_false', Bool.and_eq_true, Bool.or_eq_false_iff] at hc23
          refine KC.seq ?_
          refine KC.region ?_
          refine KL.op (R.move rfl rfl) rfl rfl rfl ?_
          refine KL.op (R.geq rfl rfl rfl) rfl rfl rfl ?_
          refine KL.op (R.move rfl rfl) rfl rfl rfl ?_
          refine KL.case (d := 35) rfl ?_ ?_
          · intro hg35
            try simp only [decide_eq_true_eq, decide_eq_false_iff_not, Bool.not_eq_true', Bool.not_eq_false', Bool.and_eq_true, Bool.or_eq_false_iff] at hg35
            refine KL.op (R.move rfl rfl) rfl rfl rfl ?_
            refine KL.op (R.lss rfl rfl rfl) rfl rfl rfl ?_
            refine KL.op (R.pick rfl rfl rfl) rfl rfl rfl ?_
            refine KL.op (R.assign rfl rfl) rfl rfl rfl ?_
            refine KL.nil ?_
            refine KQ.seq ?_
            refine KC.iteL rfl ?_ ?_
            · intro hc32
              try simp only [decide_eq_true_eq, decide_eq_false_iff_not, Bool.not_eq_true', Bool.not_eq_false', Bool.and_eq_true, Bool.or_eq_false_iff] at hc32
              refine KC.seq ?_
              refine KC.region ?_
              refine KL.op (R.assign rfl rfl) rfl rfl rfl ?_
              refine KL.nil ?_
              refine KQ.seq ?_
              refine KC.seq ?_
              refine KC.region ?_
              refine KL.op (R.move rfl rfl) rfl rfl rfl ?_
              refine KL.op (R.sub rfl rfl rfl (by dsimp only [InR]; omega)) rfl rfl rfl ?_
              refine KL.op (R.assign rfl rfl) rfl rfl rfl ?_
              refine KL.nil ?_
              refine KQ.seq ?_
              refine KC.region ?_
              refine KL.op (R.assign rfl rfl) rfl rfl rfl ?_
              refine KL.nil ?_
              refine KQ.normBlock ?_
              refine KQ.seq ?_
              refine KC.seq ?_
              refine KC.seq ?_
              refine KC.region ?_
              refine KL.op (R.move rfl rfl) rfl rfl rfl ?_
              refine KL.op ((by first | exact R.lenS rfl Tryd.underlying22 rfl (by first | exact hs | assumption) | exact R.len (ty := 0) rfl Tryd.underlying22 rfl)) rfl rfl rfl ?_
              refine KL.op (R.move rfl rfl) rfl rfl rfl ?_
              refine KL.op (R.lss rfl rfl rfl) rfl rfl rfl ?_
              refine KL.nil ?_
              refine KQ.seq ?_
              refine KC.iteL rfl ?_ ?_
              · intro hc44
                try simp only [decide_eq_true_eq, decide_eq_false_iff_not, Bool.not_eq_true', Bool.not_eq_false', Bool.and_eq_true, Bool.or_eq_false_iff] at hc44
                refine KC.seq ?_
                refine KC.region ?_
                refine KL.op (R.assign rfl rfl) rfl rfl rfl ?_
                refine KL.nil ?_
                refine KQ.seq ?_
                refine KC.ret ?_
                refine KQ.retThen ?_
                refine KQ.ofRet ?_
                refine KQ.fin1 Tryd.results41 rfl ?_
                first
                  | exact ⟨congrArg (Value.int .i64) (show (0 : Int) = ((Utf.chr l : Nat) : Int) by rw [Utf.chr0 q0 (by omega)]; rfl), rfl⟩
                  | exact ⟨congrArg (Value.int .i64) (show (1 : Int) = ((Utf.chr l : Nat) : Int) by rw [Utf.chr1 (by omega)]; rfl), rfl⟩
                  | exact ⟨congrArg (Value.int .i64) (show (0 : Int) = ((Utf.chr l : Nat) : Int) by rw [Utf.chr2 q0 (by omega), if_pos (by omega)]; rfl), rfl⟩
                  | exact ⟨congrArg (Value.int .i64) (show (2 : Int) = ((Utf.chr l : Nat) : Int) by rw [Utf.chr2 q0 (by omega), if_neg (by omega)]; rfl), rfl⟩
                  | exact ⟨congrArg (Value.int .i64) (show (0 : Int) = ((Utf.chr l : Nat) : Int) by rw [Utf.chr3 q0 (by omega), if_pos (by omega)]; rfl), rfl⟩
                  | exact ⟨congrArg (Value.int .i64) (show (3 : Int) = ((Utf.chr l : Nat) : Int) by rw [Utf.chr3 q0 (by omega), if_neg (by omega)]; rfl), rfl⟩
                  | exact ⟨congrArg (Value.int .i64) (show (0 : Int) = ((Utf.chr l : Nat) : Int) by rw [Utf.chr4 q0 (by omega), if_pos (by omega)]; rfl), rfl⟩
                  | exact ⟨congrArg (Value.int .i64) (show (4 : Int) = ((Utf.chr l : Nat) : Int) by rw [Utf.chr4 q0 (by omega), if_neg (by omega)]; rfl), rfl⟩
              · intro hc44
                try simp only [decide_eq_true_eq, decide_eq_false_iff_not, Bool.not_eq_true', Bool.not_eq_false', Bool.and_eq_true, Bool.or_eq_false_iff] at hc44
                refine KC.skip ?_
                refine KQ.seq ?_
                refine KC.seq ?_
                refine KC.seq ?_
                refine KC.region ?_
                refine KL.op (R.assign rfl rfl) rfl rfl rfl ?_
                refine KL.nil ?_
                refine KQ.seq ?_
                refine KC.block ?_
                refine KC.loopD (κ := Nat × Int) [45, 46, 47, 50, 51, 52, 53, 54, 55, 56, 57, 58, 59, 60, 61, 2, 62, 63, 64, 65, 66, 67, 68, 69, 70, 3, 48, 49, 6] (fun k => [(6, .int .i64 (k.1 : Nat)), (3, .int .u32 k.2)]) (fun k Hl => H = Hl ∧ 1 ≤ k.1 ∧ k.1 ≤ 4 ∧ k.2 = Utf.cp ((l.getD 0 default) - 240) l k.1 ∧ (∀ j, 1 ≤ j → j < k.1 → 128 ≤ l.getD j default ∧ l.getD j default ≤ 191) ∧ 0 ≤ k.2 ∧ k.2 < Utf.bd k.1) (fun k => 4 - k.1) (1, (l.getD 0 default) - 240) ?_ ?_ ?_
                · exact (Sub.cons rfl (Sub.cons rfl (Ext.sub (Ext.refl _ _))))
                · exact ⟨rfl, Nat.le_refl _, by show 1 ≤ 4; omega, rfl, (fun j h1 h2 => absurd h2 (by show ¬ j < 1; omega)), by show 0 ≤ (l.getD 0 default) - 240; omega, by show (l.getD 0 default) - 240 < 32; omega⟩
                · rintro ⟨k, cc⟩ H7 ⟨rfl, hk1, hkn, hcp, hco, hc0, hc1⟩
                  dsimp only at hk1 hkn hcp hco hc0 hc1
                  refine KC.seq ?_
                  refine KC.seq ?_
                  refine KC.region ?_
                  refine KL.op (R.move rfl rfl) rfl rfl rfl ?_
                  refine KL.op (R.move rfl rfl) rfl rfl rfl ?_
                  refine KL.op (R.lss rfl rfl rfl) rfl rfl rfl ?_
                  refine KL.nil ?_
                  refine KQ.seq ?_
                  refine KC.iteL rfl ?_ ?_
                  · intro hc47
                    try simp only [decide_eq_true_eq, decide_eq_false_iff_not, Bool.not_eq_true', Bool.not_eq_false', Bool.and_eq_true, Bool.or_eq_false_iff] at hc47
                    refine KC.skip ?_
                    refine KQ.seq ?_
                    refine KC.seq ?_
                    refine KC.block ?_
                    refine KC.seq ?_
                    refine KC.seq ?_
                    refine KC.region ?_
                    refine KL.op (R.move rfl rfl) rfl rfl rfl ?_
                    refine KL.op (R.move rfl rfl) rfl rfl rfl ?_
                    have qk := (hs.int k (by omega)).2
                    dsimp only [InR] at qk
                    have hbd := Utf.bd_succ hk1 (show k < 4 by omega)
                    refine KL.op (R.index1 (j := k) rfl Tryd.underlying22 sz5 rfl rfl hs rfl (by omega)) rfl rfl rfl ?_
                    refine KL.op (R.load rfl Tryd.underlying5 rfl rfl ((hs.int k (by omega)).1)) rfl rfl rfl ?_
                    refine KL.op (R.lss rfl rfl rfl) rfl rfl rfl ?_
                    refine KL.op (R.move rfl rfl) rfl rfl rfl ?_
                    refine KL.case (d := 55) rfl ?_ ?_
                    · intro hg55
                      try simp only [decide_eq_true_eq, decide_eq_false_iff_not, Bool.not_eq_true', Bool.not_eq_false', Bool.and_eq_true, Bool.or_eq_false_iff] at hg55
                      refine KL.skip rfl rfl rfl ?_
                      refine KL.skip rfl rfl rfl ?_
                      refine KL.skip rfl rfl rfl ?_
                      refine KL.skip rfl rfl rfl ?_
                      refine KL.skip rfl rfl rfl ?_
                      refine KL.op (R.pick rfl rfl rfl) rfl rfl rfl ?_
                      refine KL.nil ?_
                      refine KQ.seq ?_
                      refine KC.condT rfl ?_
                      refine KC.seq ?_
                      have hba := Utf.bad_at (l := l) (k := k) hk1 (by omega) (by omega)
                      refine KC.region ?_
                      refine KL.op (R.assign rfl rfl) rfl rfl rfl ?_
                      refine KL.nil ?_
                      refine KQ.seq ?_
                      refine KC.ret ?_
                      refine KQ.retThen ?_
                      refine KQ.retBlock ?_
                      refine KQ.retThen ?_
                      refine KQ.retThen ?_
                      refine KQ.retBlock ?_
                      refine KQ.retThen ?_
                      refine KQ.ofRet ?_
                      refine KQ.fin1 Tryd.results41 rfl ?_
                      first
                        | exact ⟨congrArg (Value.int .i64) (show (0 : Int) = ((Utf.chr l : Nat) : Int) by rw [Utf.chr0 q0 (by omega)]; rfl), rfl⟩
                        | exact ⟨congrArg (Value.int .i64) (show (1 : Int) = ((Utf.chr l : Nat) : Int) by rw [Utf.chr1 (by omega)]; rfl), rfl⟩
                        | exact ⟨congrArg (Value.int .i64) (show (0 : Int) = ((Utf.chr l : Nat) : Int) by rw [Utf.chr2 q0 (by omega), if_pos (by omega)]; rfl), rfl⟩
                        | exact ⟨congrArg (Value.int .i64) (show (2 : Int) = ((Utf.chr l : Nat) : Int) by rw [Utf.chr2 q0 (by omega), if_neg (by omega)]; rfl), rfl⟩
                        | exact ⟨congrArg (Value.int .i64) (show (0 : Int) = ((Utf.chr l : Nat) : Int) by rw [Utf.chr3 q0 (by omega), if_pos (by omega)]; rfl), rfl⟩
                        | exact ⟨congrArg (Value.int .i64) (show (3 : Int) = ((Utf.chr l : Nat) : Int) by rw [Utf.chr3 q0 (by omega), if_neg (by omega)]; rfl), rfl⟩
                        | exact ⟨congrArg (Value.int .i64) (show (0 : Int) = ((Utf.chr l : Nat) : Int) by rw [Utf.chr4 q0 (by omega), if_pos (by omega)]; rfl), rfl⟩
                        | exact ⟨congrArg (Value.int .i64) (show (4 : Int) = ((Utf.chr l : Nat) : Int) by rw [Utf.chr4 q0 (by omega), if_neg (by omega)]; rfl), rfl⟩
                    · intro hg55
                      try simp only [decide_eq_true_eq, decide_eq_false_iff_not, Bool.not_eq_true', Bool.not_eq_false', Bool.and_eq_true, Bool.or_eq_false_iff] at hg55
                      refine KL.op (R.move rfl rfl) rfl rfl rfl ?_
                      refine KL.op (R.move rfl rfl) rfl rfl rfl ?_
                      refine KL.op (R.index1 (j := k) rfl Tryd.underlying22 sz5 rfl rfl hs rfl (by omega)) rfl rfl rfl ?_
                      refine KL.op (R.load rfl Tryd.underlying5 rfl rfl ((hs.int k (by omega)).1)) rfl rfl rfl ?_
                      refine KL.op (R.gtr rfl rfl rfl) rfl rfl rfl ?_
                      refine KL.op (R.pick rfl rfl rfl) rfl rfl rfl ?_
                      refine KL.nil ?_
                      refine KQ.seq ?_
                      refine KC.iteL rfl ?_ ?_
                      · intro hc61
                        try simp only [decide_eq_true_eq, decide_eq_false_iff_not, Bool.not_eq_true', Bool.not_eq_false', Bool.and_eq_true, Bool.or_eq_false_iff] at hc61
                        refine KC.seq ?_
                        have hba := Utf.bad_at (l := l) (k := k) hk1 (by omega) (by omega)
                        refine KC.region ?_
                        refine KL.op (R.assign rfl rfl) rfl rfl rfl ?_
                        refine KL.nil ?_
                        refine KQ.seq ?_
                        refine KC.ret ?_
                        refine KQ.retThen ?_
                        refine KQ.retBlock ?_
                        refine KQ.retThen ?_
                        refine KQ.retThen ?_
                        refine KQ.retBlock ?_
                        refine KQ.retThen ?_
                        refine KQ.ofRet ?_
                        refine KQ.fin1 Tryd.results41 rfl ?_
                        first
                          | exact ⟨congrArg (Value.int .i64) (show (0 : Int) = ((Utf.chr l : Nat) : Int) by rw [Utf.chr0 q0 (by omega)]; rfl), rfl⟩
                          | exact ⟨congrArg (Value.int .i64) (show (1 : Int) = ((Utf.chr l : Nat) : Int) by rw [Utf.chr1 (by omega)]; rfl), rfl⟩
                          | exact ⟨congrArg (Value.int .i64) (show (0 : Int) = ((Utf.chr l : Nat) : Int) by rw [Utf.chr2 q0 (by omega), if_pos (by omega)]; rfl), rfl⟩
                          | exact ⟨congrArg (Value.int .i64) (show (2 : Int) = ((Utf.chr l : Nat) : Int) by rw [Utf.chr2 q0 (by omega), if_neg (by omega)]; rfl), rfl⟩
                          | exact ⟨congrArg (Value.int .i64) (show (0 : Int) = ((Utf.chr l : Nat) : Int) by rw [Utf.chr3 q0 (by omega), if_pos (by omega)]; rfl), rfl⟩
                          | exact ⟨congrArg (Value.int .i64) (show (3 : Int) = ((Utf.chr l : Nat) : Int) by rw [Utf.chr3 q0 (by omega), if_neg (by omega)]; rfl), rfl⟩
                          | exact ⟨congrArg (Value.int .i64) (show (0 : Int) = ((Utf.chr l : Nat) : Int) by rw [Utf.chr4 q0 (by omega), if_pos (by omega)]; rfl), rfl⟩
                          | exact ⟨congrArg (Value.int .i64) (show (4 : Int) = ((Utf.chr l : Nat) : Int) by rw [Utf.chr4 q0 (by omega), if_neg (by omega)]; rfl), rfl⟩
                      · intro hc61
                        try simp only [decide_eq_true_eq, decide_eq_false_iff_not, Bool.not_eq_true', Bool.not_eq_false', Bool.and_eq_true, Bool.or_eq_false_iff] at hc61
                        refine KC.skip ?_
                        refine KQ.seq ?_
                        refine KC.region ?_
                        refine KL.op (R.move rfl rfl) rfl rfl rfl ?_
                        refine KL.op (R.mul rfl rfl rfl (by dsimp only [InR]; omega)) rfl rfl rfl ?_
                        refine KL.op (R.move rfl rfl) rfl rfl rfl ?_
                        refine KL.op (R.move rfl rfl) rfl rfl rfl ?_
                        refine KL.op (R.index1 (j := k) rfl Tryd.underlying22 sz5 rfl rfl hs rfl (by omega)) rfl rfl rfl ?_
                        refine KL.op (R.load rfl Tryd.underlying5 rfl rfl ((hs.int k (by omega)).1)) rfl rfl rfl ?_
                        refine KL.op (R.convI rfl Tryd.underlying5 Tryd.underlying76 rfl (by dsimp only [InR]; omega)) rfl rfl rfl ?_
                        refine KL.op (R.add rfl rfl rfl (by dsimp only [InR]; omega)) rfl rfl rfl ?_
                        refine KL.op (R.sub rfl rfl rfl (by dsimp only [InR]; omega)) rfl rfl rfl ?_
                        refine KL.op (R.assign rfl rfl) rfl rfl rfl ?_
                        refine KL.nil ?_
                        refine KQ.normBlock ?_
                        refine KQ.seq ?_
                        refine KC.region ?_
                        refine KL.op (R.move rfl rfl) rfl rfl rfl ?_
                        refine KL.op ((R.add rfl rfl rfl (by dsimp only [InR]; omega)).val (congrArg (Value.int .i64) (show _ = ((k + 1 : Nat) : Int) from by omega))) rfl rfl rfl ?_
                        refine KL.op (R.assign rfl rfl) rfl rfl rfl ?_
                        refine KL.nil ?_
                        refine KQ.again ((k + 1, 64 * cc + l.getD k default - 128)) ?_ ?_ ?_
                        · exact (Sub.cons rfl (Sub.cons rfl (Ext.sub (by repeat (first | exact Ext.refl _ _ | refine Ext.put rfl ?_ | refine Ext.drop rfl ?_)))))
                        · show 4 - (k + 1) < 4 - k; omega
                        · exact ⟨rfl, by show 1 ≤ k + 1; omega, by show k + 1 ≤ 4; omega, (by show _ = Utf.cp _ l (k + 1); rw [Utf.cp_succ _ _ hk1, ← hcp]), (fun j h1 h2 => by
                                by_cases e : j = k
                                · subst e; omega
                                · exact hco j h1 (by have h2 : j < k + 1 := h2; omega)), (by show 0 ≤ 64 * cc + _ - 128; omega), (by show 64 * cc + _ - 128 < Utf.bd (k + 1); rw [hbd.1]; omega)⟩
                  · intro hc47
                    try simp only [decide_eq_true_eq, decide_eq_false_iff_not, Bool.not_eq_true', Bool.not_eq_false', Bool.and_eq_true, Bool.or_eq_false_iff] at hc47
                    have ek : k = 4 := (by omega)
                    subst ek
                    have ho1 := hco 1 (by omega) (by omega)
                    have ho2 := hco 2 (by omega) (by omega)
                    have ho3 := hco 3 (by omega) (by omega)
                    simp only [Utf.cp, Nat.zero_add, Nat.reduceAdd] at hcp
                    refine KC.exit ?_
                    refine KQ.exitThen ?_
                    refine KQ.exitThen ?_
                    refine KQ.hit ?_
                    refine KQ.seq ?_
                    refine KC.seq ?_
                    refine KC.seq ?_
                    refine KC.region ?_
                    refine KL.op (R.move rfl rfl) rfl rfl rfl ?_
                    refine KL.op (R.move rfl rfl) rfl rfl rfl ?_
                    refine KL.op (R.lss rfl rfl rfl) rfl rfl rfl ?_
                    refine KL.op (R.move rfl rfl) rfl rfl rfl ?_
                    refine KL.case (d := 74) rfl ?_ ?_
                    · intro hg74
                      try simp only [decide_eq_true_eq, decide_eq_false_iff_not, Bool.not_eq_true', Bool.not_eq_false', Bool.and_eq_true, Bool.or_eq_false_iff] at hg74
                      refine KL.skip rfl rfl rfl ?_
                      refine KL.skip rfl rfl rfl ?_
                      refine KL.op (R.pick rfl rfl rfl) rfl rfl rfl ?_
                      refine KL.op (R.move rfl rfl) rfl rfl rfl ?_
                      refine KL.skip rfl rfl rfl ?_
                      refine KL.skip rfl rfl rfl ?_
                      refine KL.skip rfl rfl rfl ?_
                      refine KL.skip rfl rfl rfl ?_
                      refine KL.skip rfl rfl rfl ?_
                      refine KL.skip rfl rfl rfl ?_
                      refine KL.op (R.pick rfl rfl rfl) rfl rfl rfl ?_
                      refine KL.nil ?_
                      refine KQ.seq ?_
                      refine KC.condT rfl ?_
                      refine KC.seq ?_
                      refine KC.region ?_
                      refine KL.op (R.assign rfl rfl) rfl rfl rfl ?_
                      refine KL.nil ?_
                      refine KQ.seq ?_
                      refine KC.ret ?_
                      refine KQ.retThen ?_
                      refine KQ.ofRet ?_
                      refine KQ.fin1 Tryd.results41 rfl ?_
                      first
                        | exact ⟨congrArg (Value.int .i64) (show (0 : Int) = ((Utf.chr l : Nat) : Int) by rw [Utf.chr0 q0 (by omega)]; rfl), rfl⟩
                        | exact ⟨congrArg (Value.int .i64) (show (1 : Int) = ((Utf.chr l : Nat) : Int) by rw [Utf.chr1 (by omega)]; rfl), rfl⟩
                        | exact ⟨congrArg (Value.int .i64) (show (0 : Int) = ((Utf.chr l : Nat) : Int) by rw [Utf.chr2 q0 (by omega), if_pos (by omega)]; rfl), rfl⟩
                        | exact ⟨congrArg (Value.int .i64) (show (2 : Int) = ((Utf.chr l : Nat) : Int) by rw [Utf.chr2 q0 (by omega), if_neg (by omega)]; rfl), rfl⟩
                        | exact ⟨congrArg (Value.int .i64) (show (0 : Int) = ((Utf.chr l : Nat) : Int) by rw [Utf.chr3 q0 (by omega), if_pos (by omega)]; rfl), rfl⟩
                        | exact ⟨congrArg (Value.int .i64) (show (3 : Int) = ((Utf.chr l : Nat) : Int) by rw [Utf.chr3 q0 (by omega), if_neg (by omega)]; rfl), rfl⟩
                        | exact ⟨congrArg (Value.int .i64) (show (0 : Int) = ((Utf.chr l : Nat) : Int) by rw [Utf.chr4 q0 (by omega), if_pos (by omega)]; rfl), rfl⟩
                        | exact ⟨congrArg (Value.int .i64) (show (4 : Int) = ((Utf.chr l : Nat) : Int) by rw [Utf.chr4 q0 (by omega), if_neg (by omega)]; rfl), rfl⟩
                    · intro hg74
                      try simp only [decide_eq_true_eq, decide_eq_false_iff_not, Bool.not_eq_true', Bool.not_eq_false', Bool.and_eq_true, Bool.or_eq_false_iff] at hg74
                      refine KL.op (R.move rfl rfl) rfl rfl rfl ?_
                      refine KL.op (R.gtr rfl rfl rfl) rfl rfl rfl ?_
                      refine KL.op (R.pick rfl rfl rfl) rfl rfl rfl ?_
                      refine KL.op (R.move rfl rfl) rfl rfl rfl ?_
                      refine KL.case (d := 78) rfl ?_ ?_
                      · intro hg78
                        try simp only [decide_eq_true_eq, decide_eq_false_iff_not, Bool.not_eq_true', Bool.not_eq_false', Bool.and_eq_true, Bool.or_eq_false_iff] at hg78
                        refine KL.skip rfl rfl rfl ?_
                        refine KL.skip rfl rfl rfl ?_
                        refine KL.skip rfl rfl rfl ?_
                        refine KL.skip rfl rfl rfl ?_
                        refine KL.skip rfl rfl rfl ?_
                        refine KL.skip rfl rfl rfl ?_
                        refine KL.op (R.pick rfl rfl rfl) rfl rfl rfl ?_
                        refine KL.nil ?_
                        refine KQ.seq ?_
                        refine KC.condT rfl ?_
                        refine KC.seq ?_
                        refine KC.region ?_
                        refine KL.op (R.assign rfl rfl) rfl rfl rfl ?_
                        refine KL.nil ?_
                        refine KQ.seq ?_
                        refine KC.ret ?_
                        refine KQ.retThen ?_
                        refine KQ.ofRet ?_
                        refine KQ.fin1 Tryd.results41 rfl ?_
                        first
                          | exact ⟨congrArg (Value.int .i64) (show (0 : Int) = ((Utf.chr l : Nat) : Int) by rw [Utf.chr0 q0 (by omega)]; rfl), rfl⟩
                          | exact ⟨congrArg (Value.int .i64) (show (1 : Int) = ((Utf.chr l : Nat) : Int) by rw [Utf.chr1 (by omega)]; rfl), rfl⟩
                          | exact ⟨congrArg (Value.int .i64) (show (0 : Int) = ((Utf.chr l : Nat) : Int) by rw [Utf.chr2 q0 (by omega), if_pos (by omega)]; rfl), rfl⟩
                          | exact ⟨congrArg (Value.int .i64) (show (2 : Int) = ((Utf.chr l : Nat) : Int) by rw [Utf.chr2 q0 (by omega), if_neg (by omega)]; rfl), rfl⟩
                          | exact ⟨congrArg (Value.int .i64) (show (0 : Int) = ((Utf.chr l : Nat) : Int) by rw [Utf.chr3 q0 (by omega), if_pos (by omega)]; rfl), rfl⟩
                          | exact ⟨congrArg (Value.int .i64) (show (3 : Int) = ((Utf.chr l : Nat) : Int) by rw [Utf.chr3 q0 (by omega), if_neg (by omega)]; rfl), rfl⟩
                          | exact ⟨congrArg (Value.int .i64) (show (0 : Int) = ((Utf.chr l : Nat) : Int) by rw [Utf.chr4 q0 (by omega), if_pos (by omega)]; rfl), rfl⟩
                          | exact ⟨congrArg (Value.int .i64) (show (4 : Int) = ((Utf.chr l : Nat) : Int) by rw [Utf.chr4 q0 (by omega), if_neg (by omega)]; rfl), rfl⟩
                      · intro hg78
                        try simp only [decide_eq_true_eq, decide_eq_false_iff_not, Bool.not_eq_true', Bool.not_eq_false', Bool.and_eq_true, Bool.or_eq_false_iff] at hg78
                        refine KL.op (R.move rfl rfl) rfl rfl rfl ?_
                        refine KL.op (R.geq rfl rfl rfl) rfl rfl rfl ?_
                        refine KL.op (R.move rfl rfl) rfl rfl rfl ?_
                        refine KL.case (d := 81) rfl ?_ ?_
                        · intro hg81
                          try simp only [decide_eq_true_eq, decide_eq_false_iff_not, Bool.not_eq_true', Bool.not_eq_false', Bool.and_eq_true, Bool.or_eq_false_iff] at hg81
                          refine KL.op (R.move rfl rfl) rfl rfl rfl ?_
                          refine KL.op (R.leq rfl rfl rfl) rfl rfl rfl ?_
                          refine KL.op (R.pick rfl rfl rfl) rfl rfl rfl ?_
                          refine KL.op (R.pick rfl rfl rfl) rfl rfl rfl ?_
                          refine KL.nil ?_
                          refine KQ.seq ?_
                          refine KC.iteL rfl ?_ ?_
                          · intro hc85
                            try simp only [decide_eq_true_eq, decide_eq_false_iff_not, Bool.not_eq_true', Bool.not_eq_false', Bool.and_eq_true, Bool.or_eq_false_iff] at hc85
                            refine KC.seq ?_
                            refine KC.region ?_
                            refine KL.op (R.assign rfl rfl) rfl rfl rfl ?_
                            refine KL.nil ?_
                            refine KQ.seq ?_
                            refine KC.ret ?_
                            refine KQ.retThen ?_
                            refine KQ.ofRet ?_
                            refine KQ.fin1 Tryd.results41 rfl ?_
                            first
                              | exact ⟨congrArg (Value.int .i64) (show (0 : Int) = ((Utf.chr l : Nat) : Int) by rw [Utf.chr0 q0 (by omega)]; rfl), rfl⟩
                              | exact ⟨congrArg (Value.int .i64) (show (1 : Int) = ((Utf.chr l : Nat) : Int) by rw [Utf.chr1 (by omega)]; rfl), rfl⟩
                              | exact ⟨congrArg (Value.int .i64) (show (0 : Int) = ((Utf.chr l : Nat) : Int) by rw [Utf.chr2 q0 (by omega), if_pos (by omega)]; rfl), rfl⟩
                              | exact ⟨congrArg (Value.int .i64) (show (2 : Int) = ((Utf.chr l : Nat) : Int) by rw [Utf.chr2 q0 (by omega), if_neg (by omega)]; rfl), rfl⟩
                              | exact ⟨congrArg (Value.int .i64) (show (0 : Int) = ((Utf.chr l : Nat) : Int) by rw [Utf.chr3 q0 (by omega), if_pos (by omega)]; rfl), rfl⟩
                              | exact ⟨congrArg (Value.int .i64) (show (3 : Int) = ((Utf.chr l : Nat) : Int) by rw [Utf.chr3 q0 (by omega), if_neg (by omega)]; rfl), rfl⟩
                              | exact ⟨congrArg (Value.int .i64) (show (0 : Int) = ((Utf.chr l : Nat) : Int) by rw [Utf.chr4 q0 (by omega), if_pos (by omega)]; rfl), rfl⟩
                              | exact ⟨congrArg (Value.int .i64) (show (4 : Int) = ((Utf.chr l : Nat) : Int) by rw [Utf.chr4 q0 (by omega), if_neg (by omega)]; rfl), rfl⟩
                          · intro hc85
                            try simp only [decide_eq_true_eq, decide_eq_false_iff_not, Bool.not_eq_true', Bool.not_eq_false', Bool.and_eq_true, Bool.or_eq_false_iff] at hc85
                            refine KC.skip ?_
                            refine KQ.seq ?_
                            refine KC.seq ?_
                            refine KC.region ?_
                            refine KL.op (R.move rfl rfl) rfl rfl rfl ?_
                            refine KL.op (R.assign rfl rfl) rfl rfl rfl ?_
                            refine KL.nil ?_
                            refine KQ.seq ?_
                            refine KC.ret ?_
                            refine KQ.ofRet ?_
                            refine KQ.fin1 Tryd.results41 rfl ?_
                            first
                              | exact ⟨congrArg (Value.int .i64) (show (0 : Int) = ((Utf.chr l : Nat) : Int) by rw [Utf.chr0 q0 (by omega)]; rfl), rfl⟩
                              | exact ⟨congrArg (Value.int .i64) (show (1 : Int) = ((Utf.chr l : Nat) : Int) by rw [Utf.chr1 (by omega)]; rfl), rfl⟩
                              | exact ⟨congrArg (Value.int .i64) (show (0 : Int) = ((Utf.chr l : Nat) : Int) by rw [Utf.chr2 q0 (by omega), if_pos (by omega)]; rfl), rfl⟩
                              | exact ⟨congrArg (Value.int .i64) (show (2 : Int) = ((Utf.chr l : Nat) : Int) by rw [Utf.chr2 q0 (by omega), if_neg (by omega)]; rfl), rfl⟩
                              | exact ⟨congrArg (Value.int .i64) (show (0 : Int) = ((Utf.chr l : Nat) : Int) by rw [Utf.chr3 q0 (by omega), if_pos (by omega)]; rfl), rfl⟩
                              | exact ⟨congrArg (Value.int .i64) (show (3 : Int) = ((Utf.chr l : Nat) : Int) by rw [Utf.chr3 q0 (by omega), if_neg (by omega)]; rfl), rfl⟩
                              | exact ⟨congrArg (Value.int .i64) (show (0 : Int) = ((Utf.chr l : Nat) : Int) by rw [Utf.chr4 q0 (by omega), if_pos (by omega)]; rfl), rfl⟩
                              | exact ⟨congrArg (Value.int .i64) (show (4 : Int) = ((Utf.chr l : Nat) : Int) by rw [Utf.chr4 q0 (by omega), if_neg (by omega)]; rfl), rfl⟩
                        · intro hg81
                          try simp only [decide_eq_true_eq, decide_eq_false_iff_not, Bool.not_eq_true', Bool.not_eq_false', Bool.and_eq_true, Bool.or_eq_false_iff] at hg81
                          refine KL.skip rfl rfl rfl ?_
                          refine KL.skip rfl rfl rfl ?_
                          refine KL.op (R.pick rfl rfl rfl) rfl rfl rfl ?_
                          refine KL.op (R.pick rfl rfl rfl) rfl rfl rfl ?_
                          refine KL.nil ?_
                          refine KQ.seq ?_
                          refine KC.condF rfl ?_
                          refine KC.skip ?_
                          refine KQ.seq ?_
                          refine KC.seq ?_
                          refine KC.region ?_
                          refine KL.op (R.move rfl rfl) rfl rfl rfl ?_
                          refine KL.op (R.assign rfl rfl) rfl rfl rfl ?_
                          refine KL.nil ?_
                          refine KQ.seq ?_
                          refine KC.ret ?_
                          refine KQ.ofRet ?_
                          refine KQ.fin1 Tryd.results41 rfl ?_
                          first
                            | exact ⟨congrArg (Value.int .i64) (show (0 : Int) = ((Utf.chr l : Nat) : Int) by rw [Utf.chr0 q0 (by omega)]; rfl), rfl⟩
                            | exact ⟨congrArg (Value.int .i64) (show (1 : Int) = ((Utf.chr l : Nat) : Int) by rw [Utf.chr1 (by omega)]; rfl), rfl⟩
                            | exact ⟨congrArg (Value.int .i64) (show (0 : Int) = ((Utf.chr l : Nat) : Int) by rw [Utf.chr2 q0 (by omega), if_pos (by omega)]; rfl), rfl⟩
                            | exact ⟨congrArg (Value.int .i64) (show (2 : Int) = ((Utf.chr l : Nat) : Int) by rw [Utf.chr2 q0 (by omega), if_neg (by omega)]; rfl), rfl⟩
                            | exact ⟨congrArg (Value.int .i64) (show (0 : Int) = ((Utf.chr l : Nat) : Int) by rw [Utf.chr3 q0 (by omega), if_pos (by omega)]; rfl), rfl⟩
                            | exact ⟨congrArg (Value.int .i64) (show (3 : Int) = ((Utf.chr l : Nat) : Int) by rw [Utf.chr3 q0 (by omega), if_neg (by omega)]; rfl), rfl⟩
                            | exact ⟨congrArg (Value.int .i64) (show (0 : Int) = ((Utf.chr l : Nat) : Int) by rw [Utf.chr4 q0 (by omega), if_pos (by omega)]; rfl), rfl⟩
                            | exact ⟨congrArg (Value.int .i64) (show (4 : Int) = ((Utf.chr l : Nat) : Int) by rw [Utf.chr4 q0 (by omega), if_neg (by omega)]; rfl), rfl⟩
            · intro hc32
              try simp only [decide_eq_true_eq, decide_eq_false_iff_not, Bool.not_eq_true', Bool.not_eq_false', Bool.and_eq_true, Bool.or_eq_false_iff] at hc32
              refine KC.seq ?_
              refine KC.region ?_
              refine KL.op (R.assign rfl rfl) rfl rfl rfl ?_
              refine KL.nil ?_
              refine KQ.seq ?_
              refine KC.ret ?_
              refine KQ.retBlock ?_
              refine KQ.retThen ?_
              refine KQ.ofRet ?_
              refine KQ.fin1 Tryd.results41 rfl ?_
              first
                | exact ⟨congrArg (Value.int .i64) (show (0 : Int) = ((Utf.chr l : Nat) : Int) by rw [Utf.chr0 q0 (by omega)]; rfl), rfl⟩
                | exact ⟨congrArg (Value.int .i64) (show (1 : Int) = ((Utf.chr l : Nat) : Int) by rw [Utf.chr1 (by omega)]; rfl), rfl⟩
                | exact ⟨congrArg (Value.int .i64) (show (0 : Int) = ((Utf.chr l : Nat) : Int) by rw [Utf.chr2 q0 (by omega), if_pos (by omega)]; rfl), rfl⟩
                | exact ⟨congrArg (Value.int .i64) (show (2 : Int) = ((Utf.chr l : Nat) : Int) by rw [Utf.chr2 q0 (by omega), if_neg (by omega)]; rfl), rfl⟩
                | exact ⟨congrArg (Value.int .i64) (show (0 : Int) = ((Utf.chr l : Nat) : Int) by rw [Utf.chr3 q0 (by omega), if_pos (by omega)]; rfl), rfl⟩
                | exact ⟨congrArg (Value.int .i64) (show (3 : Int) = ((Utf.chr l : Nat) : Int) by rw [Utf.chr3 q0 (by omega), if_neg (by omega)]; rfl), rfl⟩
                | exact ⟨congrArg (Value.int .i64) (show (0 : Int) = ((Utf.chr l : Nat) : Int) by rw [Utf.chr4 q0 (by omega), if_pos (by omega)]; rfl), rfl⟩
                | exact ⟨congrArg (Value.int .i64) (show (4 : Int) = ((Utf.chr l : Nat) : Int) by rw [Utf.chr4 q0 (by omega), if_neg (by omega)]; rfl), rfl⟩
          · intro hg35
            try simp only [decide_eq_true_eq, decide_eq_false_iff_not, Bool.not_eq_true', Bool.not_eq_false', Bool.and_eq_true, Bool.or_eq_false_iff] at hg35
            refine KL.skip rfl rfl rfl ?_
            refine KL.skip rfl rfl rfl ?_
            refine KL.op (R.pick rfl rfl rfl) rfl rfl rfl ?_
            refine KL.op (R.assign rfl rfl) rfl rfl rfl ?_
            refine KL.nil ?_
            refine KQ.seq ?_
            refine KC.condF rfl ?_
            refine KC.seq ?_
            refine KC.region ?_
            refine KL.op (R.assign rfl rfl) rfl rfl rfl ?_
            refine KL.nil ?_
            refine KQ.seq ?_
            refine KC.ret ?_
            refine KQ.retBlock ?_
            refine KQ.retThen ?_
            refine KQ.ofRet ?_
            refine KQ.fin1 Tryd.results41 rfl ?_
            first
              | exact ⟨congrArg (Value.int .i64) (show (0 : Int) = ((Utf.chr l : Nat) : Int) by rw [Utf.chr0 q0 (by omega)]; rfl), rfl⟩
              | exact ⟨congrArg (Value.int .i64) (show (1 : Int) = ((Utf.chr l : Nat) : Int) by rw [Utf.chr1 (by omega)]; rfl), rfl⟩
              | exact ⟨congrArg (Value.int .i64) (show (0 : Int) = ((Utf.chr l : Nat) : Int) by rw [Utf.chr2 q0 (by omega), if_pos (by omega)]; rfl), rfl⟩
              | exact ⟨congrArg (Value.int .i64) (show (2 : Int) = ((Utf.chr l : Nat) : Int) by rw [Utf.chr2 q0 (by omega), if_neg (by omega)]; rfl), rfl⟩
              | exact ⟨congrArg (Value.int .i64) (show (0 : Int) = ((Utf.chr l : Nat) : Int) by rw [Utf.chr3 q0 (by omega), if_pos (by omega)]; rfl), rfl⟩
              | exact ⟨congrArg (Value.int .i64) (show (3 : Int) = ((Utf.chr l : Nat) : Int) by rw [Utf.chr3 q0 (by omega), if_neg (by omega)]; rfl), rfl⟩
              | exact ⟨congrArg (Value.int .i64) (show (0 : Int) = ((Utf.chr l : Nat) : Int) by rw [Utf.chr4 q0 (by omega), if_pos (by omega)]; rfl), rfl⟩
              | exact ⟨congrArg (Value.int .i64) (show (4 : Int) = ((Utf.chr l : Nat) : Int) by rw [Utf.chr4 q0 (by omega), if_neg (by omega)]; rfl), rfl⟩
      · intro hg26
        try simp only [decide_eq_true_eq, decide_eq_false_iff_not, Bool.not_eq_true', Bool.not_eq_false', Bool.and_eq_true, Bool.or_eq_false_iff] at hg26
        refine KL.skip rfl rfl rfl ?_
        refine KL.skip rfl rfl rfl ?_
        refine KL.op (R.pick rfl rfl rfl) rfl rfl rfl ?_
        refine KL.op (R.assign rfl rfl) rfl rfl rfl ?_
        refine KL.nil ?_
        refine KQ.seq ?_
        refine KC.condF rfl ?_
        refine KC.seq ?_
        refine KC.region ?_
        refine KL.op (R.move rfl rfl) rfl rfl rfl ?_
        refine KL.op (R.geq rfl rfl rfl) rfl rfl rfl ?_
        refine KL.op (R.move rfl rfl) rfl rfl rfl ?_
        refine KL.case (d := 35) rfl ?_ ?_
        · intro hg35
          try simp only [decide_eq_true_eq, decide_eq_false_iff_not, Bool.not_eq_true', Bool.not_eq_false', Bool.and_eq_true, Bool.or_eq_false_iff] at hg35
          refine KL.op (R.move rfl rfl) rfl rfl rfl ?_
          refine KL.op (R.lss rfl rfl rfl) rfl rfl rfl ?_
          refine KL.op (R.pick rfl rfl rfl) rfl rfl rfl ?_
          refine KL.op (R.assign rfl rfl) rfl rfl rfl ?_
          refine KL.nil ?_
          refine KQ.seq ?_
          refine KC.iteL rfl ?_ ?_
          · intro hc32
            try simp only [decide_eq_true_eq, decide_eq_false_iff_not, Bool.not_eq_true', Bool.not_eq_false', Bool.and_eq_true, Bool.or_eq_false_iff] at hc32
            refine KC.seq ?_
            refine KC.region ?_
            refine KL.op (R.assign rfl rfl) rfl rfl rfl ?_
            refine KL.nil ?_
            refine KQ.seq ?_
            refine KC.seq ?_
            refine KC.region ?_
            refine KL.op (R.move rfl rfl) rfl rfl rfl ?_
            refine KL.op (R.sub rfl rfl rfl (by dsimp only [InR]; omega)) rfl rfl rfl ?_
            refine KL.op (R.assign rfl rfl) rfl rfl rfl ?_
            refine KL.nil ?_
            refine KQ.seq ?_
            refine KC.region ?_
            refine KL.op (R.assign rfl rfl) rfl rfl rfl ?_
            refine KL.nil ?_
            refine KQ.normBlock ?_
            refine KQ.seq ?_
            refine KC.seq ?_
            refine KC.seq ?_
            refine KC.region ?_
            refine KL.op (R.move rfl rfl) rfl rfl rfl ?_
            refine KL.op ((by first | exact R.lenS rfl Tryd.underlying22 rfl (by first | exact hs | assumption) | exact R.len (ty := 0) rfl Tryd.underlying22 rfl)) rfl rfl rfl ?_
            refine KL.op (R.move rfl rfl) rfl rfl rfl ?_
            refine KL.op (R.lss rfl rfl rfl) rfl rfl rfl ?_
            refine KL.nil ?_
            refine KQ.seq ?_
            refine KC.iteL rfl ?_ ?_
            · intro hc44
              try simp only [decide_eq_true_eq, decide_eq_false_iff_not, Bool.not_eq_true', Bool.not_eq_false', Bool.and_eq_true, Bool.or_eq_false_iff] at hc44
              refine KC.seq ?_
              refine KC.region ?_
              refine KL.op (R.assign rfl rfl) rfl rfl rfl ?_
              refine KL.nil ?_
              refine KQ.seq ?_
              refine KC.ret ?_
              refine KQ.retThen ?_
              refine KQ.ofRet ?_
              refine KQ.fin1 Tryd.results41 rfl ?_
              first
                | exact ⟨congrArg (Value.int .i64) (show (0 : Int) = ((Utf.chr l : Nat) : Int) by rw [Utf.chr0 q0 (by omega)]; rfl), rfl⟩
                | exact ⟨congrArg (Value.int .i64) (show (1 : Int) = ((Utf.chr l : Nat) : Int) by rw [Utf.chr1 (by omega)]; rfl), rfl⟩
                | exact ⟨congrArg (Value.int .i64) (show (0 : Int) = ((Utf.chr l : Nat) : Int) by rw [Utf.chr2 q0 (by omega), if_pos (by omega)]; rfl), rfl⟩
                | exact ⟨congrArg (Value.int .i64) (show (2 : Int) = ((Utf.chr l : Nat) : Int) by rw [Utf.chr2 q0 (by omega), if_neg (by omega)]; rfl), rfl⟩
                | exact ⟨congrArg (Value.int .i64) (show (0 : Int) = ((Utf.chr l : Nat) : Int) by rw [Utf.chr3 q0 (by omega), if_pos (by omega)]; rfl), rfl⟩
                | exact ⟨congrArg (Value.int .i64) (show (3 : Int) = ((Utf.chr l : Nat) : Int) by rw [Utf.chr3 q0 (by omega), if_neg (by omega)]; rfl), rfl⟩
                | exact ⟨congrArg (Value.int .i64) (show (0 : Int) = ((Utf.chr l : Nat) : Int) by rw [Utf.chr4 q0 (by omega), if_pos (by omega)]; rfl), rfl⟩
                | exact ⟨congrArg (Value.int .i64) (show (4 : Int) = ((Utf.chr l : Nat) : Int) by rw [Utf.chr4 q0 (by omega), if_neg (by omega)]; rfl), rfl⟩
            · intro hc44
              try simp only [decide_eq_true_eq, decide_eq_false_iff_not, Bool.not_eq_true', Bool.not_eq_false', Bool.and_eq_true, Bool.or_eq_false_iff] at hc44
              refine KC.skip ?_
              refine KQ.seq ?_
              refine KC.seq ?_
              refine KC.seq ?_
              refine KC.region ?_
              refine KL.op (R.assign rfl rfl) rfl rfl rfl ?_
              refine KL.nil ?_
              refine KQ.seq ?_
              refine KC.block ?_
              refine KC.loopD (κ := Nat × Int) [45, 46, 47, 50, 51, 52, 53, 54, 55, 56, 57, 58, 59, 60, 61, 2, 62, 63, 64, 65, 66, 67, 68, 69, 70, 3, 48, 49, 6] (fun k => [(6, .int .i64 (k.1 : Nat)), (3, .int .u32 k.2)]) (fun k Hl => H = Hl ∧ 1 ≤ k.1 ∧ k.1 ≤ 4 ∧ k.2 = Utf.cp ((l.getD 0 default) - 240) l k.1 ∧ (∀ j, 1 ≤ j → j < k.1 → 128 ≤ l.getD j default ∧ l.getD j default ≤ 191) ∧ 0 ≤ k.2 ∧ k.2 < Utf.bd k.1) (fun k => 4 - k.1) (1, (l.getD 0 default) - 240) ?_ ?_ ?_
              · exact (Sub.cons rfl (Sub.cons rfl (Ext.sub (Ext.refl _ _))))
              · exact ⟨rfl, Nat.le_refl _, by show 1 ≤ 4; omega, rfl, (fun j h1 h2 => absurd h2 (by show ¬ j < 1; omega)), by show 0 ≤ (l.getD 0 default) - 240; omega, by show (l.getD 0 default) - 240 < 32; omega⟩
              · rintro ⟨k, cc⟩ H8 ⟨rfl, hk1, hkn, hcp, hco, hc0, hc1⟩
                dsimp only at hk1 hkn hcp hco hc0 hc1
                refine KC.seq ?_
                refine KC.seq ?_
                refine KC.region ?_
                refine KL.op (R.move rfl rfl) rfl rfl rfl ?_
                refine KL.op (R.move rfl rfl) rfl rfl rfl ?_
                refine KL.op (R.lss rfl rfl rfl) rfl rfl rfl ?_
                refine KL.nil ?_
                refine KQ.seq ?_
                refine KC.iteL rfl ?_ ?_
                · intro hc47
                  try simp only [decide_eq_true_eq, decide_eq_false_iff_not, Bool.not_eq_true', Bool.not_eq_false', Bool.and_eq_true, Bool.or_eq_false_iff] at hc47
                  refine KC.skip ?_
                  refine KQ.seq ?_
                  refine KC.seq ?_
                  refine KC.block ?_
                  refine KC.seq ?_
                  refine KC.seq ?_
                  refine KC.region ?_
                  refine KL.op (R.move rfl rfl) rfl rfl rfl ?_
                  refine KL.op (R.move rfl rfl) rfl rfl rfl ?_
                  have qk := (hs.int k (by omega)).2
                  dsimp only [InR] at qk
                  have hbd := Utf.bd_succ hk1 (show k < 4 by omega)
                  refine KL.op (R.index1 (j := k) rfl Tryd.underlying22 sz5 rfl rfl hs rfl (by omega)) rfl rfl rfl ?_
                  refine KL.op (R.load rfl Tryd.underlying5 rfl rfl ((hs.int k (by omega)).1)) rfl rfl rfl ?_
                  refine KL.op (R.lss rfl rfl rfl) rfl rfl rfl ?_
                  refine KL.op (R.move rfl rfl) rfl rfl rfl ?_
                  refine KL.case (d := 55) rfl ?_ ?_
                  · intro hg55
                    try simp only [decide_eq_true_eq, decide_eq_false_iff_not, Bool.not_eq_true', Bool.not_eq_false', Bool.and_eq_true, Bool.or_eq_false_iff] at hg55
                    refine KL.skip rfl rfl rfl ?_
                    refine KL.skip rfl rfl rfl ?_
                    refine KL.skip rfl rfl rfl ?_
                    refine KL.skip rfl rfl rfl ?_
                    refine KL.skip rfl rfl rfl ?_
                    refine KL.op (R.pick rfl rfl rfl) rfl rfl rfl ?_
                    refine KL.nil ?_
                    refine KQ.seq ?_
                    refine KC.condT rfl ?_
                    refine KC.seq ?_
                    have hba := Utf.bad_at (l := l) (k := k) hk1 (by omega) (by omega)
                    refine KC.region ?_
                    refine KL.op (R.assign rfl rfl) rfl rfl rfl ?_
                    refine KL.nil ?_
                    refine KQ.seq ?_
                    refine KC.ret ?_
                    refine KQ.retThen ?_
                    refine KQ.retBlock ?_
                    refine KQ.retThen ?_
                    refine KQ.retThen ?_
                    refine KQ.retBlock ?_
                    refine KQ.retThen ?_
                    refine KQ.ofRet ?_
                    refine KQ.fin1 Tryd.results41 rfl ?_
                    first
                      | exact ⟨congrArg (Value.int .i64) (show (0 : Int) = ((Utf.chr l : Nat) : Int) by rw [Utf.chr0 q0 (by omega)]; rfl), rfl⟩
                      | exact ⟨congrArg (Value.int .i64) (show (1 : Int) = ((Utf.chr l : Nat) : Int) by rw [Utf.chr1 (by omega)]; rfl), rfl⟩
                      | exact ⟨congrArg (Value.int .i64) (show (0 : Int) = ((Utf.chr l : Nat) : Int) by rw [Utf.chr2 q0 (by omega), if_pos (by omega)]; rfl), rfl⟩
                      | exact ⟨congrArg (Value.int .i64) (show (2 : Int) = ((Utf.chr l : Nat) : Int) by rw [Utf.chr2 q0 (by omega), if_neg (by omega)]; rfl), rfl⟩
                      | exact ⟨congrArg (Value.int .i64) (show (0 : Int) = ((Utf.chr l : Nat) : Int) by rw [Utf.chr3 q0 (by omega), if_pos (by omega)]; rfl), rfl⟩
                      | exact ⟨congrArg (Value.int .i64) (show (3 : Int) = ((Utf.chr l : Nat) : Int) by rw [Utf.chr3 q0 (by omega), if_neg (by omega)]; rfl), rfl⟩
                      | exact ⟨congrArg (Value.int .i64) (show (0 : Int) = ((Utf.chr l : Nat) : Int) by rw [Utf.chr4 q0 (by omega), if_pos (by omega)]; rfl), rfl⟩
                      | exact ⟨congrArg (Value.int .i64) (show (4 : Int) = ((Utf.chr l : Nat) : Int) by rw [Utf.chr4 q0 (by omega), if_neg (by omega)]; rfl), rfl⟩
                  · intro hg55
                    try simp only [decide_eq_true_eq, decide_eq_false_iff_not, Bool.not_eq_true', Bool.not_eq_false', Bool.and_eq_true, Bool.or_eq_false_iff] at hg55
                    refine KL.op (R.move rfl rfl) rfl rfl rfl ?_
                    refine KL.op (R.move rfl rfl) rfl rfl rfl ?_
                    refine KL.op (R.index1 (j := k) rfl Tryd.underlying22 sz5 rfl rfl hs rfl (by omega)) rfl rfl rfl ?_
                    refine KL.op (R.load rfl Tryd.underlying5 rfl rfl ((hs.int k (by omega)).1)) rfl rfl rfl ?_
                    refine KL.op (R.gtr rfl rfl rfl) rfl rfl rfl ?_
                    refine KL.op (R.pick rfl rfl rfl) rfl rfl rfl ?_
                    refine KL.nil ?_
                    refine KQ.seq ?_
                    refine KC.iteL rfl ?_ ?_
                    · intro hc61
                      try simp only [decide_eq_true_eq, decide_eq_false_iff_not, Bool.not_eq_true', Bool.not_eq_false', Bool.and_eq_true, Bool.or_eq_false_iff] at hc61
                      refine KC.seq ?_
                      have hba := Utf.bad_at (l := l) (k := k) hk1 (by omega) (by omega)
                      refine KC.region ?_
                      refine KL.op (R.assign rfl rfl) rfl rfl rfl ?_
                      refine KL.nil ?_
                      refine KQ.seq ?_
                      refine KC.ret ?_
                      refine KQ.retThen ?_
                      refine KQ.retBlock ?_
                      refine KQ.retThen ?_
                      refine KQ.retThen ?_
                      refine KQ.retBlock ?_
                      refine KQ.retThen ?_
                      refine KQ.ofRet ?_
                      refine KQ.fin1 Tryd.results41 rfl ?_
                      first
                        | exact ⟨congrArg (Value.int .i64) (show (0 : Int) = ((Utf.chr l : Nat) : Int) by rw [Utf.chr0 q0 (by omega)]; rfl), rfl⟩
                        | exact ⟨congrArg (Value.int .i64) (show (1 : Int) = ((Utf.chr l : Nat) : Int) by rw [Utf.chr1 (by omega)]; rfl), rfl⟩
                        | exact ⟨congrArg (Value.int .i64) (show (0 : Int) = ((Utf.chr l : Nat) : Int) by rw [Utf.chr2 q0 (by omega), if_pos (by omega)]; rfl), rfl⟩
                        | exact ⟨congrArg (Value.int .i64) (show (2 : Int) = ((Utf.chr l : Nat) : Int) by rw [Utf.chr2 q0 (by omega), if_neg (by omega)]; rfl), rfl⟩
                        | exact ⟨congrArg (Value.int .i64) (show (0 : Int) = ((Utf.chr l : Nat) : Int) by rw [Utf.chr3 q0 (by omega), if_pos (by omega)]; rfl), rfl⟩
                        | exact ⟨congrArg (Value.int .i64) (show (3 : Int) = ((Utf.chr l : Nat) : Int) by rw [Utf.chr3 q0 (by omega), if_neg (by omega)]; rfl), rfl⟩
                        | exact ⟨congrArg (Value.int .i64) (show (0 : Int) = ((Utf.chr l : Nat) : Int) by rw [Utf.chr4 q0 (by omega), if_pos (by omega)]; rfl), rfl⟩
                        | exact ⟨congrArg (Value.int .i64) (show (4 : Int) = ((Utf.chr l : Nat) : Int) by rw [Utf.chr4 q0 (by omega), if_neg (by omega)]; rfl), rfl⟩
                    · intro hc61
                      try simp only [decide_eq_true_eq, decide_eq_false_iff_not, Bool.not_eq_true', Bool.not_eq_false', Bool.and_eq_true, Bool.or_eq_false_iff] at hc61
                      refine KC.skip ?_
                      refine KQ.seq ?_
                      refine KC.region ?_
                      refine KL.op (R.move rfl rfl) rfl rfl rfl ?_
                      refine KL.op (R.mul rfl rfl rfl (by dsimp only [InR]; omega)) rfl rfl rfl ?_
                      refine KL.op (R.move rfl rfl) rfl rfl rfl ?_
                      refine KL.op (R.move rfl rfl) rfl rfl rfl ?_
                      refine KL.op (R.index1 (j := k) rfl Tryd.underlying22 sz5 rfl rfl hs rfl (by omega)) rfl rfl rfl ?_
                      refine KL.op (R.load rfl Tryd.underlying5 rfl rfl ((hs.int k (by omega)).1)) rfl rfl rfl ?_
                      refine KL.op (R.convI rfl Tryd.underlying5 Tryd.underlying76 rfl (by dsimp only [InR]; omega)) rfl rfl rfl ?_
                      refine KL.op (R.add rfl rfl rfl (by dsimp only [InR]; omega)) rfl rfl rfl ?_
                      refine KL.op (R.sub rfl rfl rfl (by dsimp only [InR]; omega)) rfl rfl rfl ?_
                      refine KL.op (R.assign rfl rfl) rfl rfl rfl ?_
                      refine KL.nil ?_
                      refine KQ.normBlock ?_
                      refine KQ.seq ?_
                      refine KC.region ?_
                      refine KL.op (R.move rfl rfl) rfl rfl rfl ?_
                      refine KL.op ((R.add rfl rfl rfl (by dsimp only [InR]; omega)).val (congrArg (Value.int .i64) (show _ = ((k + 1 : Nat) : Int) from by omega))) rfl rfl rfl ?_
                      refine KL.op (R.assign rfl rfl) rfl rfl rfl ?_
                      refine KL.nil ?_
                      refine KQ.again ((k + 1, 64 * cc + l.getD k default - 128)) ?_ ?_ ?_
                      · exact (Sub.cons rfl (Sub.cons rfl (Ext.sub (by repeat (first | exact Ext.refl _ _ | refine Ext.put rfl ?_ | refine Ext.drop rfl ?_)))))
                      · show 4 - (k + 1) < 4 - k; omega
                      · exact ⟨rfl, by show 1 ≤ k + 1; omega, by show k + 1 ≤ 4; omega, (by show _ = Utf.cp _ l (k + 1); rw [Utf.cp_succ _ _ hk1, ← hcp]), (fun j h1 h2 => by
                              by_cases e : j = k
                              · subst e; omega
                              · exact hco j h1 (by have h2 : j < k + 1 := h2; omega)), (by show 0 ≤ 64 * cc + _ - 128; omega), (by show 64 * cc + _ - 128 < Utf.bd (k + 1); rw [hbd.1]; omega)⟩
                · intro hc47
                  try simp only [decide_eq_true_eq, decide_eq_false_iff_not, Bool.not_eq_true', Bool.not_eq_false', Bool.and_eq_true, Bool.or_eq_false_iff] at hc47
                  have ek : k = 4 := (by omega)
                  subst ek
                  have ho1 := hco 1 (by omega) (by omega)
                  have ho2 := hco 2 (by omega) (by omega)
                  have ho3 := hco 3 (by omega) (by omega)
                  simp only [Utf.cp, Nat.zero_add, Nat.reduceAdd] at hcp
                  refine KC.exit ?_
                  refine KQ.exitThen ?_
                  refine KQ.exitThen ?_
                  refine KQ.hit ?_
                  refine KQ.seq ?_
                  refine KC.seq ?_
                  refine KC.seq ?_
                  refine KC.region ?_
                  refine KL.op (R.move rfl rfl) rfl rfl rfl ?_
                  refine KL.op (R.move rfl rfl) rfl rfl rfl ?_
                  refine KL.op (R.lss rfl rfl rfl) rfl rfl rfl ?_
                  refine KL.op (R.move rfl rfl) rfl rfl rfl ?_
                  refine KL.case (d := 74) rfl ?_ ?_
                  · intro hg74
                    try simp only [decide_eq_true_eq, decide_eq_false_iff_not, Bool.not_eq_true', Bool.not_eq_false', Bool.and_eq_true, Bool.or_eq_false_iff] at hg74
                    refine KL.skip rfl rfl rfl ?_
                    refine KL.skip rfl rfl rfl ?_
                    refine KL.op (R.pick rfl rfl rfl) rfl rfl rfl ?_
                    refine KL.op (R.move rfl rfl) rfl rfl rfl ?_
                    refine KL.skip rfl rfl rfl ?_
                    refine KL.skip rfl rfl rfl ?_
                    refine KL.skip rfl rfl rfl ?_
                    refine KL.skip rfl rfl rfl ?_
                    refine KL.skip rfl rfl rfl ?_
                    refine KL.skip rfl rfl rfl ?_
                    refine KL.op (R.pick rfl rfl rfl) rfl rfl rfl ?_
                    refine KL.nil ?_
                    refine KQ.seq ?_
                    refine KC.condT rfl ?_
                    refine KC.seq ?_
                    refine KC.region ?_
                    refine KL.op (R.assign rfl rfl) rfl rfl rfl ?_
                    refine KL.nil ?_
                    refine KQ.seq ?_
                    refine KC.ret ?_
                    refine KQ.retThen ?_
                    refine KQ.ofRet ?_
                    refine KQ.fin1 Tryd.results41 rfl ?_
                    first
                      | exact ⟨congrArg (Value.int .i64) (show (0 : Int) = ((Utf.chr l : Nat) : Int) by rw [Utf.chr0 q0 (by omega)]; rfl), rfl⟩
                      | exact ⟨congrArg (Value.int .i64) (show (1 : Int) = ((Utf.chr l : Nat) : Int) by rw [Utf.chr1 (by omega)]; rfl), rfl⟩
                      | exact ⟨congrArg (Value.int .i64) (show (0 : Int) = ((Utf.chr l : Nat) : Int) by rw [Utf.chr2 q0 (by omega), if_pos (by omega)]; rfl), rfl⟩
                      | exact ⟨congrArg (Value.int .i64) (show (2 : Int) = ((Utf.chr l : Nat) : Int) by rw [Utf.chr2 q0 (by omega), if_neg (by omega)]; rfl), rfl⟩
                      | exact ⟨congrArg (Value.int .i64) (show (0 : Int) = ((Utf.chr l : Nat) : Int) by rw [Utf.chr3 q0 (by omega), if_pos (by omega)]; rfl), rfl⟩
                      | exact ⟨congrArg (Value.int .i64) (show (3 : Int) = ((Utf.chr l : Nat) : Int) by rw [Utf.chr3 q0 (by omega), if_neg (by omega)]; rfl), rfl⟩
                      | exact ⟨congrArg (Value.int .i64) (show (0 : Int) = ((Utf.chr l : Nat) : Int) by rw [Utf.chr4 q0 (by omega), if_pos (by omega)]; rfl), rfl⟩
                      | exact ⟨congrArg (Value.int .i64) (show (4 : Int) = ((Utf.chr l : Nat) : Int) by rw [Utf.chr4 q0 (by omega), if_neg (by omega)]; rfl), rfl⟩
                  · intro hg74
                    try simp only [decide_eq_true_eq, decide_eq_false_iff_not, Bool.not_eq_true', Bool.not_eq_false', Bool.and_eq_true, Bool.or_eq_false_iff] at hg74
                    refine KL.op (R.move rfl rfl) rfl rfl rfl ?_
                    refine KL.op (R.gtr rfl rfl rfl) rfl rfl rfl ?_
                    refine KL.op (R.pick rfl rfl rfl) rfl rfl rfl ?_
                    refine KL.op (R.move rfl rfl) rfl rfl rfl ?_
                    refine KL.case (d := 78) rfl ?_ ?_
                    · intro hg78
                      try simp only [decide_eq_true_eq, decide_eq_false_iff_not, Bool.not_eq_true', Bool.not_eq_false', Bool.and_eq_true, Bool.or_eq_false_iff] at hg78
                      refine KL.skip rfl rfl rfl ?_
                      refine KL.skip rfl rfl rfl ?_
                      refine KL.skip rfl rfl rfl ?_
                      refine KL.skip rfl rfl rfl ?_
                      refine KL.skip rfl rfl rfl ?_
                      refine KL.skip rfl rfl rfl ?_
                      refine KL.op (R.pick rfl rfl rfl) rfl rfl rfl ?_
                      refine KL.nil ?_
                      refine KQ.seq ?_
                      refine KC.condT rfl ?_
                      refine KC.seq ?_
                      refine KC.region ?_
                      refine KL.op (R.assign rfl rfl) rfl rfl rfl ?_
                      refine KL.nil ?_
                      refine KQ.seq ?_
                      refine KC.ret ?_
                      refine KQ.retThen ?_
                      refine KQ.ofRet ?_
                      refine KQ.fin1 Tryd.results41 rfl ?_
                      first
                        | exact ⟨congrArg (Value.int .i64) (show (0 : Int) = ((Utf.chr l : Nat) : Int) by rw [Utf.chr0 q0 (by omega)]; rfl), rfl⟩
                        | exact ⟨congrArg (Value.int .i64) (show (1 : Int) = ((Utf.chr l : Nat) : Int) by rw [Utf.chr1 (by omega)]; rfl), rfl⟩
                        | exact ⟨congrArg (Value.int .i64) (show (0 : Int) = ((Utf.chr l : Nat) : Int) by rw [Utf.chr2 q0 (by omega), if_pos (by omega)]; rfl), rfl⟩
                        | exact ⟨congrArg (Value.int .i64) (show (2 : Int) = ((Utf.chr l : Nat) : Int) by rw [Utf.chr2 q0 (by omega), if_neg (by omega)]; rfl), rfl⟩
                        | exact ⟨congrArg (Value.int .i64) (show (0 : Int) = ((Utf.chr l : Nat) : Int) by rw [Utf.chr3 q0 (by omega), if_pos (by omega)]; rfl), rfl⟩
                        | exact ⟨congrArg (Value.int .i64) (show (3 : Int) = ((Utf.chr l : Nat) : Int) by rw [Utf.chr3 q0 (by omega), if_neg (by omega)]; rfl), rfl⟩
                        | exact ⟨congrArg (Value.int .i64) (show (0 : Int) = ((Utf.chr l : Nat) : Int) by rw [Utf.chr4 q0 (by omega), if_pos (by omega)]; rfl), rfl⟩
                        | exact ⟨congrArg (Value.int .i64) (show (4 : Int) = ((Utf.chr l : Nat) : Int) by rw [Utf.chr4 q0 (by omega), if_neg (by omega)]; rfl), rfl⟩
                    · intro hg78
                      try simp only [decide_eq_true_eq, decide_eq_false_iff_not, Bool.not_eq_true', Bool.not_eq_false', Bool.and_eq_true, Bool.or_eq_false_iff] at hg78
                      refine KL.op (R.move rfl rfl) rfl rfl rfl ?_
                      refine KL.op (R.geq rfl rfl rfl) rfl rfl rfl ?_
                      refine KL.op (R.move rfl rfl) rfl rfl rfl ?_
                      refine KL.case (d := 81) rfl ?_ ?_
                      · intro hg81
                        try simp only [decide_eq_true_eq, decide_eq_false_iff_not, Bool.not_eq_true', Bool.not_eq_false', Bool.and_eq_true, Bool.or_eq_false_iff] at hg81
                        refine KL.op (R.move rfl rfl) rfl rfl rfl ?_
                        refine KL.op (R.leq rfl rfl rfl) rfl rfl rfl ?_
                        refine KL.op (R.pick rfl rfl rfl) rfl rfl rfl ?_
                        refine KL.op (R.pick rfl rfl rfl) rfl rfl rfl ?_
                        refine KL.nil ?_
                        refine KQ.seq ?_
                        refine KC.iteL rfl ?_ ?_
                        · intro hc85
                          try simp only [decide_eq_true_eq, decide_eq_false_iff_not, Bool.not_eq_true', Bool.not_eq_false', Bool.and_eq_true, Bool.or_eq_false_iff] at hc85
                          refine KC.seq ?_
                          refine KC.region ?_
                          refine KL.op (R.assign rfl rfl) rfl rfl rfl ?_
                          refine KL.nil ?_
                          refine KQ.seq ?_
                          refine KC.ret ?_
                          refine KQ.retThen ?_
                          refine KQ.ofRet ?_
                          refine KQ.fin1 Tryd.results41 rfl ?_
                          first
                            | exact ⟨congrArg (Value.int .i64) (show (0 : Int) = ((Utf.chr l : Nat) : Int) by rw [Utf.chr0 q0 (by omega)]; rfl), rfl⟩
                            | exact ⟨congrArg (Value.int .i64) (show (1 : Int) = ((Utf.chr l : Nat) : Int) by rw [Utf.chr1 (by omega)]; rfl), rfl⟩
                            | exact ⟨congrArg (Value.int .i64) (show (0 : Int) = ((Utf.chr l : Nat) : Int) by rw [Utf.chr2 q0 (by omega), if_pos (by omega)]; rfl), rfl⟩
                            | exact ⟨congrArg (Value.int .i64) (show (2 : Int) = ((Utf.chr l : Nat) : Int) by rw [Utf.chr2 q0 (by omega), if_neg (by omega)]; rfl), rfl⟩
                            | exact ⟨congrArg (Value.int .i64) (show (0 : Int) = ((Utf.chr l : Nat) : Int) by rw [Utf.chr3 q0 (by omega), if_pos (by omega)]; rfl), rfl⟩
                            | exact ⟨congrArg (Value.int .i64) (show (3 : Int) = ((Utf.chr l : Nat) : Int) by rw [Utf.chr3 q0 (by omega), if_neg (by omega)]; rfl), rfl⟩
                            | exact ⟨congrArg (Value.int .i64) (show (0 : Int) = ((Utf.chr l : Nat) : Int) by rw [Utf.chr4 q0 (by omega), if_pos (by omega)]; rfl), rfl⟩
                            | exact ⟨congrArg (Value.int .i64) (show (4 : Int) = ((Utf.chr l : Nat) : Int) by rw [Utf.chr4 q0 (by omega), if_neg (by omega)]; rfl), rfl⟩
                        · intro hc85
                          try simp only [decide_eq_true_eq, decide_eq_false_iff_not, Bool.not_eq_true', Bool.not_eq_false', Bool.and_eq_true, Bool.or_eq_false_iff] at hc85
                          refine KC.skip ?_
                          refine KQ.seq ?_
                          refine KC.seq ?_
                          refine KC.region ?_
                          refine KL.op (R.move rfl rfl) rfl rfl rfl ?_
                          refine KL.op (R.assign rfl rfl) rfl rfl rfl ?_
                          refine KL.nil ?_
                          refine KQ.seq ?_
                          refine KC.ret ?_
                          refine KQ.ofRet ?_
                          refine KQ.fin1 Tryd.results41 rfl ?_
                          first
                            | exact ⟨congrArg (Value.int .i64) (show (0 : Int) = ((Utf.chr l : Nat) : Int) by rw [Utf.chr0 q0 (by omega)]; rfl), rfl⟩
                            | exact ⟨congrArg (Value.int .i64) (show (1 : Int) = ((Utf.chr l : Nat) : Int) by rw [Utf.chr1 (by omega)]; rfl), rfl⟩
                            | exact ⟨congrArg (Value.int .i64) (show (0 : Int) = ((Utf.chr l : Nat) : Int) by rw [Utf.chr2 q0 (by omega), if_pos (by omega)]; rfl), rfl⟩
                            | exact ⟨congrArg (Value.int .i64) (show (2 : Int) = ((Utf.chr l : Nat) : Int) by rw [Utf.chr2 q0 (by omega), if_neg (by omega)]; rfl), rfl⟩
                            | exact ⟨congrArg (Value.int .i64) (show (0 : Int) = ((Utf.chr l : Nat) : Int) by rw [Utf.chr3 q0 (by omega), if_pos (by omega)]; rfl), rfl⟩
                            | exact ⟨congrArg (Value.int .i64) (show (3 : Int) = ((Utf.chr l : Nat) : Int) by rw [Utf.chr3 q0 (by omega), if_neg (by omega)]; rfl), rfl⟩
                            | exact ⟨congrArg (Value.int .i64) (show (0 : Int) = ((Utf.chr l : Nat) : Int) by rw [Utf.chr4 q0 (by omega), if_pos (by omega)]; rfl), rfl⟩
                            | exact ⟨congrArg (Value.int .i64) (show (4 : Int) = ((Utf.chr l : Nat) : Int) by rw [Utf.chr4 q0 (by omega), if_neg (by omega)]; rfl), rfl⟩
                      · intro hg81
                        try simp only [decide_eq_true_eq, decide_eq_false_iff_not, Bool.not_eq_true', Bool.not_eq_false', Bool.and_eq_true, Bool.or_eq_false_iff] at hg81
                        refine KL.skip rfl rfl rfl ?_
                        refine KL.skip rfl rfl rfl ?_
                        refine KL.op (R.pick rfl rfl rfl) rfl rfl rfl ?_
                        refine KL.op (R.pick rfl rfl rfl) rfl rfl rfl ?_
                        refine KL.nil ?_
                        refine KQ.seq ?_
                        refine KC.condF rfl ?_
                        refine KC.skip ?_
                        refine KQ.seq ?_
                        refine KC.seq ?_
                        refine KC.region ?_
                        refine KL.op (R.move rfl rfl) rfl rfl rfl ?_
                        refine KL.op (R.assign rfl rfl) rfl rfl rfl ?_
                        refine KL.nil ?_
                        refine KQ.seq ?_
                        refine KC.ret ?_
                        refine KQ.ofRet ?_
                        refine KQ.fin1 Tryd.results41 rfl ?_
                        first
                          | exact ⟨congrArg (Value.int .i64) (show (0 : Int) = ((Utf.chr l : Nat) : Int) by rw [Utf.chr0 q0 (by omega)]; rfl), rfl⟩
                          | exact ⟨congrArg (Value.int .i64) (show (1 : Int) = ((Utf.chr l : Nat) : Int) by rw [Utf.chr1 (by omega)]; rfl), rfl⟩
                          | exact ⟨congrArg (Value.int .i64) (show (0 : Int) = ((Utf.chr l : Nat) : Int) by rw [Utf.chr2 q0 (by omega), if_pos (by omega)]; rfl), rfl⟩
                          | exact ⟨congrArg (Value.int .i64) (show (2 : Int) = ((Utf.chr l : Nat) : Int) by rw [Utf.chr2 q0 (by omega), if_neg (by omega)]; rfl), rfl⟩
                          | exact ⟨congrArg (Value.int .i64) (show (0 : Int) = ((Utf.chr l : Nat) : Int) by rw [Utf.chr3 q0 (by omega), if_pos (by omega)]; rfl), rfl⟩
                          | exact ⟨congrArg (Value.int .i64) (show (3 : Int) = ((Utf.chr l : Nat) : Int) by rw [Utf.chr3 q0 (by omega), if_neg (by omega)]; rfl), rfl⟩
                          | exact ⟨congrArg (Value.int .i64) (show (0 : Int) = ((Utf.chr l : Nat) : Int) by rw [Utf.chr4 q0 (by omega), if_pos (by omega)]; rfl), rfl⟩
                          | exact ⟨congrArg (Value.int .i64) (show (4 : Int) = ((Utf.chr l : Nat) : Int) by rw [Utf.chr4 q0 (by omega), if_neg (by omega)]; rfl), rfl⟩
          · intro hc32
            try simp only [decide_eq_true_eq, decide_eq_false_iff_not, Bool.not_eq_true', Bool.not_eq_false', Bool.and_eq_true, Bool.or_eq_false_iff] at hc32
            refine KC.seq ?_
            refine KC.region ?_
            refine KL.op (R.assign rfl rfl) rfl rfl rfl ?_
            refine KL.nil ?_
            refine KQ.seq ?_
            refine KC.ret ?_
            refine KQ.retBlock ?_
            refine KQ.retThen ?_
            refine KQ.ofRet ?_
            refine KQ.fin1 Tryd.results41 rfl ?_
            first
              | exact ⟨congrArg (Value.int .i64) (show (0 : Int) = ((Utf.chr l : Nat) : Int) by rw [Utf.chr0 q0 (by omega)]; rfl), rfl⟩
              | exact ⟨congrArg (Value.int .i64) (show (1 : Int) = ((Utf.chr l : Nat) : Int) by rw [Utf.chr1 (by omega)]; rfl), rfl⟩
              | exact ⟨congrArg (Value.int .i64) (show (0 : Int) = ((Utf.chr l : Nat) : Int) by rw [Utf.chr2 q0 (by omega), if_pos (by omega)]; rfl), rfl⟩
              | exact ⟨congrArg (Value.int .i64) (show (2 : Int) = ((Utf.chr l : Nat) : Int) by rw [Utf.chr2 q0 (by omega), if_neg (by omega)]; rfl), rfl⟩
              | exact ⟨congrArg (Value.int .i64) (show (0 : Int) = ((Utf.chr l : Nat) : Int) by rw [Utf.chr3 q0 (by omega), if_pos (by omega)]; rfl), rfl⟩
              | exact ⟨congrArg (Value.int .i64) (show (3 : Int) = ((Utf.chr l : Nat) : Int) by rw [Utf.chr3 q0 (by omega), if_neg (by omega)]; rfl), rfl⟩
              | exact ⟨congrArg (Value.int .i64) (show (0 : Int) = ((Utf.chr l : Nat) : Int) by rw [Utf.chr4 q0 (by omega), if_pos (by omega)]; rfl), rfl⟩
              | exact ⟨congrArg (Value.int .i64) (show (4 : Int) = ((Utf.chr l : Nat) : Int) by rw [Utf.chr4 q0 (by omega), if_neg (by omega)]; rfl), rfl⟩
        · intro hg35
          try simp only [decide_eq_true_eq, decide_eq_false_iff_not, Bool.not_eq_true', Bool.not_eq_false', Bool.and_eq_true, Bool.or_eq_false_iff] at hg35
          refine KL.skip rfl rfl rfl ?_
          refine KL.skip rfl rfl rfl ?_
          refine KL.op (R.pick rfl rfl rfl) rfl rfl rfl ?_
          refine KL.op (R.assign rfl rfl) rfl rfl rfl ?_
          refine KL.nil ?_
          refine KQ.seq ?_
          refine KC.condF rfl ?_
          refine KC.seq ?_
          refine KC.region ?_
          refine KL.op (R.assign rfl rfl) rfl rfl rfl ?_
          refine KL.nil ?_
          refine KQ.seq ?_
          refine KC.ret ?_
          refine KQ.retBlock ?_
          refine KQ.retThen ?_
          refine KQ.ofRet ?_
          refine KQ.fin1 Tryd.results41 rfl ?_
          first
            | exact ⟨congrArg (Value.int .i64) (show (0 : Int) = ((Utf.chr l : Nat) : Int) by rw [Utf.chr0 q0 (by omega)]; rfl), rfl⟩
            | exact ⟨congrArg (Value.int .i64) (show (1 : Int) = ((Utf.chr l : Nat) : Int) by rw [Utf.chr1 (by omega)]; rfl), rfl⟩
            | exact ⟨congrArg (Value.int .i64) (show (0 : Int) = ((Utf.chr l : Nat) : Int) by rw [Utf.chr2 q0 (by omega), if_pos (by omega)]; rfl), rfl⟩
            | exact ⟨congrArg (Value.int .i64) (show (2 : Int) = ((Utf.chr l : Nat) : Int) by rw [Utf.chr2 q0 (by omega), if_neg (by omega)]; rfl), rfl⟩
            | exact ⟨congrArg (Value.int .i64) (show (0 : Int) = ((Utf.chr l : Nat) : Int) by rw [Utf.chr3 q0 (by omega), if_pos (by omega)]; rfl), rfl⟩
            | exact ⟨congrArg (Value.int .i64) (show (3 : Int) = ((Utf.chr l : Nat) : Int) by rw [Utf.chr3 q0 (by omega), if_neg (by omega)]; rfl), rfl⟩
            | exact ⟨congrArg (Value.int .i64) (show (0 : Int) = ((Utf.chr l : Nat) : Int) by rw [Utf.chr4 q0 (by omega), if_pos (by omega)]; rfl), rfl⟩
            | exact ⟨congrArg (Value.int .i64) (show (4 : Int) = ((Utf.chr l : Nat) : Int) by rw [Utf.chr4 q0 (by omega), if_neg (by omega)]; rfl), rfl⟩

set_option maxRecDepth 100000 in
set_option maxHeartbeats 4000000 in
theorem refValid_any {H : Heap} (v : Value) (l : List Int) (hs : Sl 1 (EInt .u8) H v l) : Ct Tryd.prog 37 [v] H (fun u H' => u = .bool (Utf.valid l) ∧ H = H') := by
  refine Ct.mk Tryd.func37 rfl Tryd.ntmps37 rfl ?_
  intro W0 hW0
  have o0 : Old H H := Old.refl H
  refine KC.seq ?_
  refine KC.region ?_
  refine KL.op (R.assign rfl rfl) rfl rfl rfl ?_
  refine KL.nil ?_
  refine KQ.seq ?_
  refine KC.seq ?_
  refine KC.seq ?_
  refine KC.region ?_
  refine KL.op (R.assign rfl rfl) rfl rfl rfl ?_
  refine KL.nil ?_
  refine KQ.seq ?_
  refine KC.block ?_
  refine KC.loopD (κ := Nat) [5, 6, 7, 8, 9, 10, 11, 12, 4, 13, 14, 2, 15, 16, 17, 3] (fun k => [(3, .int .i64 (k : Nat))]) (fun k Hl => H = Hl ∧ k ≤ l.length ∧ Utf.valid (l.drop k) = Utf.valid l) (fun k => l.length - k) 0 ?_ ?_ ?_
  · exact (Sub.cons rfl (Ext.sub (Ext.refl _ _)))
  · exact ⟨rfl, Nat.zero_le _, rfl⟩
  · rintro k H1 ⟨rfl, hk, hv⟩
    refine KC.seq ?_
    refine KC.seq ?_
    refine KC.region ?_
    refine KL.op (R.move rfl rfl) rfl rfl rfl ?_
    refine KL.op (R.move rfl rfl) rfl rfl rfl ?_
    refine KL.op ((by first | exact R.lenS rfl Tryd.underlying22 rfl (by first | exact hs | assumption) | exact R.len (ty := 0) rfl Tryd.underlying22 rfl)) rfl rfl rfl ?_
    refine KL.op (R.lss rfl rfl rfl) rfl rfl rfl ?_
    refine KL.nil ?_
    refine KQ.seq ?_
    refine KC.iteL rfl ?_ ?_
    · intro hc8
      try simp only [decide_eq_true_eq, decide_eq_false_iff_not, Bool.not_eq_true', Bool.not_eq_false', Bool.and_eq_true, Bool.or_eq_false_iff] at hc8
      refine KC.skip ?_
      refine KQ.seq ?_
      refine KC.block ?_
      refine KC.seq ?_
      refine KC.region ?_
      refine KL.op (R.move rfl rfl) rfl rfl rfl ?_
      refine KL.op (R.move rfl rfl) rfl rfl rfl ?_
      refine KL.op (R.slice rfl Tryd.underlying22 sz5 rfl hs (bnd.mk (r := k) rfl rfl) bnd.no (by omega) (Nat.le_refl _)) rfl rfl rfl ?_
      have s1 := hs.tail (lo := k) (by omega)
      refine KL.call rfl rfl rfl rfl Tryd.call41 rfl rfl rfl (One_any _ _ s1 (by rw [List.length_drop]; omega)) ?_
      rintro _ _ ⟨rfl, rfl⟩
      have hcl := Utf.chr_le (l := l.drop k) (by rw [List.length_drop]; omega)
      have hcl2 := hcl
      rw [List.length_drop] at hcl2
      refine KL.op (R.assign rfl rfl) rfl rfl rfl ?_
      refine KL.nil ?_
      refine KQ.seq ?_
      refine KC.seq ?_
      refine KC.seq ?_
      refine KC.region ?_
      refine KL.op (R.move rfl rfl) rfl rfl rfl ?_
      refine KL.op (R.eql rfl rfl rfl) rfl rfl rfl ?_
      refine KL.nil ?_
      refine KQ.seq ?_
      refine KC.iteL rfl ?_ ?_
      · intro hc14
        try simp only [decide_eq_true_eq, decide_eq_false_iff_not, Bool.not_eq_true', Bool.not_eq_false', Bool.and_eq_true, Bool.or_eq_false_iff] at hc14
        refine KC.seq ?_
        refine KC.region ?_
        refine KL.op (R.assign rfl rfl) rfl rfl rfl ?_
        refine KL.nil ?_
        refine KQ.seq ?_
        refine KC.ret ?_
        refine KQ.retThen ?_
        refine KQ.retBlock ?_
        refine KQ.retThen ?_
        refine KQ.retBlock ?_
        refine KQ.retThen ?_
        refine KQ.ofRet ?_
        refine KQ.fin1 Tryd.results37 rfl ?_
        first
          | exact ⟨congrArg Value.bool (show true = Utf.valid l by rw [← hv]; exact (Utf.valid_nil (by rw [List.length_drop]; omega)).symm), rfl⟩
          | exact ⟨congrArg Value.bool (show false = Utf.valid l by rw [← hv]; exact (Utf.valid_bad (by rw [List.length_drop]; omega) (by omega)).symm), rfl⟩
      · intro hc14
        try simp only [decide_eq_true_eq, decide_eq_false_iff_not, Bool.not_eq_true', Bool.not_eq_false', Bool.and_eq_true, Bool.or_eq_false_iff] at hc14
        refine KC.skip ?_
        refine KQ.seq ?_
        refine KC.region ?_
        refine KL.op (R.move rfl rfl) rfl rfl rfl ?_
        refine KL.op (R.move rfl rfl) rfl rfl rfl ?_
        refine KL.op ((R.add rfl rfl rfl (by have := hs.len; dsimp only [InR]; omega)).val (congrArg (Value.int .i64) (show _ = ((k + Utf.chr (l.drop k) : Nat) : Int) from by omega))) rfl rfl rfl ?_
        refine KL.op (R.assign rfl rfl) rfl rfl rfl ?_
        refine KL.nil ?_
        refine KQ.normBlock ?_
        refine KQ.again (k + Utf.chr (l.drop k)) ?_ ?_ ?_
        · exact (Sub.cons rfl (Ext.sub (by repeat (first | exact Ext.refl _ _ | refine Ext.put rfl ?_ | refine Ext.drop rfl ?_))))
        · omega
        · exact ⟨rfl, by rw [List.length_drop] at hcl; omega, (by rw [← List.drop_drop, ← hv]; exact Utf.valid_ok (by rw [List.length_drop]; omega) rfl (by omega))⟩
    · intro hc8
      try simp only [decide_eq_true_eq, decide_eq_false_iff_not, Bool.not_eq_true', Bool.not_eq_false', Bool.and_eq_true, Bool.or_eq_false_iff] at hc8
      refine KC.exit ?_
      refine KQ.exitThen ?_
      refine KQ.exitThen ?_
      refine KQ.hit ?_
      refine KQ.seq ?_
      refine KC.seq ?_
      refine KC.region ?_
      refine KL.op (R.assign rfl rfl) rfl rfl rfl ?_
      refine KL.nil ?_
      refine KQ.seq ?_
      refine KC.ret ?_
      refine KQ.ofRet ?_
      refine KQ.fin1 Tryd.results37 rfl ?_
      first
        | exact ⟨congrArg Value.bool (show true = Utf.valid l by rw [← hv]; exact (Utf.valid_nil (by rw [List.length_drop]; omega)).symm), rfl⟩
        | exact ⟨congrArg Value.bool (show false = Utf.valid l by rw [← hv]; exact (Utf.valid_bad (by rw [List.length_drop]; omega) (by omega)).symm), rfl⟩

set_option maxRecDepth 100000 in
set_option maxHeartbeats 4000000 in
theorem nameValid_any {H : Heap} (v : Value) (l : List Int) (hs : Sl 1 (EInt .u8) H v l) (hT : TabU H) : Ct Tryd.prog 19 [v] H (fun u H' => u = .bool (Utf.valid l) ∧ Old H H') := by
  refine Ct.mk Tryd.func19 rfl Tryd.ntmps19 rfl ?_
  intro W0 hW0
  have o0 : Old H H := Old.refl H
  refine KC.seq ?_
  refine KC.region ?_
  refine KL.op (R.assign rfl rfl) rfl rfl rfl ?_
  refine KL.nil ?_
  refine KQ.seq ?_
  refine KC.seq ?_
  refine KC.region ?_
  refine KL.op (R.move rfl rfl) rfl rfl rfl ?_
  refine KL.call rfl rfl rfl rfl Tryd.call31 rfl rfl rfl (utf8Valid_any _ _ hs hT) ?_
  rintro _ H1 ⟨rfl, ox⟩
  have zc_H1 := (ox).1
  have o0 := o0.trans ox
  refine KL.op (R.assign rfl rfl) rfl rfl rfl ?_
  refine KL.nil ?_
  refine KQ.seq ?_
  refine KC.ret ?_
  refine KQ.ofRet ?_
  refine KQ.fin1 Tryd.results19 rfl ?_
  exact ⟨rfl, o0⟩

end Go.Proofs.YtnbdadjomnpcgaaDoor
