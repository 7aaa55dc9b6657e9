/- Memories: new ones, growing, copies. No condition. -/
import Derived.Test.YtdefjpakpgchhaaMemC
namespace Go.Proofs.Ytdefjpakpgchhaa
open Go Go.RowKit
set_option linter.unusedVariables false
set_option linter.unusedSimpArgs false
set_option linter.unnecessarySimpa false

def newOk (mn mx : Int) : Prop := mn ≤ 16 ∧ (0 ≤ mx → mn ≤ mx)
def newM (mx : Int) : Int := if 0 ≤ mx then min mx 16 else 16
def zeros (n : Int) : List Int := List.replicate (n * 65536).toNat 0
theorem zeros_length (n : Int) : (zeros n).length = (n * 65536).toNat := by simp [zeros]
def Fresh (B g : Nat) (v : Value) : Prop := B ≤ g ∧ (v = .slice none 0 0 ∨ B ≤ vblock v)
theorem Fr.ob {g B : Nat} {v : Value} {H H' : Heap} (h : Fr g v H H') (hB : B ≤ H.size) (f : Fresh B g v) : OldB B H H' := h.oldB hB f.1 f.2
theorem Own.gt {α : Type} {n : Nat} {E : El α} {e : TypeId} {H0 H : Heap} {B : Nat} {v : Value} {l : List α} (h : Own n E e H0 B H v l) : v = .slice none 0 0 ∨ vblock v ≠ H.size := h.lt.imp id (fun h => by omega)

set_option maxRecDepth 100000 in
set_option maxHeartbeats 4000000 in
theorem New_any {H : Heap} (mn mx : Int) (r1 : InR .u32 mn) (r2 : InR .i64 mx) : Ct Try.prog 15 [.agg #[.int .u32 mn, .int .i64 mx]] H (fun u H' => Old H H' ∧ ((newOk mn mx ∧ ∃ g v, u = .tuple #[.pointer (some ⟨g, 0, none⟩), .int .i64 0] ∧ MAt 65 .u32 H' g v (zeros mn) (newM mx) ∧ Fresh H.size g v) ∨ (¬ newOk mn mx ∧ u = .tuple #[.pointer none, .int .i64 2]))) := by
  refine Ct.mk Try.func15 rfl Try.ntmps15 rfl ?_
  intro W0 hW0
  have o0 : Old H H := Old.refl H
  dsimp only [InR] at r1 r2
  refine KC.seq ?_
  refine KC.region ?_
  refine KL.opM (M.box rfl rfl rfl) rfl rfl rfl ?_
  rintro _ H1 ⟨rfl, n1⟩
  have z1 := n1.2.1
  have o0 := o0.trans n1.1
  have b1 := n1.2.2
  have bl := b1
  refine KL.op (R.assign rfl rfl) rfl rfl rfl ?_
  refine KL.op (R.assign rfl rfl) rfl rfl rfl ?_
  refine KL.nil ?_
  refine KQ.seq ?_
  refine KC.seq ?_
  refine KC.seq ?_
  refine KC.region ?_
  refine KL.op ((by first | exact R.fieldAddr rfl Try.underlying42 rfl rfl sz23 rfl | exact R.fieldAddrP rfl Try.underlying42 rfl rfl sz23 rfl)) rfl rfl rfl ?_
  refine KL.op (R.load rfl Try.underlying23 rfl rfl (by first | exact cell_of bl rfl | assumption)) rfl rfl rfl ?_
  refine KL.op (R.gtr rfl rfl rfl) rfl rfl rfl ?_
  refine KL.op (R.move rfl rfl) rfl rfl rfl ?_
  refine KL.case (d := 8) rfl ?_ ?_
  · intro hg8
    try simp only [decide_eq_true_eq, decide_eq_false_iff_not, Bool.not_eq_true', Bool.not_eq_false', Bool.and_eq_true, Bool.or_eq_false_iff] at hg8
    refine KL.skip rfl rfl rfl ?_
    refine KL.skip rfl rfl rfl ?_
    refine KL.skip rfl rfl rfl ?_
    refine KL.skip rfl rfl rfl ?_
    refine KL.skip rfl rfl rfl ?_
    refine KL.skip rfl rfl rfl ?_
    refine KL.skip rfl rfl rfl ?_
    refine KL.skip rfl rfl rfl ?_
    refine KL.skip rfl rfl rfl ?_
    refine KL.skip rfl rfl rfl ?_
    refine KL.skip rfl rfl rfl ?_
    refine KL.op (R.pick rfl rfl rfl) rfl rfl rfl ?_
    refine KL.nil ?_
    refine KQ.seq ?_
    refine KC.condT rfl ?_
    refine KC.seq ?_
    refine KC.region ?_
    refine KL.op (R.assign rfl rfl) rfl rfl rfl ?_
    refine KL.op (R.assign rfl rfl) rfl rfl rfl ?_
    refine KL.nil ?_
    refine KQ.seq ?_
    refine KC.ret ?_
    refine KQ.retThen ?_
    refine KQ.ofRet ?_
    refine KQ.fin2 Try.results15 rfl rfl ?_
    first
      | exact ⟨o0, .inr ⟨by unfold newOk; omega, rfl⟩⟩
      | (have eM : newM mx = min mx 16 := (by unfold newM; rw [if_pos (by omega)])
         rw [eM]
         exact ⟨o0, .inl ⟨by unfold newOk; omega, _, _, rfl, ⟨bm, wv, .inr (by omega), by rw [zeros_length]; omega⟩, by omega, .inr (by omega)⟩⟩)
      | (have eM : newM mx = 16 := (by unfold newM; rw [if_neg (by omega)])
         rw [eM]
         exact ⟨o0, .inl ⟨by unfold newOk; omega, _, _, rfl, ⟨bm, wv, .inr (by omega), by rw [zeros_length]; omega⟩, by omega, .inr (by omega)⟩⟩)
  · intro hg8
    try simp only [decide_eq_true_eq, decide_eq_false_iff_not, Bool.not_eq_true', Bool.not_eq_false', Bool.and_eq_true, Bool.or_eq_false_iff] at hg8
    refine KL.op ((by first | exact R.fieldAddr rfl Try.underlying42 rfl rfl sz2 rfl | exact R.fieldAddrP rfl Try.underlying42 rfl rfl sz2 rfl)) rfl rfl rfl ?_
    refine KL.op (R.load rfl Try.underlying2 rfl rfl (by first | exact cell_of bl rfl | assumption)) rfl rfl rfl ?_
    refine KL.op (R.geq rfl rfl rfl) rfl rfl rfl ?_
    refine KL.op (R.move rfl rfl) rfl rfl rfl ?_
    refine KL.case (d := 12) rfl ?_ ?_
    · intro hg12
      try simp only [decide_eq_true_eq, decide_eq_false_iff_not, Bool.not_eq_true', Bool.not_eq_false', Bool.and_eq_true, Bool.or_eq_false_iff] at hg12
      refine KL.op ((by first | exact R.fieldAddr rfl Try.underlying42 rfl rfl sz2 rfl | exact R.fieldAddrP rfl Try.underlying42 rfl rfl sz2 rfl)) rfl rfl rfl ?_
      refine KL.op (R.load rfl Try.underlying2 rfl rfl (by first | exact cell_of bl rfl | assumption)) rfl rfl rfl ?_
      refine KL.op ((by first | exact R.fieldAddr rfl Try.underlying42 rfl rfl sz23 rfl | exact R.fieldAddrP rfl Try.underlying42 rfl rfl sz23 rfl)) rfl rfl rfl ?_
      refine KL.op (R.load rfl Try.underlying23 rfl rfl (by first | exact cell_of bl rfl | assumption)) rfl rfl rfl ?_
      refine KL.op (R.convI rfl Try.underlying23 Try.underlying2 rfl (by dsimp only [InR]; omega)) rfl rfl rfl ?_
      refine KL.op (R.lss rfl rfl rfl) rfl rfl rfl ?_
      refine KL.op (R.pick rfl rfl rfl) rfl rfl rfl ?_
      refine KL.op (R.pick rfl rfl rfl) rfl rfl rfl ?_
      refine KL.nil ?_
      refine KQ.seq ?_
      refine KC.iteL rfl ?_ ?_
      · intro hc20
        try simp only [decide_eq_true_eq, decide_eq_false_iff_not, Bool.not_eq_true', Bool.not_eq_false', Bool.and_eq_true, Bool.or_eq_false_iff] at hc20
        refine KC.seq ?_
        refine KC.region ?_
        refine KL.op (R.assign rfl rfl) rfl rfl rfl ?_
        refine KL.op (R.assign rfl rfl) rfl rfl rfl ?_
        refine KL.nil ?_
        refine KQ.seq ?_
        refine KC.ret ?_
        refine KQ.retThen ?_
        refine KQ.ofRet ?_
        refine KQ.fin2 Try.results15 rfl rfl ?_
        first
          | exact ⟨o0, .inr ⟨by unfold newOk; omega, rfl⟩⟩
          | (have eM : newM mx = min mx 16 := (by unfold newM; rw [if_pos (by omega)])
             rw [eM]
             exact ⟨o0, .inl ⟨by unfold newOk; omega, _, _, rfl, ⟨bm, wv, .inr (by omega), by rw [zeros_length]; omega⟩, by omega, .inr (by omega)⟩⟩)
          | (have eM : newM mx = 16 := (by unfold newM; rw [if_neg (by omega)])
             rw [eM]
             exact ⟨o0, .inl ⟨by unfold newOk; omega, _, _, rfl, ⟨bm, wv, .inr (by omega), by rw [zeros_length]; omega⟩, by omega, .inr (by omega)⟩⟩)
      · intro hc20
        try simp only [decide_eq_true_eq, decide_eq_false_iff_not, Bool.not_eq_true', Bool.not_eq_false', Bool.and_eq_true, Bool.or_eq_false_iff] at hc20
        refine KC.skip ?_
        refine KQ.seq ?_
        refine KC.seq ?_
        refine KC.region ?_
        refine KL.op (R.assign rfl rfl) rfl rfl rfl ?_
        refine KL.nil ?_
        refine KQ.seq ?_
        refine KC.seq ?_
        refine KC.seq ?_
        refine KC.region ?_
        refine KL.op ((by first | exact R.fieldAddr rfl Try.underlying42 rfl rfl sz2 rfl | exact R.fieldAddrP rfl Try.underlying42 rfl rfl sz2 rfl)) rfl rfl rfl ?_
        refine KL.op (R.load rfl Try.underlying2 rfl rfl (by first | exact cell_of bl rfl | assumption)) rfl rfl rfl ?_
        refine KL.op (R.geq rfl rfl rfl) rfl rfl rfl ?_
        refine KL.nil ?_
        refine KQ.seq ?_
        refine KC.iteL rfl ?_ ?_
        · intro hc23
          try simp only [decide_eq_true_eq, decide_eq_false_iff_not, Bool.not_eq_true', Bool.not_eq_false', Bool.and_eq_true, Bool.or_eq_false_iff] at hc23
          refine KC.region ?_
          refine KL.op ((by first | exact R.fieldAddr rfl Try.underlying42 rfl rfl sz2 rfl | exact R.fieldAddrP rfl Try.underlying42 rfl rfl sz2 rfl)) rfl rfl rfl ?_
          refine KL.op (R.load rfl Try.underlying2 rfl rfl (by first | exact cell_of bl rfl | assumption)) rfl rfl rfl ?_
          refine KL.op (R.min rfl rfl rfl) rfl rfl rfl ?_
          refine KL.op (R.convI rfl Try.underlying2 Try.underlying23 rfl (by dsimp only [InR]; omega)) rfl rfl rfl ?_
          refine KL.op (R.assign rfl rfl) rfl rfl rfl ?_
          refine KL.nil ?_
          refine KQ.seq ?_
          refine KC.seq ?_
          refine KC.region ?_
          refine KL.op ((by first | exact R.fieldAddr rfl Try.underlying42 rfl rfl sz23 rfl | exact R.fieldAddrP rfl Try.underlying42 rfl rfl sz23 rfl)) rfl rfl rfl ?_
          refine KL.op (R.load rfl Try.underlying23 rfl rfl (by first | exact cell_of bl rfl | assumption)) rfl rfl rfl ?_
          refine KL.op (R.convI rfl Try.underlying23 Try.underlying3 rfl (by dsimp only [InR]; omega)) rfl rfl rfl ?_
          refine KL.op (R.mul rfl rfl rfl (by dsimp only [InR]; omega)) rfl rfl rfl ?_
          have hvb : vblock (Value.slice (some ⟨Array.size H1, 0, none⟩) (mn * 65536).toNat (mn * 65536).toNat) = Array.size H1 := rfl
          refine KL.opM (M.make rfl Try.underlying22 inf5 rfl rfl rfl (by omega) (by omega) (by omega) (by omega)) rfl rfl rfl ?_
          rintro _ H2 ⟨rfl, n2⟩
          have z2 := n2.2.1
          have o0 := o0.trans n2.1
          have bl := (n2.1).blk bl
          have b2 := n2.2.2
          have bz := b2
          have wv : Own 1 (EInt .u8) 5 #[] 0 H2 _ (zeros mn) := Own.made n2 (Nat.zero_le _) (by unfold maxLen; omega) ⟨rfl, by dsimp only [InR]; omega⟩
          refine KL.op (R.move rfl rfl) rfl rfl rfl ?_
          refine KL.op (R.buildL rfl Try.underlying65 zr65 [(0, 1), (1, 1)] (fun w => by kernel_rfl) rfl ⟨⟨_, rfl, rfl⟩, ⟨_, rfl, rfl⟩, trivial⟩ rfl rfl ⟨⟨_, rfl, by first | rfl | exact rfl | exact wv.cells1⟩, ⟨_, rfl, by first | rfl | exact rfl | exact wv.cells1⟩, trivial⟩ rfl) rfl rfl rfl ?_
          refine KL.opM (M.box rfl rfl rfl) rfl rfl rfl ?_
          rintro _ H3 ⟨rfl, n3⟩
          have z3 := n3.2.1
          have o0 := o0.trans n3.1
          have bl := (n3.1).blk bl
          have wv := wv.old n3.1
          have b3 := n3.2.2
          have bm := b3
          refine KL.op (R.assign rfl rfl) rfl rfl rfl ?_
          refine KL.op (R.assign rfl rfl) rfl rfl rfl ?_
          refine KL.nil ?_
          refine KQ.seq ?_
          refine KC.ret ?_
          refine KQ.ofRet ?_
          refine KQ.fin2 Try.results15 rfl rfl ?_
          first
            | exact ⟨o0, .inr ⟨by unfold newOk; omega, rfl⟩⟩
            | (have eM : newM mx = min mx 16 := (by unfold newM; rw [if_pos (by omega)])
               rw [eM]
               exact ⟨o0, .inl ⟨by unfold newOk; omega, _, _, rfl, ⟨bm, wv, .inr (by omega), by rw [zeros_length]; omega⟩, by omega, .inr (by omega)⟩⟩)
            | (have eM : newM mx = 16 := (by unfold newM; rw [if_neg (by omega)])
               rw [eM]
               exact ⟨o0, .inl ⟨by unfold newOk; omega, _, _, rfl, ⟨bm, wv, .inr (by omega), by rw [zeros_length]; omega⟩, by omega, .inr (by omega)⟩⟩)
        · intro hc23
          try simp only [decide_eq_true_eq, decide_eq_false_iff_not, Bool.not_eq_true', Bool.not_eq_false', Bool.and_eq_true, Bool.or_eq_false_iff] at hc23
          refine KC.skip ?_
          refine KQ.seq ?_
          refine KC.seq ?_
          refine KC.region ?_
          refine KL.op ((by first | exact R.fieldAddr rfl Try.underlying42 rfl rfl sz23 rfl | exact R.fieldAddrP rfl Try.underlying42 rfl rfl sz23 rfl)) rfl rfl rfl ?_
          refine KL.op (R.load rfl Try.underlying23 rfl rfl (by first | exact cell_of bl rfl | assumption)) rfl rfl rfl ?_
          refine KL.op (R.convI rfl Try.underlying23 Try.underlying3 rfl (by dsimp only [InR]; omega)) rfl rfl rfl ?_
          refine KL.op (R.mul rfl rfl rfl (by dsimp only [InR]; omega)) rfl rfl rfl ?_
          have hvb : vblock (Value.slice (some ⟨Array.size H1, 0, none⟩) (mn * 65536).toNat (mn * 65536).toNat) = Array.size H1 := rfl
          refine KL.opM (M.make rfl Try.underlying22 inf5 rfl rfl rfl (by omega) (by omega) (by omega) (by omega)) rfl rfl rfl ?_
          rintro _ H4 ⟨rfl, n4⟩
          have z4 := n4.2.1
          have o0 := o0.trans n4.1
          have bl := (n4.1).blk bl
          have b4 := n4.2.2
          have bz := b4
          have wv : Own 1 (EInt .u8) 5 #[] 0 H4 _ (zeros mn) := Own.made n4 (Nat.zero_le _) (by unfold maxLen; omega) ⟨rfl, by dsimp only [InR]; omega⟩
          refine KL.op (R.move rfl rfl) rfl rfl rfl ?_
          refine KL.op (R.buildL rfl Try.underlying65 zr65 [(0, 1), (1, 1)] (fun w => by kernel_rfl) rfl ⟨⟨_, rfl, rfl⟩, ⟨_, rfl, rfl⟩, trivial⟩ rfl rfl ⟨⟨_, rfl, by first | rfl | exact rfl | exact wv.cells1⟩, ⟨_, rfl, by first | rfl | exact rfl | exact wv.cells1⟩, trivial⟩ rfl) rfl rfl rfl ?_
          refine KL.opM (M.box rfl rfl rfl) rfl rfl rfl ?_
          rintro _ H5 ⟨rfl, n5⟩
          have z5 := n5.2.1
          have o0 := o0.trans n5.1
          have bl := (n5.1).blk bl
          have wv := wv.old n5.1
          have b5 := n5.2.2
          have bm := b5
          refine KL.op (R.assign rfl rfl) rfl rfl rfl ?_
          refine KL.op (R.assign rfl rfl) rfl rfl rfl ?_
          refine KL.nil ?_
          refine KQ.seq ?_
          refine KC.ret ?_
          refine KQ.ofRet ?_
          refine KQ.fin2 Try.results15 rfl rfl ?_
          first
            | exact ⟨o0, .inr ⟨by unfold newOk; omega, rfl⟩⟩
            | (have eM : newM mx = min mx 16 := (by unfold newM; rw [if_pos (by omega)])
               rw [eM]
               exact ⟨o0, .inl ⟨by unfold newOk; omega, _, _, rfl, ⟨bm, wv, .inr (by omega), by rw [zeros_length]; omega⟩, by omega, .inr (by omega)⟩⟩)
            | (have eM : newM mx = 16 := (by unfold newM; rw [if_neg (by omega)])
               rw [eM]
               exact ⟨o0, .inl ⟨by unfold newOk; omega, _, _, rfl, ⟨bm, wv, .inr (by omega), by rw [zeros_length]; omega⟩, by omega, .inr (by omega)⟩⟩)
    · intro hg12
      try simp only [decide_eq_true_eq, decide_eq_false_iff_not, Bool.not_eq_true', Bool.not_eq_false', Bool.and_eq_true, Bool.or_eq_false_iff] at hg12
      refine KL.skip rfl rfl rfl ?_
      refine KL.skip rfl rfl rfl ?_
      refine KL.skip rfl rfl rfl ?_
      refine KL.skip rfl rfl rfl ?_
      refine KL.skip rfl rfl rfl ?_
      refine KL.skip rfl rfl rfl ?_
      refine KL.op (R.pick rfl rfl rfl) rfl rfl rfl ?_
      refine KL.op (R.pick rfl rfl rfl) rfl rfl rfl ?_
      refine KL.nil ?_
      refine KQ.seq ?_
      refine KC.condF rfl ?_
      refine KC.skip ?_
      refine KQ.seq ?_
      refine KC.seq ?_
      refine KC.region ?_
      refine KL.op (R.assign rfl rfl) rfl rfl rfl ?_
      refine KL.nil ?_
      refine KQ.seq ?_
      refine KC.seq ?_
      refine KC.seq ?_
      refine KC.region ?_
      refine KL.op ((by first | exact R.fieldAddr rfl Try.underlying42 rfl rfl sz2 rfl | exact R.fieldAddrP rfl Try.underlying42 rfl rfl sz2 rfl)) rfl rfl rfl ?_
      refine KL.op (R.load rfl Try.underlying2 rfl rfl (by first | exact cell_of bl rfl | assumption)) rfl rfl rfl ?_
      refine KL.op (R.geq rfl rfl rfl) rfl rfl rfl ?_
      refine KL.nil ?_
      refine KQ.seq ?_
      refine KC.iteL rfl ?_ ?_
      · intro hc23
        try simp only [decide_eq_true_eq, decide_eq_false_iff_not, Bool.not_eq_true', Bool.not_eq_false', Bool.and_eq_true, Bool.or_eq_false_iff] at hc23
        refine KC.region ?_
        refine KL.op ((by first | exact R.fieldAddr rfl Try.underlying42 rfl rfl sz2 rfl | exact R.fieldAddrP rfl Try.underlying42 rfl rfl sz2 rfl)) rfl rfl rfl ?_
        refine KL.op (R.load rfl Try.underlying2 rfl rfl (by first | exact cell_of bl rfl | assumption)) rfl rfl rfl ?_
        refine KL.op (R.min rfl rfl rfl) rfl rfl rfl ?_
        refine KL.op (R.convI rfl Try.underlying2 Try.underlying23 rfl (by dsimp only [InR]; omega)) rfl rfl rfl ?_
        refine KL.op (R.assign rfl rfl) rfl rfl rfl ?_
        refine KL.nil ?_
        refine KQ.seq ?_
        refine KC.seq ?_
        refine KC.region ?_
        refine KL.op ((by first | exact R.fieldAddr rfl Try.underlying42 rfl rfl sz23 rfl | exact R.fieldAddrP rfl Try.underlying42 rfl rfl sz23 rfl)) rfl rfl rfl ?_
        refine KL.op (R.load rfl Try.underlying23 rfl rfl (by first | exact cell_of bl rfl | assumption)) rfl rfl rfl ?_
        refine KL.op (R.convI rfl Try.underlying23 Try.underlying3 rfl (by dsimp only [InR]; omega)) rfl rfl rfl ?_
        refine KL.op (R.mul rfl rfl rfl (by dsimp only [InR]; omega)) rfl rfl rfl ?_
        have hvb : vblock (Value.slice (some ⟨Array.size H1, 0, none⟩) (mn * 65536).toNat (mn * 65536).toNat) = Array.size H1 := rfl
        refine KL.opM (M.make rfl Try.underlying22 inf5 rfl rfl rfl (by omega) (by omega) (by omega) (by omega)) rfl rfl rfl ?_
        rintro _ H6 ⟨rfl, n6⟩
        have z6 := n6.2.1
        have o0 := o0.trans n6.1
        have bl := (n6.1).blk bl
        have b6 := n6.2.2
        have bz := b6
        have wv : Own 1 (EInt .u8) 5 #[] 0 H6 _ (zeros mn) := Own.made n6 (Nat.zero_le _) (by unfold maxLen; omega) ⟨rfl, by dsimp only [InR]; omega⟩
        refine KL.op (R.move rfl rfl) rfl rfl rfl ?_
        refine KL.op (R.buildL rfl Try.underlying65 zr65 [(0, 1), (1, 1)] (fun w => by kernel_rfl) rfl ⟨⟨_, rfl, rfl⟩, ⟨_, rfl, rfl⟩, trivial⟩ rfl rfl ⟨⟨_, rfl, by first | rfl | exact rfl | exact wv.cells1⟩, ⟨_, rfl, by first | rfl | exact rfl | exact wv.cells1⟩, trivial⟩ rfl) rfl rfl rfl ?_
        refine KL.opM (M.box rfl rfl rfl) rfl rfl rfl ?_
        rintro _ H7 ⟨rfl, n7⟩
        have z7 := n7.2.1
        have o0 := o0.trans n7.1
        have bl := (n7.1).blk bl
        have wv := wv.old n7.1
        have b7 := n7.2.2
        have bm := b7
        refine KL.op (R.assign rfl rfl) rfl rfl rfl ?_
        refine KL.op (R.assign rfl rfl) rfl rfl rfl ?_
        refine KL.nil ?_
        refine KQ.seq ?_
        refine KC.ret ?_
        refine KQ.ofRet ?_
        refine KQ.fin2 Try.results15 rfl rfl ?_
        first
          | exact ⟨o0, .inr ⟨by unfold newOk; omega, rfl⟩⟩
          | (have eM : newM mx = min mx 16 := (by unfold newM; rw [if_pos (by omega)])
             rw [eM]
             exact ⟨o0, .inl ⟨by unfold newOk; omega, _, _, rfl, ⟨bm, wv, .inr (by omega), by rw [zeros_length]; omega⟩, by omega, .inr (by omega)⟩⟩)
          | (have eM : newM mx = 16 := (by unfold newM; rw [if_neg (by omega)])
             rw [eM]
             exact ⟨o0, .inl ⟨by unfold newOk; omega, _, _, rfl, ⟨bm, wv, .inr (by omega), by rw [zeros_length]; omega⟩, by omega, .inr (by omega)⟩⟩)
      · intro hc23
        try simp only [decide_eq_true_eq, decide_eq_false_iff_not, Bool.not_eq_true', Bool.not_eq_false', Bool.and_eq_true, Bool.or_eq_false_iff] at hc23
        refine KC.skip ?_
        refine KQ.seq ?_
        refine KC.seq ?_
        refine KC.region ?_
        refine KL.op ((by first | exact R.fieldAddr rfl Try.underlying42 rfl rfl sz23 rfl | exact R.fieldAddrP rfl Try.underlying42 rfl rfl sz23 rfl)) rfl rfl rfl ?_
        refine KL.op (R.load rfl Try.underlying23 rfl rfl (by first | exact cell_of bl rfl | assumption)) rfl rfl rfl ?_
        refine KL.op (R.convI rfl Try.underlying23 Try.underlying3 rfl (by dsimp only [InR]; omega)) rfl rfl rfl ?_
        refine KL.op (R.mul rfl rfl rfl (by dsimp only [InR]; omega)) rfl rfl rfl ?_
        have hvb : vblock (Value.slice (some ⟨Array.size H1, 0, none⟩) (mn * 65536).toNat (mn * 65536).toNat) = Array.size H1 := rfl
        refine KL.opM (M.make rfl Try.underlying22 inf5 rfl rfl rfl (by omega) (by omega) (by omega) (by omega)) rfl rfl rfl ?_
        rintro _ H8 ⟨rfl, n8⟩
        have z8 := n8.2.1
        have o0 := o0.trans n8.1
        have bl := (n8.1).blk bl
        have b8 := n8.2.2
        have bz := b8
        have wv : Own 1 (EInt .u8) 5 #[] 0 H8 _ (zeros mn) := Own.made n8 (Nat.zero_le _) (by unfold maxLen; omega) ⟨rfl, by dsimp only [InR]; omega⟩
        refine KL.op (R.move rfl rfl) rfl rfl rfl ?_
        refine KL.op (R.buildL rfl Try.underlying65 zr65 [(0, 1), (1, 1)] (fun w => by kernel_rfl) rfl ⟨⟨_, rfl, rfl⟩, ⟨_, rfl, rfl⟩, trivial⟩ rfl rfl ⟨⟨_, rfl, by first | rfl | exact rfl | exact wv.cells1⟩, ⟨_, rfl, by first | rfl | exact rfl | exact wv.cells1⟩, trivial⟩ rfl) rfl rfl rfl ?_
        refine KL.opM (M.box rfl rfl rfl) rfl rfl rfl ?_
        rintro _ H9 ⟨rfl, n9⟩
        have z9 := n9.2.1
        have o0 := o0.trans n9.1
        have bl := (n9.1).blk bl
        have wv := wv.old n9.1
        have b9 := n9.2.2
        have bm := b9
        refine KL.op (R.assign rfl rfl) rfl rfl rfl ?_
        refine KL.op (R.assign rfl rfl) rfl rfl rfl ?_
        refine KL.nil ?_
        refine KQ.seq ?_
        refine KC.ret ?_
        refine KQ.ofRet ?_
        refine KQ.fin2 Try.results15 rfl rfl ?_
        first
          | exact ⟨o0, .inr ⟨by unfold newOk; omega, rfl⟩⟩
          | (have eM : newM mx = min mx 16 := (by unfold newM; rw [if_pos (by omega)])
             rw [eM]
             exact ⟨o0, .inl ⟨by unfold newOk; omega, _, _, rfl, ⟨bm, wv, .inr (by omega), by rw [zeros_length]; omega⟩, by omega, .inr (by omega)⟩⟩)
          | (have eM : newM mx = 16 := (by unfold newM; rw [if_neg (by omega)])
             rw [eM]
             exact ⟨o0, .inl ⟨by unfold newOk; omega, _, _, rfl, ⟨bm, wv, .inr (by omega), by rw [zeros_length]; omega⟩, by omega, .inr (by omega)⟩⟩)

set_option maxRecDepth 100000 in
set_option maxHeartbeats 4000000 in
theorem Pages_any {H : Heap} (g : Nat) (v : Value) (bs : List Int) (most : Int) (h : MAt 65 .u32 H g v bs most) : Ct Try.prog 17 [.pointer (some ⟨g, 0, none⟩)] H (fun u H' => u = .int .u32 ((bs.length : Int) / 65536) ∧ H = H') := by
  refine Ct.mk Try.func17 rfl Try.ntmps17 rfl ?_
  intro W0 hW0
  have o0 : Old H H := Old.refl H
  have hb := h.b
  have hw := h.w
  have hn := h.n
  have hs := hw.sl (emptyOld _) (by decide)
  refine KC.seq ?_
  refine KC.region ?_
  refine KL.op (R.assign rfl rfl) rfl rfl rfl ?_
  refine KL.nil ?_
  refine KQ.seq ?_
  refine KC.seq ?_
  refine KC.seq ?_
  refine KC.region ?_
  refine KL.op (R.move rfl rfl) rfl rfl rfl ?_
  refine KL.op (R.eqlP rfl Try.underlying25 rfl rfl) rfl rfl rfl ?_
  refine KL.nil ?_
  refine KQ.seq ?_
  refine KC.condF rfl ?_
  refine KC.skip ?_
  refine KQ.seq ?_
  refine KC.seq ?_
  refine KC.region ?_
  refine KL.op (R.move rfl rfl) rfl rfl rfl ?_
  refine KL.op (R.nilCheck rfl rfl) rfl rfl rfl ?_
  refine KL.op ((by first | exact R.fieldAddr rfl Try.underlying65 rfl rfl sz22 rfl | exact R.fieldAddrP rfl Try.underlying65 rfl rfl sz22 rfl)) rfl rfl rfl ?_
  refine KL.op (R.load rfl Try.underlying22 rfl rfl (by first | exact cell_of hb rfl | assumption)) rfl rfl rfl ?_
  refine KL.op ((by first | exact R.lenS rfl Try.underlying22 rfl (by first | exact hs | assumption) | exact R.len (ty := 0) rfl Try.underlying22 rfl)) rfl rfl rfl ?_
  refine KL.op (R.quo rfl rfl rfl (by omega) (by omega) (by dsimp only [InR]; omega)) rfl rfl rfl ?_
  refine KL.op (R.convI rfl Try.underlying3 Try.underlying23 rfl (by dsimp only [InR]; omega)) rfl rfl rfl ?_
  refine KL.op (R.assign rfl rfl) rfl rfl rfl ?_
  refine KL.nil ?_
  refine KQ.seq ?_
  refine KC.ret ?_
  refine KQ.ofRet ?_
  refine KQ.fin1 Try.results17 rfl ?_
  exact ⟨rfl, rfl⟩

set_option maxRecDepth 100000 in
set_option maxHeartbeats 4000000 in
theorem Pages_nil {H : Heap} : Ct Try.prog 17 [.pointer none] H (fun u H' => u = .int .u32 0 ∧ H = H') := by
  refine Ct.mk Try.func17 rfl Try.ntmps17 rfl ?_
  intro W0 hW0
  have o0 : Old H H := Old.refl H
  refine KC.seq ?_
  refine KC.region ?_
  refine KL.op (R.assign rfl rfl) rfl rfl rfl ?_
  refine KL.nil ?_
  refine KQ.seq ?_
  refine KC.seq ?_
  refine KC.seq ?_
  refine KC.region ?_
  refine KL.op (R.move rfl rfl) rfl rfl rfl ?_
  refine KL.op (R.eqlP rfl Try.underlying25 rfl rfl) rfl rfl rfl ?_
  refine KL.nil ?_
  refine KQ.seq ?_
  refine KC.condT rfl ?_
  refine KC.seq ?_
  refine KC.region ?_
  refine KL.op (R.assign rfl rfl) rfl rfl rfl ?_
  refine KL.nil ?_
  refine KQ.seq ?_
  refine KC.ret ?_
  refine KQ.retThen ?_
  refine KQ.ofRet ?_
  refine KQ.fin1 Try.results17 rfl ?_
  exact ⟨rfl, rfl⟩


def growOk (bs : List Int) (most n : Int) : Prop := n ≤ most - (bs.length : Int) / 65536

set_option maxRecDepth 100000 in
set_option maxHeartbeats 4000000 in
theorem Grow_any {H : Heap} (g : Nat) (v : Value) (bs : List Int) (most : Int) (h : MAt 65 .u32 H g v bs most) (n : Int) (r : InR .u32 n) : Ct Try.prog 16 [.pointer (some ⟨g, 0, none⟩), .int .u32 n] H (fun u H' => (growOk bs most n ∧ u = .int .u32 ((bs.length : Int) / 65536) ∧ ∃ v', MAt 65 .u32 H' g v' (bs ++ zeros n) most ∧ Fr g v H H' ∧ Nx H v v') ∨ (¬ growOk bs most n ∧ u = .int .u32 4294967295 ∧ H = H')) := by
  refine Ct.mk Try.func16 rfl Try.ntmps16 rfl ?_
  intro W0 hW0
  have o0 : OldB 0 H H := OldB.refl _ H
  have hb := h.b
  have hw := h.w
  have hn := h.n
  have hs := hw.sl (emptyOld _) (by decide)
  have hgl := h.lt
  dsimp only [InR] at r
  refine KC.seq ?_
  refine KC.region ?_
  refine KL.op (R.assign rfl rfl) rfl rfl rfl ?_
  refine KL.nil ?_
  refine KQ.seq ?_
  refine KC.seq ?_
  refine KC.region ?_
  refine KL.op (R.move rfl rfl) rfl rfl rfl ?_
  refine KL.call rfl rfl rfl rfl Try.call17 rfl rfl rfl (Pages_any _ _ _ _ h) ?_
  rintro _ _ ⟨rfl, rfl⟩
  refine KL.op (R.assign rfl rfl) rfl rfl rfl ?_
  refine KL.nil ?_
  refine KQ.seq ?_
  refine KC.seq ?_
  refine KC.seq ?_
  refine KC.region ?_
  refine KL.op (R.move rfl rfl) rfl rfl rfl ?_
  refine KL.op (R.eqlP rfl Try.underlying25 rfl rfl) rfl rfl rfl ?_
  refine KL.op (R.move rfl rfl) rfl rfl rfl ?_
  refine KL.op (R.move rfl rfl) rfl rfl rfl ?_
  refine KL.op (R.move rfl rfl) rfl rfl rfl ?_
  refine KL.op (R.nilCheck rfl rfl) rfl rfl rfl ?_
  refine KL.op ((by first | exact R.fieldAddr rfl Try.underlying65 rfl rfl sz23 rfl | exact R.fieldAddrP rfl Try.underlying65 rfl rfl sz23 rfl)) rfl rfl rfl ?_
  refine KL.op (R.load rfl Try.underlying23 rfl rfl (by first | exact cell_of hb rfl | assumption)) rfl rfl rfl ?_
  refine KL.op (R.move rfl rfl) rfl rfl rfl ?_
  refine KL.op (R.sub rfl rfl rfl (by dsimp only [InR]; omega)) rfl rfl rfl ?_
  refine KL.op (R.gtr rfl rfl rfl) rfl rfl rfl ?_
  refine KL.op (R.pick rfl rfl rfl) rfl rfl rfl ?_
  refine KL.nil ?_
  refine KQ.seq ?_
  refine KC.iteL rfl ?_ ?_
  · intro hc19
    try simp only [decide_eq_true_eq, decide_eq_false_iff_not, Bool.not_eq_true', Bool.not_eq_false', Bool.and_eq_true, Bool.or_eq_false_iff] at hc19
    refine KC.seq ?_
    refine KC.region ?_
    refine KL.op (R.assign rfl rfl) rfl rfl rfl ?_
    refine KL.nil ?_
    refine KQ.seq ?_
    refine KC.ret ?_
    refine KQ.retThen ?_
    refine KQ.ofRet ?_
    refine KQ.fin1 Try.results16 rfl ?_
    first
      | exact .inr ⟨by unfold growOk; omega, rfl, rfl⟩
      | (refine .inl ⟨by unfold growOk; omega, rfl, _, ⟨hb, hw, hne, ?_⟩, ⟨by omega, fun k hk h1 h2 => ?_⟩, by assumption⟩
         · rw [List.length_append, zeros_length]; omega
         · rename_i u2 _ ; exact (u2.2 k h1).trans (gr.2 k hk h2))
  · intro hc19
    try simp only [decide_eq_true_eq, decide_eq_false_iff_not, Bool.not_eq_true', Bool.not_eq_false', Bool.and_eq_true, Bool.or_eq_false_iff] at hc19
    refine KC.skip ?_
    refine KQ.seq ?_
    refine KC.seq ?_
    refine KC.region ?_
    refine KL.op (R.move rfl rfl) rfl rfl rfl ?_
    refine KL.op (R.move rfl rfl) rfl rfl rfl ?_
    refine KL.op (R.nilCheck rfl rfl) rfl rfl rfl ?_
    refine KL.op ((by first | exact R.fieldAddr rfl Try.underlying65 rfl rfl sz22 rfl | exact R.fieldAddrP rfl Try.underlying65 rfl rfl sz22 rfl)) rfl rfl rfl ?_
    refine KL.op (R.load rfl Try.underlying22 rfl rfl (by first | exact cell_of hb rfl | assumption)) rfl rfl rfl ?_
    refine KL.op (R.move rfl rfl) rfl rfl rfl ?_
    refine KL.op (R.convI rfl Try.underlying23 Try.underlying3 rfl (by dsimp only [InR]; omega)) rfl rfl rfl ?_
    refine KL.op (R.mul rfl rfl rfl (by dsimp only [InR]; omega)) rfl rfl rfl ?_
    have lt1 := hw.lt
    refine KL.opM (M.appendZ (k := (n * 65536).toNat) rfl Try.underlying22 Try.underlying3 inf5 rfl rfl rfl rfl (by omega) hw (⟨rfl, by dsimp only [InR]; omega⟩) (by omega) (by omega) (by unfold maxLen; omega)) rfl rfl rfl ?_
    rintro vn H1 ⟨w1, g1, nx1⟩
    have ob1 := g1.oldB hw (by omega)
    have o0 := o0.trans (ob1.mono (by omega))
    have z1 := ob1.1
    have hb := (g1.2 _ (blk_lt hb) (by first | exact .inr (by omega) | exact .inl rfl | exact h.d.imp id (fun h e => h e.symm) | exact hne | exact lt1.imp id (fun h => by omega))).trans hb
    have hw := w1
    have hne : vn = .slice none 0 0 ∨ vblock vn ≠ g := (by
      rcases nx1 with h1 | ⟨h1, h2⟩ | h1
      · exact .inl h1
      · exact .inr (by rw [h2]; exact h.d.resolve_left h1)
      · exact .inr (by omega))
    have gr := g1
    refine KL.op (R.nilCheck rfl rfl) rfl rfl rfl ?_
    refine KL.op ((by first | exact R.fieldAddr rfl Try.underlying65 rfl rfl sz22 rfl | exact R.fieldAddrP rfl Try.underlying65 rfl rfl sz22 rfl)) rfl rfl rfl ?_
    refine KL.opS (S.store rfl sz22 rfl rfl hw.cells1 hw.one hb (by simp)) rfl rfl ?_
    rintro H2 ⟨u2, b2⟩
    have o0 := o0.trans (OldB.upd u2 (by omega))
    have zu2 := u2.1
    have hw := hw.upd u2 (by first | exact .inr (by omega) | exact h.d.imp id (fun h e => h e.symm) | exact hne | exact hw.lt.imp id (fun h => by omega))
    have hb := b2
    refine KL.nil ?_
    refine KQ.seq ?_
    refine KC.seq ?_
    refine KC.region ?_
    refine KL.op (R.move rfl rfl) rfl rfl rfl ?_
    refine KL.op (R.assign rfl rfl) rfl rfl rfl ?_
    refine KL.nil ?_
    refine KQ.seq ?_
    refine KC.ret ?_
    refine KQ.ofRet ?_
    refine KQ.fin1 Try.results16 rfl ?_
    first
      | exact .inr ⟨by unfold growOk; omega, rfl, rfl⟩
      | (refine .inl ⟨by unfold growOk; omega, rfl, _, ⟨hb, hw, hne, ?_⟩, ⟨by omega, fun k hk h1 h2 => ?_⟩, by assumption⟩
         · rw [List.length_append, zeros_length]; omega
         · rename_i u2 _ ; exact (u2.2 k h1).trans (gr.2 k hk h2))

set_option maxRecDepth 100000 in
set_option maxHeartbeats 4000000 in
theorem Grow_nil {H : Heap} (n : Int) : Ct Try.prog 16 [.pointer none, .int .u32 n] H (fun u H' => u = .int .u32 4294967295 ∧ H = H') := by
  refine Ct.mk Try.func16 rfl Try.ntmps16 rfl ?_
  intro W0 hW0
  have o0 : Old H H := Old.refl H
  refine KC.seq ?_
  refine KC.region ?_
  refine KL.op (R.assign rfl rfl) rfl rfl rfl ?_
  refine KL.nil ?_
  refine KQ.seq ?_
  refine KC.seq ?_
  refine KC.region ?_
  refine KL.op (R.move rfl rfl) rfl rfl rfl ?_
  refine KL.call rfl rfl rfl rfl Try.call17 rfl rfl rfl (Pages_nil) ?_
  rintro _ _ ⟨rfl, rfl⟩
  refine KL.op (R.assign rfl rfl) rfl rfl rfl ?_
  refine KL.nil ?_
  refine KQ.seq ?_
  refine KC.seq ?_
  refine KC.seq ?_
  refine KC.region ?_
  refine KL.op (R.move rfl rfl) rfl rfl rfl ?_
  refine KL.op (R.eqlP rfl Try.underlying25 rfl rfl) rfl rfl rfl ?_
  refine KL.op (R.move rfl rfl) rfl rfl rfl ?_
  refine KL.skip rfl rfl rfl ?_
  refine KL.skip rfl rfl rfl ?_
  refine KL.skip rfl rfl rfl ?_
  refine KL.skip rfl rfl rfl ?_
  refine KL.skip rfl rfl rfl ?_
  refine KL.skip rfl rfl rfl ?_
  refine KL.skip rfl rfl rfl ?_
  refine KL.skip rfl rfl rfl ?_
  refine KL.op (R.pick rfl rfl rfl) rfl rfl rfl ?_
  refine KL.nil ?_
  refine KQ.seq ?_
  refine KC.condT rfl ?_
  refine KC.seq ?_
  refine KC.region ?_
  refine KL.op (R.assign rfl rfl) rfl rfl rfl ?_
  refine KL.nil ?_
  refine KQ.seq ?_
  refine KC.ret ?_
  refine KQ.retThen ?_
  refine KQ.ofRet ?_
  refine KQ.fin1 Try.results16 rfl ?_
  exact ⟨rfl, rfl⟩

set_option maxRecDepth 100000 in
set_option maxHeartbeats 4000000 in
theorem Copy_any {H : Heap} (g : Nat) (v : Value) (bs : List Int) (most : Int) (h : MAt 65 .u32 H g v bs most) : Ct Try.prog 18 [.pointer (some ⟨g, 0, none⟩)] H (fun u H' => ∃ g' v', u = .pointer (some ⟨g', 0, none⟩) ∧ MAt 65 .u32 H' g' v' bs most ∧ Fresh H.size g' v' ∧ Old H H') := by
  refine Ct.mk Try.func18 rfl Try.ntmps18 rfl ?_
  intro W0 hW0
  have o0 : Old H H := Old.refl H
  have hb := h.b
  have hw := h.w
  have hn := h.n
  have hs := hw.sl (emptyOld _) (by decide)
  refine KC.seq ?_
  refine KC.region ?_
  refine KL.op (R.assign rfl rfl) rfl rfl rfl ?_
  refine KL.nil ?_
  refine KQ.seq ?_
  refine KC.seq ?_
  refine KC.seq ?_
  refine KC.region ?_
  refine KL.op (R.move rfl rfl) rfl rfl rfl ?_
  refine KL.op (R.eqlP rfl Try.underlying25 rfl rfl) rfl rfl rfl ?_
  refine KL.nil ?_
  refine KQ.seq ?_
  refine KC.condF rfl ?_
  refine KC.skip ?_
  refine KQ.seq ?_
  refine KC.seq ?_
  have os : Old H H := Old.refl _
  have ob := o0
  have hbS := hb
  refine KC.text (clOf [(4, 2), (10, 2)]) (fun _ Hc => Old H Hc) (by kernel_rfl) (by kernel_rfl) (fun _ => Old.refl _) ?_
  refine KP.op rfl (fun Hg og => by have hb := og.blk hbS; have o0 := ob.trans og; exact R.move rfl rfl) rfl rfl rfl ?_
  refine KP.op rfl (fun Hg og => by have hb := og.blk hbS; have o0 := ob.trans og; exact R.nilCheck rfl rfl) rfl rfl rfl ?_
  refine KP.op rfl (fun Hg og => by have hb := og.blk hbS; have o0 := ob.trans og; exact (by first | exact R.fieldAddr rfl Try.underlying65 rfl rfl sz22 rfl | exact R.fieldAddrP rfl Try.underlying65 rfl rfl sz22 rfl)) rfl rfl rfl ?_
  refine KP.op rfl (fun Hg og => by have hb := og.blk hbS; have o0 := ob.trans og; exact R.load rfl Try.underlying22 rfl rfl (by first | exact cell_of hb rfl | assumption)) rfl rfl rfl ?_
  refine KP.call rfl rfl rfl rfl rfl Try.call29 rfl rfl rfl (Clone_any _ _ (hs.old o0) (by omega)) (fun _ _ h _ _ _ => os.trans h.2) ?_
  rintro x H1 ⟨wx, ox⟩
  have o0 := o0.trans ox
  have os := os.trans ox
  have hb := (ox).blk hb
  have zx := ox.1
  have hx0 := wx.lt
  refine KP.op rfl (fun Hg og => by have hb := og.blk hbS; have o0 := ob.trans og; exact R.move rfl rfl) rfl rfl rfl ?_
  refine KP.op rfl (fun Hg og => by have hb := og.blk hbS; have o0 := ob.trans og; exact R.nilCheck rfl rfl) rfl rfl rfl ?_
  refine KP.op rfl (fun Hg og => by have hb := og.blk hbS; have o0 := ob.trans og; exact (by first | exact R.fieldAddr rfl Try.underlying65 rfl rfl sz23 rfl | exact R.fieldAddrP rfl Try.underlying65 rfl rfl sz23 rfl)) rfl rfl rfl ?_
  refine KP.op rfl (fun Hg og => by have hb := og.blk hbS; have o0 := ob.trans og; exact R.load rfl Try.underlying23 rfl rfl (by first | exact cell_of hb rfl | assumption)) rfl rfl rfl ?_
  refine KP.op rfl (fun Hg og => by have hb := og.blk hbS; have o0 := ob.trans og; exact R.buildL rfl Try.underlying65 zr65 [(0, 1), (1, 1)] (fun w => by kernel_rfl) rfl ⟨⟨_, rfl, rfl⟩, ⟨_, rfl, rfl⟩, trivial⟩ rfl rfl ⟨⟨_, rfl, by first | rfl | exact wx.cells1 | exact wx.cells1⟩, ⟨_, rfl, by first | rfl | exact wx.cells1 | exact wx.cells1⟩, trivial⟩ rfl) rfl rfl rfl ?_
  refine KP.opM rfl (M.box rfl rfl rfl) rfl rfl rfl (fun _ _ h _ _ _ => os.trans h.2.1) ?_
  rintro _ H2 ⟨rfl, n2⟩
  have z2 := n2.2.1
  have o0 := o0.trans n2.1
  have os := os.trans n2.1
  have hb := (n2.1).blk hb
  have wx := wx.old n2.1
  have b2 := n2.2.2
  have bm := b2
  refine KP.op rfl (fun Hg og => by have hb := og.blk hbS; have o0 := ob.trans og; exact R.assign rfl rfl) rfl rfl rfl ?_
  refine KP.nil ?_
  refine KQ.seq ?_
  refine KC.ret ?_
  refine KQ.ofRet ?_
  refine KQ.fin1 Try.results18 rfl ?_
  exact ⟨_, _, rfl, ⟨bm, wx.weak (by omega), hx0.imp id (fun h => by omega), h.n⟩, ⟨by omega, hx0.imp id (fun h => by omega)⟩, o0⟩

set_option maxRecDepth 100000 in
set_option maxHeartbeats 4000000 in
theorem Copy_nil {H : Heap} : Ct Try.prog 18 [.pointer none] H (fun u H' => u = .pointer none ∧ H = H') := by
  refine Ct.mk Try.func18 rfl Try.ntmps18 rfl ?_
  intro W0 hW0
  have o0 : Old H H := Old.refl H
  refine KC.seq ?_
  refine KC.region ?_
  refine KL.op (R.assign rfl rfl) rfl rfl rfl ?_
  refine KL.nil ?_
  refine KQ.seq ?_
  refine KC.seq ?_
  refine KC.seq ?_
  refine KC.region ?_
  refine KL.op (R.move rfl rfl) rfl rfl rfl ?_
  refine KL.op (R.eqlP rfl Try.underlying25 rfl rfl) rfl rfl rfl ?_
  refine KL.nil ?_
  refine KQ.seq ?_
  refine KC.condT rfl ?_
  refine KC.seq ?_
  refine KC.region ?_
  refine KL.op (R.assign rfl rfl) rfl rfl rfl ?_
  refine KL.nil ?_
  refine KQ.seq ?_
  refine KC.ret ?_
  refine KQ.retThen ?_
  refine KQ.ofRet ?_
  refine KQ.fin1 Try.results18 rfl ?_
  exact ⟨rfl, rfl⟩

set_option maxRecDepth 100000 in
set_option maxHeartbeats 4000000 in
theorem one_any {H : Heap} : Ct Try.prog 9 [] H (fun u H' => ∃ g v, u = .pointer (some ⟨g, 0, none⟩) ∧ MAt 65 .u32 H' g v (zeros 1) 16 ∧ Fresh H.size g v ∧ Old H H') := by
  refine Ct.mk Try.func9 rfl Try.ntmps9 rfl ?_
  intro W0 hW0
  have o0 : Old H H := Old.refl H
  refine KC.seq ?_
  refine KC.region ?_
  refine KL.op (R.assign rfl rfl) rfl rfl rfl ?_
  refine KL.nil ?_
  refine KQ.seq ?_
  refine KC.seq ?_
  refine KC.region ?_
  refine KL.op (R.buildL rfl Try.underlying42 zr42 [(0, 1), (1, 1)] (fun w => by kernel_rfl) rfl ⟨⟨_, rfl, rfl⟩, ⟨_, rfl, rfl⟩, trivial⟩ rfl rfl ⟨⟨_, rfl, by first | rfl⟩, ⟨_, rfl, by first | rfl⟩, trivial⟩ rfl) rfl rfl rfl ?_
  refine KL.call rfl rfl rfl rfl Try.call15 rfl rfl rfl (New_any 1 (-1) (by dsimp only [InR]; omega) (by dsimp only [InR]; omega)) ?_
  rintro u H1 ⟨ox, hR⟩
  obtain ⟨g, v, rfl, hm, hf⟩ : ∃ g v, u = .tuple #[.pointer (some ⟨g, 0, none⟩), .int .i64 0] ∧ MAt 65 .u32 H1 g v (zeros 1) (newM (-1)) ∧ Fresh (H).size g v := (by
    rcases hR with ⟨-, h⟩ | ⟨h, -⟩
    · exact h
    · exact absurd (by unfold newOk; omega) h)
  have hm : MAt 65 .u32 H1 g v (zeros 1) 16 := hm
  have o0 := o0.trans ox
  refine KL.op (R.move rfl rfl) rfl rfl rfl ?_
  refine KL.op (R.extract rfl rfl rfl) rfl rfl rfl ?_
  refine KL.op (R.extract rfl rfl rfl) rfl rfl rfl ?_
  refine KL.op (R.assign rfl rfl) rfl rfl rfl ?_
  refine KL.op (R.assign rfl rfl) rfl rfl rfl ?_
  refine KL.nil ?_
  refine KQ.seq ?_
  refine KC.seq ?_
  refine KC.region ?_
  refine KL.op (R.move rfl rfl) rfl rfl rfl ?_
  refine KL.op (R.assign rfl rfl) rfl rfl rfl ?_
  refine KL.nil ?_
  refine KQ.seq ?_
  refine KC.ret ?_
  refine KQ.ofRet ?_
  refine KQ.fin1 Try.results9 rfl ?_
  exact ⟨_, _, rfl, hm, hf, o0⟩

set_option maxRecDepth 100000 in
set_option maxHeartbeats 4000000 in
theorem is_any {H : Heap} (g : Nat) (v : Value) (bs : List Int) (most : Int) (h : MAt 65 .u32 H g v bs most) (op at_ x : Int) (r4 : InR .u8 op) (r2 : InR .u32 at_) : Ct Try.prog 26 [.pointer (some ⟨g, 0, none⟩), .int .u8 op, .int .u32 at_, .int .u64 x] H (fun u H' => u = .bool (decide (inA bs 40 53 op (at_ + 0)) && decide (loadX bs op (at_ + 0) = x)) ∧ Old H H') := by
  refine Ct.mk Try.func26 rfl Try.ntmps26 rfl ?_
  intro W0 hW0
  have o0 : Old H H := Old.refl H
  refine KC.seq ?_
  refine KC.region ?_
  refine KL.op (R.assign rfl rfl) rfl rfl rfl ?_
  refine KL.nil ?_
  refine KQ.seq ?_
  refine KC.seq ?_
  refine KC.region ?_
  refine KL.op (R.move rfl rfl) rfl rfl rfl ?_
  refine KL.op (R.move rfl rfl) rfl rfl rfl ?_
  refine KL.op (R.move rfl rfl) rfl rfl rfl ?_
  refine KL.call rfl rfl rfl rfl Try.call12 rfl rfl rfl (Load_any _ _ _ _ h _ _ _ r4 r2 (by dsimp only [InR]; omega)) ?_
  rintro _ H1 ⟨rfl, ox⟩
  have o0 := o0.trans ox
  refine KL.op (R.move rfl rfl) rfl rfl rfl ?_
  refine KL.op (R.extract rfl rfl rfl) rfl rfl rfl ?_
  refine KL.op (R.extract rfl rfl rfl) rfl rfl rfl ?_
  refine KL.op (R.assign rfl rfl) rfl rfl rfl ?_
  refine KL.op (R.assign rfl rfl) rfl rfl rfl ?_
  refine KL.nil ?_
  refine KQ.seq ?_
  refine KC.seq ?_
  refine KC.region ?_
  refine KL.op (R.move rfl rfl) rfl rfl rfl ?_
  refine KL.op (R.move rfl rfl) rfl rfl rfl ?_
  refine KL.case (d := 19) rfl ?_ ?_
  · intro hg19
    try simp only [decide_eq_true_eq, decide_eq_false_iff_not, Bool.not_eq_true', Bool.not_eq_false', Bool.and_eq_true, Bool.or_eq_false_iff] at hg19
    refine KL.op (R.move rfl rfl) rfl rfl rfl ?_
    refine KL.op (R.move rfl rfl) rfl rfl rfl ?_
    refine KL.op (R.eql rfl rfl rfl) rfl rfl rfl ?_
    refine KL.op (R.pick rfl rfl rfl) rfl rfl rfl ?_
    refine KL.op (R.assign rfl rfl) rfl rfl rfl ?_
    refine KL.nil ?_
    refine KQ.seq ?_
    refine KC.ret ?_
    refine KQ.ofRet ?_
    refine KQ.fin1 Try.results26 rfl ?_
    refine ⟨?_, o0⟩
    first
      | rw [decide_eq_false hg19]; rfl
      | rw [decide_eq_true hg19]; rfl
  · intro hg19
    try simp only [decide_eq_true_eq, decide_eq_false_iff_not, Bool.not_eq_true', Bool.not_eq_false', Bool.and_eq_true, Bool.or_eq_false_iff] at hg19
    refine KL.skip rfl rfl rfl ?_
    refine KL.skip rfl rfl rfl ?_
    refine KL.skip rfl rfl rfl ?_
    refine KL.op (R.pick rfl rfl rfl) rfl rfl rfl ?_
    refine KL.op (R.assign rfl rfl) rfl rfl rfl ?_
    refine KL.nil ?_
    refine KQ.seq ?_
    refine KC.ret ?_
    refine KQ.ofRet ?_
    refine KQ.fin1 Try.results26 rfl ?_
    refine ⟨?_, o0⟩
    first
      | rw [decide_eq_false hg19]; rfl
      | rw [decide_eq_true hg19]; rfl

end Go.Proofs.Ytdefjpakpgchhaa
