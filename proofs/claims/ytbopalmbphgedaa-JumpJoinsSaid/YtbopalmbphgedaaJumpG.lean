/- gabellelaw19.JumpTells, walked. No condition but the law that is shown behind. -/
import Derived.Test.YtbopalmbphgedaaJumpF
namespace Go.Proofs.Ytbopalmbphgedaa
open Go Go.RowKit
set_option linter.unusedVariables false
set_option linter.unusedSimpArgs false
set_option linter.unnecessarySimpa false

/-- what is to be shown of the program's answer and the document's -/
def TellsLaw (l : List Ins) : Prop :=
  (∀ s, JS.of l = some s → s.Ok l.length ∧ rCl l l.length 0 0 0 = (true, s.dp) ∧ ∀ i, i < l.length →
    (isOpn (l.getD i default).op → ∃ e : Nat, i < e ∧ e < l.length ∧ rEnd l (l.length - (i + 1)) (i + 1) 1 = e ∧ rd s.en i = e ∧ rd s.el i = (rElses l (e - (i + 1)) (i + 1) 0).headD (-1) ∧ rd s.op i = -1) ∧
    ((l.getD i default).op = 5 → rd s.en i = rEnd l (l.length - (i + 1)) (i + 1) 1 ∧ rd s.el i = -1 ∧ rd s.op i = rOwner l i 0) ∧
    ((l.getD i default).op = 11 → rd s.en i = -1 ∧ rd s.el i = -1 ∧ rd s.op i = rOwner l i 0) ∧
    (¬ isOpn (l.getD i default).op → (l.getD i default).op ≠ 5 → (l.getD i default).op ≠ 11 → rd s.en i = -1 ∧ rd s.el i = -1 ∧ rd s.op i = -1)) ∧
  (JS.of l = none → (rCl l l.length 0 0 0).1 = false)
theorem headD_pos {L : List Int} (h : 0 < L.length) : L.headD (-1) = L.getD 0 default := by
  cases L with
  | nil => simp at h
  | cons a r => rfl
theorem headD_zero {L : List Int} (h : ¬ 0 < L.length) : L.headD (-1) = -1 := by
  cases L with
  | nil => rfl
  | cons a r => simp at h

set_option maxRecDepth 100000 in
set_option maxHeartbeats 4000000 in
theorem JumpTells_any {H : Heap} (v : Value) (l : List Ins) (hs : Sl 5 EIns H v l) (law : TellsLaw l) : Ct Try.prog 4 [v] H (fun u H' => u = .bool true ∧ Old H H') := by
  refine Ct.mk Try.func4 rfl Try.ntmps4 rfl ?_
  intro W0 hW0
  have o0 : Old H H := Old.refl H
  have hll := hs.len
  refine KC.seq ?_
  refine KC.region ?_
  refine KL.op (R.assign rfl rfl) rfl rfl rfl ?_
  refine KL.nil ?_
  refine KQ.seq ?_
  refine KC.seq ?_
  refine KC.seq ?_
  refine KC.region ?_
  refine KL.op (R.move rfl rfl) rfl rfl rfl ?_
  refine KL.op ((by first | exact R.lenS rfl Try.underlying27 rfl (by first | exact hs.old o0 | assumption) | exact R.len (ty := 0) rfl Try.underlying27 rfl)) rfl rfl rfl ?_
  refine KL.op (R.gtr rfl rfl rfl) rfl rfl rfl ?_
  refine KL.nil ?_
  refine KQ.seq ?_
  refine KC.iteL rfl ?_ ?_
  · intro hc15
    try simp only [decide_eq_true_eq, decide_eq_false_iff_not, Bool.not_eq_true', Bool.not_eq_false', Bool.and_eq_true, Bool.or_eq_false_iff] at hc15
    refine KC.seq ?_
    refine KC.region ?_
    refine KL.call rfl rfl rfl rfl Try.call9 rfl rfl rfl (works_any) ?_
    rintro _ H1 ⟨rfl, ox⟩
    have o0 := o0.trans ox
    refine KL.op (R.assign rfl rfl) rfl rfl rfl ?_
    refine KL.nil ?_
    refine KQ.seq ?_
    refine KC.ret ?_
    refine KQ.retThen ?_
    refine KQ.ofRet ?_
    refine KQ.fin1 Try.results4 rfl ?_
    exact ⟨rfl, o0⟩
  · intro hc15
    try simp only [decide_eq_true_eq, decide_eq_false_iff_not, Bool.not_eq_true', Bool.not_eq_false', Bool.and_eq_true, Bool.or_eq_false_iff] at hc15
    refine KC.skip ?_
    refine KQ.seq ?_
    refine KC.seq ?_
    refine KC.region ?_
    refine KL.op (R.move rfl rfl) rfl rfl rfl ?_
    refine KL.call rfl rfl rfl rfl Try.call7 rfl rfl rfl (Of_any _ _ (hs.old o0) (by omega)) ?_
    rintro _ H2 ⟨ox, hR⟩
    have o0 := o0.trans ox
    rcases hR with ⟨s, g, hof, rfl, hj⟩ | ⟨hof, rfl⟩
    · skip
      obtain ⟨hok, hcl, hlaw⟩ := law.1 s hof
      refine KL.op (R.move rfl rfl) rfl rfl rfl ?_
      refine KL.op (R.extract rfl rfl rfl) rfl rfl rfl ?_
      refine KL.op (R.extract rfl rfl rfl) rfl rfl rfl ?_
      refine KL.op (R.assign rfl rfl) rfl rfl rfl ?_
      refine KL.op (R.assign rfl rfl) rfl rfl rfl ?_
      refine KL.nil ?_
      refine KQ.seq ?_
      refine KC.seq ?_
      refine KC.region ?_
      refine KL.op (R.move rfl rfl) rfl rfl rfl ?_
      refine KL.call rfl rfl rfl rfl Try.call15 rfl rfl rfl (rCl_any _ _ (hs.old o0) (by omega)) ?_
      rintro _ H3 ⟨rfl, ox⟩
      rw [hcl]
      have o0 := o0.trans ox
      have hj := hj.old ox
      refine KL.op (R.move rfl rfl) rfl rfl rfl ?_
      refine KL.op (R.extract rfl rfl rfl) rfl rfl rfl ?_
      refine KL.op (R.extract rfl rfl rfl) rfl rfl rfl ?_
      refine KL.op (R.assign rfl rfl) rfl rfl rfl ?_
      refine KL.op (R.assign rfl rfl) rfl rfl rfl ?_
      refine KL.nil ?_
      refine KQ.seq ?_
      refine KC.seq ?_
      refine KC.seq ?_
      refine KC.region ?_
      refine KL.op (R.move rfl rfl) rfl rfl rfl ?_
      refine KL.op (R.move rfl rfl) rfl rfl rfl ?_
      refine KL.op ((R.neqB rfl Try.underlying4 rfl rfl).val (congrArg Value.bool (show _ = false from rfl))) rfl rfl rfl ?_
      refine KL.op (R.move rfl rfl) rfl rfl rfl ?_
      refine KL.op (R.move rfl rfl) rfl rfl rfl ?_
      refine KL.op (R.neqP rfl Try.underlying24 rfl rfl) rfl rfl rfl ?_
      refine KL.op (R.move rfl rfl) rfl rfl rfl ?_
      refine KL.op ((R.neqB rfl Try.underlying4 rfl rfl).val (congrArg Value.bool (show _ = false from rfl))) rfl rfl rfl ?_
      refine KL.op (R.pick rfl rfl rfl) rfl rfl rfl ?_
      refine KL.nil ?_
      refine KQ.seq ?_
      refine KC.condF rfl ?_
      refine KC.skip ?_
      refine KQ.seq ?_
      refine KC.seq ?_
      refine KC.seq ?_
      refine KC.region ?_
      refine KL.op (R.move rfl rfl) rfl rfl rfl ?_
      refine KL.op (R.not rfl rfl) rfl rfl rfl ?_
      refine KL.nil ?_
      refine KQ.seq ?_
      refine KC.condF rfl ?_
      refine KC.skip ?_
      refine KQ.seq ?_
      refine KC.seq ?_
      refine KC.seq ?_
      refine KC.region ?_
      refine KL.op (R.move rfl rfl) rfl rfl rfl ?_
      refine KL.call rfl rfl rfl rfl Try.call10 rfl rfl rfl (Len_any _ _ _ _ _ hj) ?_
      rintro _ _ ⟨rfl, rfl⟩
      refine KL.op (R.move rfl rfl) rfl rfl rfl ?_
      refine KL.op ((by first | exact R.lenS rfl Try.underlying27 rfl (by first | exact hs.old o0 | exact hj | assumption) | exact R.len (ty := 0) rfl Try.underlying27 rfl)) rfl rfl rfl ?_
      refine KL.op ((R.neq rfl rfl rfl).val ((congrArg (fun b => Value.bool (!b)) (decide_eq_true (by (have := hok.en; omega)))))) rfl rfl rfl ?_
      refine KL.op (R.move rfl rfl) rfl rfl rfl ?_
      refine KL.op (R.move rfl rfl) rfl rfl rfl ?_
      refine KL.call rfl rfl rfl rfl Try.call11 rfl rfl rfl (Depth_any _ _ _ _ _ hj) ?_
      rintro _ _ ⟨rfl, rfl⟩
      refine KL.op (R.move rfl rfl) rfl rfl rfl ?_
      refine KL.op ((R.neq rfl rfl rfl).val ((congrArg (fun b => Value.bool (!b)) (decide_eq_true (by rfl))))) rfl rfl rfl ?_
      refine KL.op (R.pick rfl rfl rfl) rfl rfl rfl ?_
      refine KL.op (R.move rfl rfl) rfl rfl rfl ?_
      refine KL.op (R.move rfl rfl) rfl rfl rfl ?_
      refine KL.op (R.move rfl rfl) rfl rfl rfl ?_
      refine KL.op ((by first | exact R.lenS rfl Try.underlying27 rfl (by first | exact hs.old o0 | exact hj | assumption) | exact R.len (ty := 0) rfl Try.underlying27 rfl)) rfl rfl rfl ?_
      refine KL.call rfl rfl rfl rfl Try.call12 rfl rfl rfl (End_any _ _ _ _ _ _ hj) ?_
      rintro _ _ ⟨rfl, rfl⟩
      refine KL.op ((R.neq rfl rfl rfl).val ((congrArg (fun b => Value.bool (!b)) (decide_eq_true (by unfold rd; rw [if_neg (by have := hok.en; omega)]))))) rfl rfl rfl ?_
      refine KL.op (R.pick rfl rfl rfl) rfl rfl rfl ?_
      refine KL.op (R.move rfl rfl) rfl rfl rfl ?_
      refine KL.op (R.move rfl rfl) rfl rfl rfl ?_
      refine KL.call rfl rfl rfl rfl Try.call12 rfl rfl rfl (End_any _ _ _ _ _ _ hj) ?_
      rintro _ _ ⟨rfl, rfl⟩
      refine KL.op ((R.neq rfl rfl rfl).val ((congrArg (fun b => Value.bool (!b)) (decide_eq_true (by unfold rd; rw [if_neg (by omega)]))))) rfl rfl rfl ?_
      refine KL.op (R.pick rfl rfl rfl) rfl rfl rfl ?_
      refine KL.nil ?_
      refine KQ.seq ?_
      refine KC.condF rfl ?_
      refine KC.skip ?_
      refine KQ.seq ?_
      refine KC.seq ?_
      refine KC.seq ?_
      refine KC.region ?_
      refine KL.op (R.move rfl rfl) rfl rfl rfl ?_
      refine KL.op ((by first | exact R.lenS rfl Try.underlying27 rfl (by first | exact hs.old o0 | exact hj | assumption) | exact R.len (ty := 0) rfl Try.underlying27 rfl)) rfl rfl rfl ?_
      refine KL.op (R.move rfl rfl) rfl rfl rfl ?_
      refine KL.nil ?_
      refine KQ.seq ?_
      refine KC.block ?_
      refine KC.loopD (κ := Nat) [65, 66, 67, 68, 8, 7, 9, 10, 11, 70, 71, 72, 69, 73, 74, 75, 76, 77, 78, 79, 80, 12, 81, 82, 83, 84, 85, 86, 88, 89, 90, 87, 91, 92, 93, 94, 95, 96, 97, 99, 100, 101, 98, 102, 103, 104, 105, 106, 107, 108, 109, 110, 111, 112, 113, 114, 115, 116, 117, 118, 119, 120, 121, 122, 123, 2, 124, 64] (fun k => [(64, .int .i64 (k : Nat))]) (fun k Hl => k ≤ l.length ∧ Old H Hl ∧ JM Hl g s.en s.el s.op s.dp) (fun k => l.length - k) 0 ?_ ?_ ?_
      · exact (Sub.cons rfl (Ext.sub (Ext.refl _ _)))
      · exact ⟨Nat.zero_le _, o0, hj⟩
      · rintro k H4 ⟨hk, o0, hj⟩
        have zl_H4 := o0.1
        have oK : Old H4 H4 := Old.refl _
        have hj0 := hj
        have zK := Nat.le_refl (Array.size H4)
        refine KC.seq ?_
        refine KC.region ?_
        refine KL.op (R.lss rfl rfl rfl) rfl rfl rfl ?_
        refine KL.nil ?_
        refine KQ.seq ?_
        refine KC.seq ?_
        refine KC.iteL rfl ?_ ?_
        · intro hc65
          try simp only [decide_eq_true_eq, decide_eq_false_iff_not, Bool.not_eq_true', Bool.not_eq_false', Bool.and_eq_true, Bool.or_eq_false_iff] at hc65
          obtain ⟨u, hcx, hu, q0, q1, q2, q3⟩ := (hs.old o0).insAt k (by omega)
          obtain ⟨hl1, hl2, hl3, hl4⟩ := hlaw k (by omega)
          refine KC.skip ?_
          refine KQ.seq ?_
          refine KC.seq ?_
          refine KC.block ?_
          refine KC.seq ?_
          refine KC.region ?_
          refine KL.op (R.move rfl rfl) rfl rfl rfl ?_
          refine KL.op (R.index (j := k) rfl Try.underlying27 sz37 rfl rfl (hs.old o0) rfl (by omega)) rfl rfl rfl ?_
          refine KL.op (R.loadAgg rfl Try.underlying37 rfl sz37 rfl hcx rfl) rfl rfl rfl ?_
          refine KL.opM (M.alloc rfl zr37 rfl) rfl rfl rfl ?_
          rintro _ H5 ⟨rfl, n5⟩
          have z5 := n5.2.1
          have o0 := o0.trans n5.1
          have hj := hj.old n5.1
          have oK := oK.trans n5.1
          have b5 := n5.2.2
          have bx := b5
          refine KL.op (R.assign rfl rfl) rfl rfl rfl ?_
          refine KL.opS (S.storeAgg rfl sz37 rfl rfl rfl (by intro q hq; simp only [List.mem_cons, List.not_mem_nil, or_false] at hq; rcases hq with rfl | rfl | rfl | rfl | rfl <;> first | rfl | exact hu.one) bx (by simp)) rfl rfl ?_
          rintro H6 ⟨u6, b6⟩
          have o0 := o0.upd u6 (by omega)
          have zu6 := u6.1
          have oK := oK.upd u6 (by omega)
          have bx := b6
          have hj := hj0.old oK
          refine KL.nil ?_
          refine KQ.seq ?_
          refine KC.seq ?_
          refine KC.region ?_
          refine KL.op (R.assign rfl rfl) rfl rfl rfl ?_
          refine KL.op (R.assign rfl rfl) rfl rfl rfl ?_
          refine KL.op (R.assign rfl rfl) rfl rfl rfl ?_
          refine KL.nil ?_
          refine KQ.seq ?_
          refine KC.seq ?_
          refine KC.block ?_
          refine KC.seq ?_
          refine KC.region ?_
          refine KL.op ((by first | exact R.fieldAddr rfl Try.underlying37 rfl rfl sz5 rfl | exact R.fieldAddrP rfl Try.underlying37 rfl rfl sz5 rfl)) rfl rfl rfl ?_
          refine KL.op (R.load rfl Try.underlying5 rfl rfl (by first | exact cell_of bx rfl | exact (wv.int 0 (by omega)).1 | assumption)) rfl rfl rfl ?_
          refine KL.call rfl rfl rfl rfl Try.call16 rfl rfl rfl (rOpens_any _) ?_
          rintro _ _ ⟨rfl, rfl⟩
          refine KL.op (R.assign rfl rfl) rfl rfl rfl ?_
          refine KL.nil ?_
          refine KQ.seq ?_
          refine KC.iteL rfl ?_ ?_
          · intro hc69
            try simp only [decide_eq_true_eq, decide_eq_false_iff_not, Bool.not_eq_true', Bool.not_eq_false', Bool.and_eq_true, Bool.or_eq_false_iff] at hc69
            obtain ⟨e, he1, he2, hre, hen, hel, hop⟩ := hl1 hc69
            refine KC.seq ?_
            refine KC.region ?_
            refine KL.op (R.move rfl rfl) rfl rfl rfl ?_
            refine KL.op (R.move rfl rfl) rfl rfl rfl ?_
            refine KL.op ((R.add rfl rfl rfl (by dsimp only [InR]; omega)).val (congrArg (Value.int .i64) (show (k : Int) + 1 = ((k + 1 : Nat) : Int) by omega))) rfl rfl rfl ?_
            refine KL.call rfl rfl rfl rfl Try.call17 rfl rfl rfl (rEnd_any _ _ (hs.old o0) (by omega) (k + 1) (by omega)) ?_
            rintro _ _ ⟨rfl, rfl⟩
            rw [hre]
            refine KL.op (R.assign rfl rfl) rfl rfl rfl ?_
            refine KL.nil ?_
            refine KQ.seq ?_
            refine KC.seq ?_
            refine KC.region ?_
            refine KL.op (R.move rfl rfl) rfl rfl rfl ?_
            refine KL.op (R.move rfl rfl) rfl rfl rfl ?_
            refine KL.op (R.move rfl rfl) rfl rfl rfl ?_
            refine KL.call rfl rfl rfl rfl Try.call18 rfl rfl rfl (rElses_any _ _ (hs.old o0) (by omega) k e (by omega) (by omega)) ?_
            rintro w H7 ⟨wv, ox⟩
            have o0 := o0.trans ox
            have oK := oK.trans ox
            have bx := (ox).blk bx
            have hj := hj.old ox
            refine KL.op (R.assign rfl rfl) rfl rfl rfl ?_
            refine KL.nil ?_
            refine KQ.seq ?_
            refine KC.seq ?_
            refine KC.region ?_
            refine KL.op (R.move rfl rfl) rfl rfl rfl ?_
            refine KL.op (R.lenO rfl Try.underlying40 rfl wv) rfl rfl rfl ?_
            refine KL.op (R.gtr rfl rfl rfl) rfl rfl rfl ?_
            refine KL.nil ?_
            refine KQ.seq ?_
            refine KC.iteL rfl ?_ ?_
            · intro hc83
              try simp only [decide_eq_true_eq, decide_eq_false_iff_not, Bool.not_eq_true', Bool.not_eq_false', Bool.and_eq_true, Bool.or_eq_false_iff] at hc83
              refine KC.region ?_
              refine KL.op (R.move rfl rfl) rfl rfl rfl ?_
              refine KL.op (R.indexO1 (j := 0) rfl Try.underlying40 sz3 rfl rfl wv rfl (by omega)) rfl rfl rfl ?_
              refine KL.op (R.load rfl Try.underlying3 rfl rfl (by first | exact cell_of bx rfl | exact (wv.int 0 (by omega)).1 | assumption)) rfl rfl rfl ?_
              refine KL.op (R.assign rfl rfl) rfl rfl rfl ?_
              refine KL.nil ?_
              refine KQ.normBlock ?_
              refine KQ.seq ?_
              refine KC.seq ?_
              refine KC.region ?_
              refine KL.op (R.move rfl rfl) rfl rfl rfl ?_
              refine KL.op (R.move rfl rfl) rfl rfl rfl ?_
              refine KL.call rfl rfl rfl rfl Try.call12 rfl rfl rfl (End_any _ _ _ _ _ _ hj) ?_
              rintro _ _ ⟨rfl, rfl⟩
              refine KL.op (R.move rfl rfl) rfl rfl rfl ?_
              refine KL.op ((R.neq rfl rfl rfl).val ((congrArg (fun b => Value.bool (!b)) (decide_eq_true (by exact hen))))) rfl rfl rfl ?_
              refine KL.op (R.move rfl rfl) rfl rfl rfl ?_
              refine KL.op (R.move rfl rfl) rfl rfl rfl ?_
              refine KL.op (R.move rfl rfl) rfl rfl rfl ?_
              refine KL.call rfl rfl rfl rfl Try.call13 rfl rfl rfl (Else_any _ _ _ _ _ _ hj) ?_
              rintro _ _ ⟨rfl, rfl⟩
              refine KL.op (R.move rfl rfl) rfl rfl rfl ?_
              refine KL.op ((R.neq rfl rfl rfl).val ((congrArg (fun b => Value.bool (!b)) (decide_eq_true (by rw [hel]; first | done | exact headD_pos (by omega) | exact headD_zero (by omega)))))) rfl rfl rfl ?_
              refine KL.op (R.pick rfl rfl rfl) rfl rfl rfl ?_
              refine KL.op (R.move rfl rfl) rfl rfl rfl ?_
              refine KL.op (R.move rfl rfl) rfl rfl rfl ?_
              refine KL.op (R.move rfl rfl) rfl rfl rfl ?_
              refine KL.call rfl rfl rfl rfl Try.call14 rfl rfl rfl (Open_any _ _ _ _ _ _ hj) ?_
              rintro _ _ ⟨rfl, rfl⟩
              refine KL.op (R.move rfl rfl) rfl rfl rfl ?_
              refine KL.op ((R.neq rfl rfl rfl).val ((congrArg (fun b => Value.bool (!b)) (decide_eq_true (by exact hop))))) rfl rfl rfl ?_
              refine KL.op (R.pick rfl rfl rfl) rfl rfl rfl ?_
              refine KL.nil ?_
              refine KQ.seq ?_
              refine KC.condF rfl ?_
              refine KC.skip ?_
              refine KQ.normBlock ?_
              refine KQ.seq ?_
              refine KC.region ?_
              refine KL.op (R.add rfl rfl rfl (by dsimp only [InR]; omega)) rfl rfl rfl ?_
              refine KL.op (R.move rfl rfl) rfl rfl rfl ?_
              refine KL.nil ?_
              refine KQ.again (k + 1) ?_ ?_ ?_
              · exact (Sub.cons rfl (Ext.sub (by repeat (first | exact Ext.refl _ _ | refine Ext.put rfl ?_ | refine Ext.drop rfl ?_))))
              · omega
              · exact ⟨by omega, o0, hj⟩
            · intro hc83
              try simp only [decide_eq_true_eq, decide_eq_false_iff_not, Bool.not_eq_true', Bool.not_eq_false', Bool.and_eq_true, Bool.or_eq_false_iff] at hc83
              refine KC.skip ?_
              refine KQ.normBlock ?_
              refine KQ.seq ?_
              refine KC.seq ?_
              refine KC.region ?_
              refine KL.op (R.move rfl rfl) rfl rfl rfl ?_
              refine KL.op (R.move rfl rfl) rfl rfl rfl ?_
              refine KL.call rfl rfl rfl rfl Try.call12 rfl rfl rfl (End_any _ _ _ _ _ _ hj) ?_
              rintro _ _ ⟨rfl, rfl⟩
              refine KL.op (R.move rfl rfl) rfl rfl rfl ?_
              refine KL.op ((R.neq rfl rfl rfl).val ((congrArg (fun b => Value.bool (!b)) (decide_eq_true (by exact hen))))) rfl rfl rfl ?_
              refine KL.op (R.move rfl rfl) rfl rfl rfl ?_
              refine KL.op (R.move rfl rfl) rfl rfl rfl ?_
              refine KL.op (R.move rfl rfl) rfl rfl rfl ?_
              refine KL.call rfl rfl rfl rfl Try.call13 rfl rfl rfl (Else_any _ _ _ _ _ _ hj) ?_
              rintro _ _ ⟨rfl, rfl⟩
              refine KL.op (R.move rfl rfl) rfl rfl rfl ?_
              refine KL.op ((R.neq rfl rfl rfl).val ((congrArg (fun b => Value.bool (!b)) (decide_eq_true (by rw [hel]; first | done | exact headD_pos (by omega) | exact headD_zero (by omega)))))) rfl rfl rfl ?_
              refine KL.op (R.pick rfl rfl rfl) rfl rfl rfl ?_
              refine KL.op (R.move rfl rfl) rfl rfl rfl ?_
              refine KL.op (R.move rfl rfl) rfl rfl rfl ?_
              refine KL.op (R.move rfl rfl) rfl rfl rfl ?_
              refine KL.call rfl rfl rfl rfl Try.call14 rfl rfl rfl (Open_any _ _ _ _ _ _ hj) ?_
              rintro _ _ ⟨rfl, rfl⟩
              refine KL.op (R.move rfl rfl) rfl rfl rfl ?_
              refine KL.op ((R.neq rfl rfl rfl).val ((congrArg (fun b => Value.bool (!b)) (decide_eq_true (by exact hop))))) rfl rfl rfl ?_
              refine KL.op (R.pick rfl rfl rfl) rfl rfl rfl ?_
              refine KL.nil ?_
              refine KQ.seq ?_
              refine KC.condF rfl ?_
              refine KC.skip ?_
              refine KQ.normBlock ?_
              refine KQ.seq ?_
              refine KC.region ?_
              refine KL.op (R.add rfl rfl rfl (by dsimp only [InR]; omega)) rfl rfl rfl ?_
              refine KL.op (R.move rfl rfl) rfl rfl rfl ?_
              refine KL.nil ?_
              refine KQ.again (k + 1) ?_ ?_ ?_
              · exact (Sub.cons rfl (Ext.sub (by repeat (first | exact Ext.refl _ _ | refine Ext.put rfl ?_ | refine Ext.drop rfl ?_))))
              · omega
              · exact ⟨by omega, o0, hj⟩
          · intro hc69
            try simp only [decide_eq_true_eq, decide_eq_false_iff_not, Bool.not_eq_true', Bool.not_eq_false', Bool.and_eq_true, Bool.or_eq_false_iff] at hc69
            refine KC.seq ?_
            refine KC.region ?_
            refine KL.op ((by first | exact R.fieldAddr rfl Try.underlying37 rfl rfl sz5 rfl | exact R.fieldAddrP rfl Try.underlying37 rfl rfl sz5 rfl)) rfl rfl rfl ?_
            refine KL.op (R.load rfl Try.underlying5 rfl rfl (by first | exact cell_of bx rfl | exact (wv.int 0 (by omega)).1 | assumption)) rfl rfl rfl ?_
            refine KL.op (R.eql rfl rfl rfl) rfl rfl rfl ?_
            refine KL.op (R.assign rfl rfl) rfl rfl rfl ?_
            refine KL.nil ?_
            refine KQ.seq ?_
            refine KC.iteL rfl ?_ ?_
            · intro hc87
              try simp only [decide_eq_true_eq, decide_eq_false_iff_not, Bool.not_eq_true', Bool.not_eq_false', Bool.and_eq_true, Bool.or_eq_false_iff] at hc87
              obtain ⟨hen, hel, hop⟩ := hl2 hc87
              refine KC.region ?_
              refine KL.op (R.move rfl rfl) rfl rfl rfl ?_
              refine KL.op (R.move rfl rfl) rfl rfl rfl ?_
              refine KL.op ((R.add rfl rfl rfl (by dsimp only [InR]; omega)).val (congrArg (Value.int .i64) (show (k : Int) + 1 = ((k + 1 : Nat) : Int) by omega))) rfl rfl rfl ?_
              refine KL.call rfl rfl rfl rfl Try.call17 rfl rfl rfl (rEnd_any _ _ (hs.old o0) (by omega) (k + 1) (by omega)) ?_
              rintro _ _ ⟨rfl, rfl⟩
              refine KL.op (R.move rfl rfl) rfl rfl rfl ?_
              refine KL.op (R.move rfl rfl) rfl rfl rfl ?_
              refine KL.call rfl rfl rfl rfl Try.call19 rfl rfl rfl (rOwner_any _ _ (hs.old o0) (by omega) k (by omega)) ?_
              rintro _ _ ⟨rfl, rfl⟩
              refine KL.op (R.assign rfl rfl) rfl rfl rfl ?_
              refine KL.op (R.assign rfl rfl) rfl rfl rfl ?_
              refine KL.nil ?_
              refine KQ.normBlock ?_
              refine KQ.seq ?_
              refine KC.seq ?_
              refine KC.region ?_
              refine KL.op (R.move rfl rfl) rfl rfl rfl ?_
              refine KL.op (R.move rfl rfl) rfl rfl rfl ?_
              refine KL.call rfl rfl rfl rfl Try.call12 rfl rfl rfl (End_any _ _ _ _ _ _ hj) ?_
              rintro _ _ ⟨rfl, rfl⟩
              refine KL.op (R.move rfl rfl) rfl rfl rfl ?_
              refine KL.op ((R.neq rfl rfl rfl).val ((congrArg (fun b => Value.bool (!b)) (decide_eq_true (by exact hen))))) rfl rfl rfl ?_
              refine KL.op (R.move rfl rfl) rfl rfl rfl ?_
              refine KL.op (R.move rfl rfl) rfl rfl rfl ?_
              refine KL.op (R.move rfl rfl) rfl rfl rfl ?_
              refine KL.call rfl rfl rfl rfl Try.call13 rfl rfl rfl (Else_any _ _ _ _ _ _ hj) ?_
              rintro _ _ ⟨rfl, rfl⟩
              refine KL.op (R.move rfl rfl) rfl rfl rfl ?_
              refine KL.op ((R.neq rfl rfl rfl).val ((congrArg (fun b => Value.bool (!b)) (decide_eq_true (by rw [hel]; first | done | exact headD_pos (by omega) | exact headD_zero (by omega)))))) rfl rfl rfl ?_
              refine KL.op (R.pick rfl rfl rfl) rfl rfl rfl ?_
              refine KL.op (R.move rfl rfl) rfl rfl rfl ?_
              refine KL.op (R.move rfl rfl) rfl rfl rfl ?_
              refine KL.op (R.move rfl rfl) rfl rfl rfl ?_
              refine KL.call rfl rfl rfl rfl Try.call14 rfl rfl rfl (Open_any _ _ _ _ _ _ hj) ?_
              rintro _ _ ⟨rfl, rfl⟩
              refine KL.op (R.move rfl rfl) rfl rfl rfl ?_
              refine KL.op ((R.neq rfl rfl rfl).val ((congrArg (fun b => Value.bool (!b)) (decide_eq_true (by exact hop))))) rfl rfl rfl ?_
              refine KL.op (R.pick rfl rfl rfl) rfl rfl rfl ?_
              refine KL.nil ?_
              refine KQ.seq ?_
              refine KC.condF rfl ?_
              refine KC.skip ?_
              refine KQ.normBlock ?_
              refine KQ.seq ?_
              refine KC.region ?_
              refine KL.op (R.add rfl rfl rfl (by dsimp only [InR]; omega)) rfl rfl rfl ?_
              refine KL.op (R.move rfl rfl) rfl rfl rfl ?_
              refine KL.nil ?_
              refine KQ.again (k + 1) ?_ ?_ ?_
              · exact (Sub.cons rfl (Ext.sub (by repeat (first | exact Ext.refl _ _ | refine Ext.put rfl ?_ | refine Ext.drop rfl ?_))))
              · omega
              · exact ⟨by omega, o0, hj⟩
            · intro hc87
              try simp only [decide_eq_true_eq, decide_eq_false_iff_not, Bool.not_eq_true', Bool.not_eq_false', Bool.and_eq_true, Bool.or_eq_false_iff] at hc87
              refine KC.seq ?_
              refine KC.region ?_
              refine KL.op ((by first | exact R.fieldAddr rfl Try.underlying37 rfl rfl sz5 rfl | exact R.fieldAddrP rfl Try.underlying37 rfl rfl sz5 rfl)) rfl rfl rfl ?_
              refine KL.op (R.load rfl Try.underlying5 rfl rfl (by first | exact cell_of bx rfl | exact (wv.int 0 (by omega)).1 | assumption)) rfl rfl rfl ?_
              refine KL.op (R.eql rfl rfl rfl) rfl rfl rfl ?_
              refine KL.op (R.assign rfl rfl) rfl rfl rfl ?_
              refine KL.nil ?_
              refine KQ.seq ?_
              refine KC.iteL rfl ?_ ?_
              · intro hc98
                try simp only [decide_eq_true_eq, decide_eq_false_iff_not, Bool.not_eq_true', Bool.not_eq_false', Bool.and_eq_true, Bool.or_eq_false_iff] at hc98
                obtain ⟨hen, hel, hop⟩ := hl3 hc98
                refine KC.region ?_
                refine KL.op (R.move rfl rfl) rfl rfl rfl ?_
                refine KL.op (R.move rfl rfl) rfl rfl rfl ?_
                refine KL.call rfl rfl rfl rfl Try.call19 rfl rfl rfl (rOwner_any _ _ (hs.old o0) (by omega) k (by omega)) ?_
                rintro _ _ ⟨rfl, rfl⟩
                refine KL.op (R.assign rfl rfl) rfl rfl rfl ?_
                refine KL.nil ?_
                refine KQ.normBlock ?_
                refine KQ.seq ?_
                refine KC.seq ?_
                refine KC.region ?_
                refine KL.op (R.move rfl rfl) rfl rfl rfl ?_
                refine KL.op (R.move rfl rfl) rfl rfl rfl ?_
                refine KL.call rfl rfl rfl rfl Try.call12 rfl rfl rfl (End_any _ _ _ _ _ _ hj) ?_
                rintro _ _ ⟨rfl, rfl⟩
                refine KL.op (R.move rfl rfl) rfl rfl rfl ?_
                refine KL.op ((R.neq rfl rfl rfl).val ((congrArg (fun b => Value.bool (!b)) (decide_eq_true (by exact hen))))) rfl rfl rfl ?_
                refine KL.op (R.move rfl rfl) rfl rfl rfl ?_
                refine KL.op (R.move rfl rfl) rfl rfl rfl ?_
                refine KL.op (R.move rfl rfl) rfl rfl rfl ?_
                refine KL.call rfl rfl rfl rfl Try.call13 rfl rfl rfl (Else_any _ _ _ _ _ _ hj) ?_
                rintro _ _ ⟨rfl, rfl⟩
                refine KL.op (R.move rfl rfl) rfl rfl rfl ?_
                refine KL.op ((R.neq rfl rfl rfl).val ((congrArg (fun b => Value.bool (!b)) (decide_eq_true (by rw [hel]; first | done | exact headD_pos (by omega) | exact headD_zero (by omega)))))) rfl rfl rfl ?_
                refine KL.op (R.pick rfl rfl rfl) rfl rfl rfl ?_
                refine KL.op (R.move rfl rfl) rfl rfl rfl ?_
                refine KL.op (R.move rfl rfl) rfl rfl rfl ?_
                refine KL.op (R.move rfl rfl) rfl rfl rfl ?_
                refine KL.call rfl rfl rfl rfl Try.call14 rfl rfl rfl (Open_any _ _ _ _ _ _ hj) ?_
                rintro _ _ ⟨rfl, rfl⟩
                refine KL.op (R.move rfl rfl) rfl rfl rfl ?_
                refine KL.op ((R.neq rfl rfl rfl).val ((congrArg (fun b => Value.bool (!b)) (decide_eq_true (by exact hop))))) rfl rfl rfl ?_
                refine KL.op (R.pick rfl rfl rfl) rfl rfl rfl ?_
                refine KL.nil ?_
                refine KQ.seq ?_
                refine KC.condF rfl ?_
                refine KC.skip ?_
                refine KQ.normBlock ?_
                refine KQ.seq ?_
                refine KC.region ?_
                refine KL.op (R.add rfl rfl rfl (by dsimp only [InR]; omega)) rfl rfl rfl ?_
                refine KL.op (R.move rfl rfl) rfl rfl rfl ?_
                refine KL.nil ?_
                refine KQ.again (k + 1) ?_ ?_ ?_
                · exact (Sub.cons rfl (Ext.sub (by repeat (first | exact Ext.refl _ _ | refine Ext.put rfl ?_ | refine Ext.drop rfl ?_))))
                · omega
                · exact ⟨by omega, o0, hj⟩
              · intro hc98
                try simp only [decide_eq_true_eq, decide_eq_false_iff_not, Bool.not_eq_true', Bool.not_eq_false', Bool.and_eq_true, Bool.or_eq_false_iff] at hc98
                obtain ⟨hen, hel, hop⟩ := hl4 hc69 hc87 hc98
                refine KC.skip ?_
                refine KQ.normBlock ?_
                refine KQ.seq ?_
                refine KC.seq ?_
                refine KC.region ?_
                refine KL.op (R.move rfl rfl) rfl rfl rfl ?_
                refine KL.op (R.move rfl rfl) rfl rfl rfl ?_
                refine KL.call rfl rfl rfl rfl Try.call12 rfl rfl rfl (End_any _ _ _ _ _ _ hj) ?_
                rintro _ _ ⟨rfl, rfl⟩
                refine KL.op (R.move rfl rfl) rfl rfl rfl ?_
                refine KL.op ((R.neq rfl rfl rfl).val ((congrArg (fun b => Value.bool (!b)) (decide_eq_true (by exact hen))))) rfl rfl rfl ?_
                refine KL.op (R.move rfl rfl) rfl rfl rfl ?_
                refine KL.op (R.move rfl rfl) rfl rfl rfl ?_
                refine KL.op (R.move rfl rfl) rfl rfl rfl ?_
                refine KL.call rfl rfl rfl rfl Try.call13 rfl rfl rfl (Else_any _ _ _ _ _ _ hj) ?_
                rintro _ _ ⟨rfl, rfl⟩
                refine KL.op (R.move rfl rfl) rfl rfl rfl ?_
                refine KL.op ((R.neq rfl rfl rfl).val ((congrArg (fun b => Value.bool (!b)) (decide_eq_true (by rw [hel]; first | done | exact headD_pos (by omega) | exact headD_zero (by omega)))))) rfl rfl rfl ?_
                refine KL.op (R.pick rfl rfl rfl) rfl rfl rfl ?_
                refine KL.op (R.move rfl rfl) rfl rfl rfl ?_
                refine KL.op (R.move rfl rfl) rfl rfl rfl ?_
                refine KL.op (R.move rfl rfl) rfl rfl rfl ?_
                refine KL.call rfl rfl rfl rfl Try.call14 rfl rfl rfl (Open_any _ _ _ _ _ _ hj) ?_
                rintro _ _ ⟨rfl, rfl⟩
                refine KL.op (R.move rfl rfl) rfl rfl rfl ?_
                refine KL.op ((R.neq rfl rfl rfl).val ((congrArg (fun b => Value.bool (!b)) (decide_eq_true (by exact hop))))) rfl rfl rfl ?_
                refine KL.op (R.pick rfl rfl rfl) rfl rfl rfl ?_
                refine KL.nil ?_
                refine KQ.seq ?_
                refine KC.condF rfl ?_
                refine KC.skip ?_
                refine KQ.normBlock ?_
                refine KQ.seq ?_
                refine KC.region ?_
                refine KL.op (R.add rfl rfl rfl (by dsimp only [InR]; omega)) rfl rfl rfl ?_
                refine KL.op (R.move rfl rfl) rfl rfl rfl ?_
                refine KL.nil ?_
                refine KQ.again (k + 1) ?_ ?_ ?_
                · exact (Sub.cons rfl (Ext.sub (by repeat (first | exact Ext.refl _ _ | refine Ext.put rfl ?_ | refine Ext.drop rfl ?_))))
                · omega
                · exact ⟨by omega, o0, hj⟩
        · intro hc65
          try simp only [decide_eq_true_eq, decide_eq_false_iff_not, Bool.not_eq_true', Bool.not_eq_false', Bool.and_eq_true, Bool.or_eq_false_iff] at hc65
          refine KC.exit ?_
          refine KQ.exitThen ?_
          refine KQ.exitThen ?_
          refine KQ.hit ?_
          refine KQ.seq ?_
          refine KC.seq ?_
          refine KC.region ?_
          refine KL.call rfl rfl rfl rfl Try.call9 rfl rfl rfl (works_any) ?_
          rintro _ H8 ⟨rfl, ox⟩
          have o0 := o0.trans ox
          have hj := hj.old ox
          have oK := oK.trans ox
          refine KL.op (R.assign rfl rfl) rfl rfl rfl ?_
          refine KL.nil ?_
          refine KQ.seq ?_
          refine KC.ret ?_
          refine KQ.ofRet ?_
          refine KQ.fin1 Try.results4 rfl ?_
          exact ⟨rfl, o0⟩
    · skip
      have hcl := law.2 hof
      refine KL.op (R.move rfl rfl) rfl rfl rfl ?_
      refine KL.op (R.extract rfl rfl rfl) rfl rfl rfl ?_
      refine KL.op (R.extract rfl rfl rfl) rfl rfl rfl ?_
      refine KL.op (R.assign rfl rfl) rfl rfl rfl ?_
      refine KL.op (R.assign rfl rfl) rfl rfl rfl ?_
      refine KL.nil ?_
      refine KQ.seq ?_
      refine KC.seq ?_
      refine KC.region ?_
      refine KL.op (R.move rfl rfl) rfl rfl rfl ?_
      refine KL.call rfl rfl rfl rfl Try.call15 rfl rfl rfl (rCl_any _ _ (hs.old o0) (by omega)) ?_
      rintro _ H9 ⟨rfl, ox⟩
      rw [hcl]
      have o0 := o0.trans ox
      refine KL.op (R.move rfl rfl) rfl rfl rfl ?_
      refine KL.op (R.extract rfl rfl rfl) rfl rfl rfl ?_
      refine KL.op (R.extract rfl rfl rfl) rfl rfl rfl ?_
      refine KL.op (R.assign rfl rfl) rfl rfl rfl ?_
      refine KL.op (R.assign rfl rfl) rfl rfl rfl ?_
      refine KL.nil ?_
      refine KQ.seq ?_
      refine KC.seq ?_
      refine KC.seq ?_
      refine KC.region ?_
      refine KL.op (R.move rfl rfl) rfl rfl rfl ?_
      refine KL.op (R.move rfl rfl) rfl rfl rfl ?_
      refine KL.op ((R.neqB rfl Try.underlying4 rfl rfl).val (congrArg Value.bool (show _ = false from rfl))) rfl rfl rfl ?_
      refine KL.op (R.move rfl rfl) rfl rfl rfl ?_
      refine KL.op (R.move rfl rfl) rfl rfl rfl ?_
      refine KL.op (R.neqP rfl Try.underlying24 rfl rfl) rfl rfl rfl ?_
      refine KL.op (R.move rfl rfl) rfl rfl rfl ?_
      refine KL.op ((R.neqB rfl Try.underlying4 rfl rfl).val (congrArg Value.bool (show _ = false from rfl))) rfl rfl rfl ?_
      refine KL.op (R.pick rfl rfl rfl) rfl rfl rfl ?_
      refine KL.nil ?_
      refine KQ.seq ?_
      refine KC.condF rfl ?_
      refine KC.skip ?_
      refine KQ.seq ?_
      refine KC.seq ?_
      refine KC.seq ?_
      refine KC.region ?_
      refine KL.op (R.move rfl rfl) rfl rfl rfl ?_
      refine KL.op (R.not rfl rfl) rfl rfl rfl ?_
      refine KL.nil ?_
      refine KQ.seq ?_
      refine KC.condT rfl ?_
      refine KC.seq ?_
      refine KC.region ?_
      refine KL.call rfl rfl rfl rfl Try.call9 rfl rfl rfl (works_any) ?_
      rintro _ H10 ⟨rfl, ox⟩
      have o0 := o0.trans ox
      refine KL.op (R.assign rfl rfl) rfl rfl rfl ?_
      refine KL.nil ?_
      refine KQ.seq ?_
      refine KC.ret ?_
      refine KQ.retThen ?_
      refine KQ.ofRet ?_
      refine KQ.fin1 Try.results4 rfl ?_
      exact ⟨rfl, o0⟩

end Go.Proofs.Ytbopalmbphgedaa
