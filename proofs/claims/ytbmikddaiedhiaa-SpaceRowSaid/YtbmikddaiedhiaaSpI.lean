/- The document's exports. No condition. -/
import Derived.Test.YtbmikddaiedhiaaSpH
namespace Go.Proofs.Ytbmikddaiedhiaa
open Go Go.RowKit
set_option linter.unusedVariables false
set_option linter.unusedSimpArgs false
set_option linter.unnecessarySimpa false
set_option maxRecDepth 100000 in
set_option maxHeartbeats 4000000 in
theorem RExp_any {H : Heap} {v0 v1 v2 v3 v4 v5 v6 v7 v8 v9 va vb : Value} {m : Mo} (mv : MV H v0 v1 v2 v3 v4 v5 v6 v7 v8 v9 va vb m) (nm : ByteArray) (kd : Int) : Ct Try.prog 20 [.agg [v0, v1, v2, v3, v4, v5, v6, v7, v8, v9, va, vb].toArray, .string nm, .int .u8 kd] H (fun u H' => u = .tuple #[.int .u32 ((findE nm kd m.exports).elim 0 (·.ix)), .bool (findE nm kd m.exports).isSome] ∧ Old H H') := by
  refine Ct.mk Try.func20 rfl Try.ntmps20 rfl ?_
  intro W0 hW0
  have o0 : Old H H := Old.refl H
  have hlm := mv.e.lenM
  unfold maxLen at hlm
  refine KC.seq ?_
  refine KC.region ?_
  refine KL.opM (M.box rfl rfl rfl) rfl rfl rfl ?_
  rintro _ H1 ⟨rfl, n1⟩
  have z1 := n1.2.1
  have o0 := o0.trans n1.1
  have mv := mv.old n1.1
  have b1 := n1.2.2
  have bx := b1
  refine KL.op (R.assign rfl rfl) rfl rfl rfl ?_
  refine KL.op (R.assign rfl rfl) rfl rfl rfl ?_
  refine KL.nil ?_
  refine KQ.seq ?_
  refine KC.seq ?_
  refine KC.seq ?_
  refine KC.region ?_
  refine KL.op (R.assign rfl rfl) rfl rfl rfl ?_
  refine KL.nil ?_
  refine KQ.seq ?_
  refine KC.block ?_
  refine KC.loopD (κ := Nat) [9, 10, 11, 12, 13, 16, 17, 18, 19, 20, 21, 22, 23, 24, 25, 26, 27, 28, 29, 30, 31, 32, 33, 34, 35, 36, 37, 38, 39, 6, 7, 14, 15, 8] (fun k => [(8, .int .i64 (k : Nat))]) (fun k Hl => k ≤ m.exports.length ∧ H1 = Hl ∧ ∀ j, j < k → isE nm kd (m.exports.getD j default) = false) (fun k => m.exports.length - k) 0 ?_ ?_ ?_
  · exact (Sub.cons rfl (Ext.sub (Ext.refl _ _)))
  · exact ⟨Nat.zero_le _, rfl, fun j hj => by omega⟩
  · rintro k H2 ⟨hk, rfl, hno⟩
    refine KC.seq ?_
    refine KC.seq ?_
    refine KC.region ?_
    refine KL.op (R.move rfl rfl) rfl rfl rfl ?_
    refine KL.op ((by first | exact R.fieldAddr rfl Try.underlying38 rfl rfl sz32 rfl | exact R.fieldAddrP rfl Try.underlying38 rfl rfl sz32 rfl)) rfl rfl rfl ?_
    refine KL.op (R.load rfl Try.underlying32 rfl rfl (by first | exact cell_of bx rfl | assumption)) rfl rfl rfl ?_
    refine KL.op (R.lenS rfl Try.underlying32 rfl mv.e) rfl rfl rfl ?_
    refine KL.op (R.lss rfl rfl rfl) rfl rfl rfl ?_
    refine KL.nil ?_
    refine KQ.seq ?_
    refine KC.iteL rfl ?_ ?_
    · intro hc13
      try simp only [decide_eq_true_eq, decide_eq_false_iff_not, Bool.not_eq_true', Bool.not_eq_false', Bool.and_eq_true, Bool.or_eq_false_iff] at hc13
      have hcx := mv.e.expAt k (by omega)
      refine KC.skip ?_
      refine KQ.seq ?_
      refine KC.seq ?_
      refine KC.block ?_
      refine KC.seq ?_
      refine KC.region ?_
      refine KL.op ((by first | exact R.fieldAddr rfl Try.underlying38 rfl rfl sz32 rfl | exact R.fieldAddrP rfl Try.underlying38 rfl rfl sz32 rfl)) rfl rfl rfl ?_
      refine KL.op (R.load rfl Try.underlying32 rfl rfl (by first | exact cell_of bx rfl | assumption)) rfl rfl rfl ?_
      refine KL.op (R.move rfl rfl) rfl rfl rfl ?_
      refine KL.op (R.index (j := k) rfl Try.underlying32 sz69 rfl rfl mv.e rfl (by omega)) rfl rfl rfl ?_
      refine KL.op ((by first | exact R.fieldAddr rfl Try.underlying69 rfl rfl sz9 rfl | exact R.fieldAddrP rfl Try.underlying69 rfl rfl sz9 rfl)) rfl rfl rfl ?_
      refine KL.op (R.load rfl Try.underlying9 rfl rfl (hcx 0 _ rfl)) rfl rfl rfl ?_
      refine KL.op (R.move rfl rfl) rfl rfl rfl ?_
      refine KL.op ((R.eqlStr rfl rfl rfl).val (congrArg Value.bool (str_cmp _ _))) rfl rfl rfl ?_
      refine KL.op (R.move rfl rfl) rfl rfl rfl ?_
      refine KL.case (d := 24) rfl ?_ ?_
      · intro hg24
        try simp only [decide_eq_true_eq, decide_eq_false_iff_not, Bool.not_eq_true', Bool.not_eq_false', Bool.and_eq_true, Bool.or_eq_false_iff] at hg24
        refine KL.op ((by first | exact R.fieldAddr rfl Try.underlying38 rfl rfl sz32 rfl | exact R.fieldAddrP rfl Try.underlying38 rfl rfl sz32 rfl)) rfl rfl rfl ?_
        refine KL.op (R.load rfl Try.underlying32 rfl rfl (by first | exact cell_of bx rfl | assumption)) rfl rfl rfl ?_
        refine KL.op (R.move rfl rfl) rfl rfl rfl ?_
        refine KL.op (R.index (j := k) rfl Try.underlying32 sz69 rfl rfl mv.e rfl (by omega)) rfl rfl rfl ?_
        refine KL.op ((by first | exact R.fieldAddr rfl Try.underlying69 rfl rfl sz5 rfl | exact R.fieldAddrP rfl Try.underlying69 rfl rfl sz5 rfl)) rfl rfl rfl ?_
        refine KL.op (R.load rfl Try.underlying5 rfl rfl (hcx 1 _ rfl)) rfl rfl rfl ?_
        refine KL.op (R.move rfl rfl) rfl rfl rfl ?_
        refine KL.op (R.eql rfl rfl rfl) rfl rfl rfl ?_
        refine KL.op (R.pick rfl rfl rfl) rfl rfl rfl ?_
        refine KL.nil ?_
        refine KQ.seq ?_
        refine KC.iteL rfl ?_ ?_
        · intro hc33
          try simp only [decide_eq_true_eq, decide_eq_false_iff_not, Bool.not_eq_true', Bool.not_eq_false', Bool.and_eq_true, Bool.or_eq_false_iff] at hc33
          refine KC.seq ?_
          refine KC.region ?_
          refine KL.op ((by first | exact R.fieldAddr rfl Try.underlying38 rfl rfl sz32 rfl | exact R.fieldAddrP rfl Try.underlying38 rfl rfl sz32 rfl)) rfl rfl rfl ?_
          refine KL.op (R.load rfl Try.underlying32 rfl rfl (by first | exact cell_of bx rfl | assumption)) rfl rfl rfl ?_
          refine KL.op (R.move rfl rfl) rfl rfl rfl ?_
          refine KL.op (R.index (j := k) rfl Try.underlying32 sz69 rfl rfl mv.e rfl (by omega)) rfl rfl rfl ?_
          refine KL.op ((by first | exact R.fieldAddr rfl Try.underlying69 rfl rfl sz33 rfl | exact R.fieldAddrP rfl Try.underlying69 rfl rfl sz33 rfl)) rfl rfl rfl ?_
          refine KL.op (R.load rfl Try.underlying33 rfl rfl (hcx 2 _ rfl)) rfl rfl rfl ?_
          refine KL.op (R.assign rfl rfl) rfl rfl rfl ?_
          refine KL.op (R.assign rfl rfl) rfl rfl rfl ?_
          refine KL.nil ?_
          refine KQ.seq ?_
          refine KC.ret ?_
          refine KQ.retBlock ?_
          refine KQ.retThen ?_
          refine KQ.retThen ?_
          refine KQ.retBlock ?_
          refine KQ.retThen ?_
          refine KQ.ofRet ?_
          refine KQ.fin2 Try.results20 rfl rfl ?_
          first
            | (have hf : findE nm kd m.exports = some (m.exports.getD k default) := find_at (by omega) (by unfold isE; simp_all) hno
               exact ⟨by rw [hf]; rfl, o0⟩)
            | (have hf : findE nm kd m.exports = none := find_no (fun j hj => hno j (by omega))
               exact ⟨by rw [hf]; rfl, o0⟩)
        · intro hc33
          try simp only [decide_eq_true_eq, decide_eq_false_iff_not, Bool.not_eq_true', Bool.not_eq_false', Bool.and_eq_true, Bool.or_eq_false_iff] at hc33
          refine KC.skip ?_
          refine KQ.normBlock ?_
          refine KQ.seq ?_
          refine KC.region ?_
          refine KL.op (R.move rfl rfl) rfl rfl rfl ?_
          refine KL.op ((R.add rfl rfl rfl (by dsimp only [InR]; omega)).val (congrArg (Value.int .i64) (show (k : Int) + 1 = ((k + 1 : Nat) : Int) by omega))) rfl rfl rfl ?_
          refine KL.op (R.assign rfl rfl) rfl rfl rfl ?_
          refine KL.nil ?_
          refine KQ.again (k + 1) ?_ ?_ ?_
          · exact (Sub.cons rfl (Ext.sub (by repeat (first | exact Ext.refl _ _ | refine Ext.put rfl ?_ | refine Ext.drop rfl ?_))))
          · omega
          · exact ⟨by omega, rfl, fun j hj => by
              by_cases e : j = k
              · subst e; unfold isE; simp_all
              · exact hno j (by omega)⟩
      · intro hg24
        try simp only [decide_eq_true_eq, decide_eq_false_iff_not, Bool.not_eq_true', Bool.not_eq_false', Bool.and_eq_true, Bool.or_eq_false_iff] at hg24
        refine KL.skip rfl rfl rfl ?_
        refine KL.skip rfl rfl rfl ?_
        refine KL.skip rfl rfl rfl ?_
        refine KL.skip rfl rfl rfl ?_
        refine KL.skip rfl rfl rfl ?_
        refine KL.skip rfl rfl rfl ?_
        refine KL.skip rfl rfl rfl ?_
        refine KL.skip rfl rfl rfl ?_
        refine KL.op (R.pick rfl rfl rfl) rfl rfl rfl ?_
        refine KL.nil ?_
        refine KQ.seq ?_
        refine KC.condF rfl ?_
        refine KC.skip ?_
        refine KQ.normBlock ?_
        refine KQ.seq ?_
        refine KC.region ?_
        refine KL.op (R.move rfl rfl) rfl rfl rfl ?_
        refine KL.op ((R.add rfl rfl rfl (by dsimp only [InR]; omega)).val (congrArg (Value.int .i64) (show (k : Int) + 1 = ((k + 1 : Nat) : Int) by omega))) rfl rfl rfl ?_
        refine KL.op (R.assign rfl rfl) rfl rfl rfl ?_
        refine KL.nil ?_
        refine KQ.again (k + 1) ?_ ?_ ?_
        · exact (Sub.cons rfl (Ext.sub (by repeat (first | exact Ext.refl _ _ | refine Ext.put rfl ?_ | refine Ext.drop rfl ?_))))
        · omega
        · exact ⟨by omega, rfl, fun j hj => by
            by_cases e : j = k
            · subst e; unfold isE; simp_all
            · exact hno j (by omega)⟩
    · intro hc13
      try simp only [decide_eq_true_eq, decide_eq_false_iff_not, Bool.not_eq_true', Bool.not_eq_false', Bool.and_eq_true, Bool.or_eq_false_iff] at hc13
      refine KC.exit ?_
      refine KQ.exitThen ?_
      refine KQ.exitThen ?_
      refine KQ.hit ?_
      refine KQ.seq ?_
      refine KC.seq ?_
      refine KC.region ?_
      refine KL.op (R.assign rfl rfl) rfl rfl rfl ?_
      refine KL.op (R.assign rfl rfl) rfl rfl rfl ?_
      refine KL.nil ?_
      refine KQ.seq ?_
      refine KC.ret ?_
      refine KQ.ofRet ?_
      refine KQ.fin2 Try.results20 rfl rfl ?_
      first
        | (have hf : findE nm kd m.exports = some (m.exports.getD k default) := find_at (by omega) (by unfold isE; simp_all) hno
           exact ⟨by rw [hf]; rfl, o0⟩)
        | (have hf : findE nm kd m.exports = none := find_no (fun j hj => hno j (by omega))
           exact ⟨by rw [hf]; rfl, o0⟩)


theorem ofK_at {k : Int} {l : List Imp} {j i : Nat} (hj : j < l.length) (hk : isK k (l.getD j default) = true) (hi : (ofK k (l.take j)).length = i) : (ofK k l).getD i default = l.getD j default := by
  have e : ofK k l = ofK k (l.take j) ++ l.getD j default :: ofK k (l.drop (j + 1)) := by
    have h : l = l.take j ++ l.getD j default :: l.drop (j + 1) := by
      rw [List.getD_eq_getElem?_getD, List.getElem?_eq_getElem hj]
      conv => lhs; rw [← List.take_append_drop j l, List.drop_eq_getElem_cons hj]
      rfl
    conv => lhs; rw [h]
    unfold ofK
    rw [List.filter_append, List.filter_cons, if_pos hk]
  rw [e, List.getD_eq_getElem?_getD, List.getElem?_append_right (by omega), hi, Nat.sub_self]
  rfl

set_option maxRecDepth 100000 in
set_option maxHeartbeats 4000000 in
theorem REntry_any {H : Heap} {v0 v1 v2 v3 v4 v5 v6 v7 v8 v9 va vb : Value} {m : Mo} (mv : MV H v0 v1 v2 v3 v4 v5 v6 v7 v8 v9 va vb m) (kd i : Nat) (hil : i < (ofK kd m.imports).length) (hml : m.imports.length ≤ 1000000) : Ct Try.prog 37 [.agg [v0, v1, v2, v3, v4, v5, v6, v7, v8, v9, va, vb].toArray, .int .u8 (kd : Nat), .int .u32 (i : Nat)] H (fun u H' => u = .agg ((ofK kd m.imports).getD i default).cells.toArray ∧ Old H H') := by
  refine Ct.mk Try.func37 rfl Try.ntmps37 rfl ?_
  intro W0 hW0
  have o0 : Old H H := Old.refl H
  refine KC.seq ?_
  refine KC.region ?_
  refine KL.opM (M.box rfl rfl rfl) rfl rfl rfl ?_
  rintro _ H1 ⟨rfl, n1⟩
  have z1 := n1.2.1
  have o0 := o0.trans n1.1
  have mv := mv.old n1.1
  have b1 := n1.2.2
  have bx := b1
  refine KL.opM (M.alloc rfl zr63 rfl) rfl rfl rfl ?_
  rintro _ H2 ⟨rfl, n2⟩
  have z2 := n2.2.1
  have o0 := o0.trans n2.1
  have mv := mv.old n2.1
  have bx := (n2.1).blk bx
  have b2 := n2.2.2
  have bq := b2
  refine KL.nil ?_
  refine KQ.seq ?_
  refine KC.seq ?_
  refine KC.region ?_
  refine KL.op (R.assign rfl rfl) rfl rfl rfl ?_
  refine KL.nil ?_
  refine KQ.seq ?_
  refine KC.seq ?_
  refine KC.seq ?_
  refine KC.region ?_
  refine KL.op (R.assign rfl rfl) rfl rfl rfl ?_
  refine KL.nil ?_
  refine KQ.seq ?_
  refine KC.block ?_
  refine KC.loopD (κ := Nat × Nat) [9, 10, 11, 12, 13, 16, 17, 18, 19, 20, 21, 22, 23, 24, 25, 26, 27, 28, 29, 30, 31, 32, 33, 7, 14, 15, 8] (fun k => [(8, .int .i64 (k.1 : Nat)), (7, .int .u32 (k.2 : Nat))]) (fun k Hl => k.1 ≤ m.imports.length ∧ H2 = Hl ∧ k.2 = (ofK kd (m.imports.take k.1)).length ∧ k.2 ≤ i) (fun k => m.imports.length - k.1) (0, 0) ?_ ?_ ?_
  · exact (Sub.cons rfl (Sub.cons rfl (Ext.sub (Ext.refl _ _))))
  · exact ⟨Nat.zero_le _, rfl, by simp [ofK], Nat.zero_le _⟩
  · rintro ⟨k, n⟩ H3 ⟨hk, rfl, hn, hni⟩
    dsimp only at hk hn hni
    have hcn := ofK_len (k := (kd : Int)) (l := m.imports.take k)
    rw [List.length_take] at hcn
    refine KC.seq ?_
    refine KC.seq ?_
    refine KC.region ?_
    refine KL.op (R.move rfl rfl) rfl rfl rfl ?_
    refine KL.op ((by first | exact R.fieldAddr rfl Try.underlying38 rfl rfl sz28 rfl | exact R.fieldAddrP rfl Try.underlying38 rfl rfl sz28 rfl)) rfl rfl rfl ?_
    refine KL.op (R.load rfl Try.underlying28 rfl rfl (by first | exact cell_of bx rfl | exact cell_of bq rfl | assumption)) rfl rfl rfl ?_
    refine KL.op (R.lenS rfl Try.underlying28 rfl mv.i) rfl rfl rfl ?_
    refine KL.op (R.lss rfl rfl rfl) rfl rfl rfl ?_
    refine KL.nil ?_
    refine KQ.seq ?_
    refine KC.iteL rfl ?_ ?_
    · intro hc13
      try simp only [decide_eq_true_eq, decide_eq_false_iff_not, Bool.not_eq_true', Bool.not_eq_false', Bool.and_eq_true, Bool.or_eq_false_iff] at hc13
      have hst := ofK_step (k := (kd : Int)) (l := m.imports) (j := k) (by omega)
      obtain ⟨hcx, hxr⟩ := mv.i.impAt k (by omega)
      refine KC.skip ?_
      refine KQ.seq ?_
      refine KC.seq ?_
      refine KC.block ?_
      refine KC.seq ?_
      refine KC.region ?_
      refine KL.op ((by first | exact R.fieldAddr rfl Try.underlying38 rfl rfl sz28 rfl | exact R.fieldAddrP rfl Try.underlying38 rfl rfl sz28 rfl)) rfl rfl rfl ?_
      refine KL.op (R.load rfl Try.underlying28 rfl rfl (by first | exact cell_of bx rfl | exact cell_of bq rfl | assumption)) rfl rfl rfl ?_
      refine KL.op (R.move rfl rfl) rfl rfl rfl ?_
      refine KL.op (R.index (j := k) rfl Try.underlying28 sz63 rfl rfl mv.i rfl (by omega)) rfl rfl rfl ?_
      refine KL.op ((by first | exact R.fieldAddr rfl Try.underlying63 rfl rfl sz5 rfl | exact R.fieldAddrP rfl Try.underlying63 rfl rfl sz5 rfl)) rfl rfl rfl ?_
      refine KL.op (R.load rfl Try.underlying5 rfl rfl (hcx 2 _ rfl)) rfl rfl rfl ?_
      refine KL.op (R.move rfl rfl) rfl rfl rfl ?_
      refine KL.op (R.eql rfl rfl rfl) rfl rfl rfl ?_
      refine KL.nil ?_
      refine KQ.seq ?_
      refine KC.iteL rfl ?_ ?_
      · intro hc23
        try simp only [decide_eq_true_eq, decide_eq_false_iff_not, Bool.not_eq_true', Bool.not_eq_false', Bool.and_eq_true, Bool.or_eq_false_iff] at hc23
        have hkk : isK kd (m.imports.getD k default) = true := by unfold isK; exact decide_eq_true hc23
        rw [if_pos hkk] at hst
        have hst2 := congrArg List.length hst
        rw [List.length_append, List.length_singleton] at hst2
        refine KC.seq ?_
        refine KC.seq ?_
        refine KC.region ?_
        refine KL.op (R.move rfl rfl) rfl rfl rfl ?_
        refine KL.op (R.move rfl rfl) rfl rfl rfl ?_
        refine KL.op (R.eql rfl rfl rfl) rfl rfl rfl ?_
        refine KL.nil ?_
        refine KQ.seq ?_
        refine KC.iteL rfl ?_ ?_
        · intro hc26
          try simp only [decide_eq_true_eq, decide_eq_false_iff_not, Bool.not_eq_true', Bool.not_eq_false', Bool.and_eq_true, Bool.or_eq_false_iff] at hc26
          refine KC.seq ?_
          refine KC.region ?_
          refine KL.op ((by first | exact R.fieldAddr rfl Try.underlying38 rfl rfl sz28 rfl | exact R.fieldAddrP rfl Try.underlying38 rfl rfl sz28 rfl)) rfl rfl rfl ?_
          refine KL.op (R.load rfl Try.underlying28 rfl rfl (by first | exact cell_of bx rfl | exact cell_of bq rfl | assumption)) rfl rfl rfl ?_
          refine KL.op (R.move rfl rfl) rfl rfl rfl ?_
          refine KL.op (R.index (j := k) rfl Try.underlying28 sz63 rfl rfl mv.i rfl (by omega)) rfl rfl rfl ?_
          refine KL.op (R.loadAgg rfl Try.underlying63 rfl sz63 rfl hcx rfl) rfl rfl rfl ?_
          refine KL.opS (S.storeAgg (us := (m.imports.getD k default).cells) rfl sz63 rfl rfl (rfl) (by exact kind_one) bq (by simp [Imp.cells])) rfl rfl ?_
          rintro H4 ⟨u4, b4⟩
          have o0 := o0.upd u4 (by omega)
          have zu4 := u4.1
          have bx := ((u4).2 _ (by omega)).trans bx
          have bq := b4
          rw [over_all (by rfl)] at bq
          refine KL.nil ?_
          refine KQ.seq ?_
          refine KC.ret ?_
          refine KQ.retThen ?_
          refine KQ.retBlock ?_
          refine KQ.retThen ?_
          refine KQ.retThen ?_
          refine KQ.retBlock ?_
          refine KQ.retThen ?_
          refine KQ.ofRet ?_
          refine KQ.finCell Try.results37 rfl Try.underlying63 rfl sz63 (cells_of bq) (rfl) ?_
          have e := ofK_at (k := (kd : Int)) (l := m.imports) (j := k) (i := i) (by omega) hkk (by omega)
          exact ⟨by rw [e], o0⟩
        · intro hc26
          try simp only [decide_eq_true_eq, decide_eq_false_iff_not, Bool.not_eq_true', Bool.not_eq_false', Bool.and_eq_true, Bool.or_eq_false_iff] at hc26
          refine KC.skip ?_
          refine KQ.seq ?_
          refine KC.region ?_
          refine KL.op (R.move rfl rfl) rfl rfl rfl ?_
          refine KL.op ((R.add rfl rfl rfl (by dsimp only [InR]; omega)).val (congrArg (Value.int .u32) (show (n : Int) + 1 = ((n + 1 : Nat) : Int) by omega))) rfl rfl rfl ?_
          refine KL.op (R.assign rfl rfl) rfl rfl rfl ?_
          refine KL.nil ?_
          refine KQ.normBlock ?_
          refine KQ.seq ?_
          refine KC.region ?_
          refine KL.op (R.move rfl rfl) rfl rfl rfl ?_
          refine KL.op ((R.add rfl rfl rfl (by dsimp only [InR]; omega)).val (congrArg (Value.int .i64) (show (k : Int) + 1 = ((k + 1 : Nat) : Int) by omega))) rfl rfl rfl ?_
          refine KL.op (R.assign rfl rfl) rfl rfl rfl ?_
          refine KL.nil ?_
          refine KQ.again ((k + 1, n + 1)) ?_ ?_ ?_
          · exact (Sub.cons rfl (Sub.cons rfl (Ext.sub (by repeat (first | exact Ext.refl _ _ | refine Ext.put rfl ?_ | refine Ext.drop rfl ?_)))))
          · show m.imports.length - (k + 1) < m.imports.length - k; omega
          · exact ⟨by show k + 1 ≤ _; omega, rfl, by dsimp only; omega, by dsimp only; omega⟩
      · intro hc23
        try simp only [decide_eq_true_eq, decide_eq_false_iff_not, Bool.not_eq_true', Bool.not_eq_false', Bool.and_eq_true, Bool.or_eq_false_iff] at hc23
        rw [if_neg (by unfold isK; simpa using hc23), List.append_nil] at hst
        have hst2 := congrArg List.length hst
        refine KC.skip ?_
        refine KQ.normBlock ?_
        refine KQ.seq ?_
        refine KC.region ?_
        refine KL.op (R.move rfl rfl) rfl rfl rfl ?_
        refine KL.op ((R.add rfl rfl rfl (by dsimp only [InR]; omega)).val (congrArg (Value.int .i64) (show (k : Int) + 1 = ((k + 1 : Nat) : Int) by omega))) rfl rfl rfl ?_
        refine KL.op (R.assign rfl rfl) rfl rfl rfl ?_
        refine KL.nil ?_
        refine KQ.again ((k + 1, n)) ?_ ?_ ?_
        · exact (Sub.cons rfl (Sub.cons rfl (Ext.sub (by repeat (first | exact Ext.refl _ _ | refine Ext.put rfl ?_ | refine Ext.drop rfl ?_)))))
        · show m.imports.length - (k + 1) < m.imports.length - k; omega
        · exact ⟨by show k + 1 ≤ _; omega, rfl, by dsimp only; omega, by dsimp only; omega⟩
    · intro hc13
      try simp only [decide_eq_true_eq, decide_eq_false_iff_not, Bool.not_eq_true', Bool.not_eq_false', Bool.and_eq_true, Bool.or_eq_false_iff] at hc13
      exfalso
      have hkl : k = m.imports.length := by omega
      rw [hkl, List.take_length] at hn
      omega

end Go.Proofs.Ytbmikddaiedhiaa
