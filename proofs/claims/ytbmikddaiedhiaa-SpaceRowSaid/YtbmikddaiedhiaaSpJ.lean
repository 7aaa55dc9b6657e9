/- Which modules are great. No condition but sizes. -/
import Derived.Test.YtbmikddaiedhiaaSpI
namespace Go.Proofs.Ytbmikddaiedhiaa
open Go Go.RowKit
set_option linter.unusedVariables false
set_option linter.unusedSimpArgs false
set_option linter.unnecessarySimpa false

def six (m : Mo) : Nat := m.imports.length + m.funcs.length + m.tables.length + m.mems.length + m.globals.length + m.exports.length
def tyN (l : List FTy) : Nat := (l.map fun t => 1 + t.1.length + t.2.length).sum
theorem tyN_step {l : List FTy} {k : Nat} (hk : k < l.length) : tyN (l.take (k + 1)) = tyN (l.take k) + 1 + (l.getD k default).1.length + (l.getD k default).2.length := by
  unfold tyN
  rw [take_succ hk, List.map_append, List.sum_append]
  simp
  omega
theorem tyN_take {l : List FTy} (k : Nat) : tyN (l.take k) ≤ tyN l := by
  have h := congrArg tyN (List.take_append_drop k l)
  unfold tyN at *
  rw [List.map_append, List.sum_append] at h
  omega
/-- no slice passes the form's reach -/
structure Small (m : Mo) : Prop where
  l : m.imports.length ≤ 140737488351232 ∧ m.funcs.length ≤ 140737488351232 ∧ m.tables.length ≤ 140737488351232 ∧ m.mems.length ≤ 140737488351232 ∧ m.globals.length ≤ 140737488351232 ∧ m.exports.length ≤ 140737488351232 ∧ m.types.length ≤ 140737488351232
  t : ∀ t ∈ m.types, t.1.length ≤ 140737488351232 ∧ t.2.length ≤ 140737488351232

set_option maxRecDepth 100000 in
set_option maxHeartbeats 4000000 in
theorem RGreat_any {H : Heap} {v0 v1 v2 v3 v4 v5 v6 v7 v8 v9 va vb : Value} {m : Mo} (mv : MV H v0 v1 v2 v3 v4 v5 v6 v7 v8 v9 va vb m) (hS : Small m) : Ct Try.prog 9 [.agg [v0, v1, v2, v3, v4, v5, v6, v7, v8, v9, va, vb].toArray] H (fun u H' => u = .bool (decide (3000 < six m + tyN m.types)) ∧ Old H H') := by
  refine Ct.mk Try.func9 rfl Try.ntmps9 rfl ?_
  intro W0 hW0
  have o0 : Old H H := Old.refl H
  have hSl := hS.l
  refine KC.seq ?_
  refine KC.region ?_
  refine KL.opM (M.box rfl rfl rfl) rfl rfl rfl ?_
  rintro _ H1 ⟨rfl, n1⟩
  have z1 := n1.2.1
  have o0 := o0.trans n1.1
  have mv := mv.old n1.1
  have b1 := n1.2.2
  have bx := b1
  refine KL.op (R.assign rfl rfl) rfl rfl rfl ?_
  refine KL.nil ?_
  refine KQ.seq ?_
  refine KC.seq ?_
  refine KC.region ?_
  refine KL.op ((by first | exact R.fieldAddr rfl Try.underlying38 rfl rfl sz28 rfl | exact R.fieldAddrP rfl Try.underlying38 rfl rfl sz28 rfl)) rfl rfl rfl ?_
  refine KL.op (R.load rfl Try.underlying28 rfl rfl (by first | exact cell_of bx rfl | assumption)) rfl rfl rfl ?_
  refine KL.op (R.lenS rfl Try.underlying28 rfl mv.i) rfl rfl rfl ?_
  refine KL.op ((by first | exact R.fieldAddr rfl Try.underlying38 rfl rfl sz29 rfl | exact R.fieldAddrP rfl Try.underlying38 rfl rfl sz29 rfl)) rfl rfl rfl ?_
  refine KL.op (R.load rfl Try.underlying29 rfl rfl (by first | exact cell_of bx rfl | assumption)) rfl rfl rfl ?_
  refine KL.op (R.lenS rfl Try.underlying29 rfl mv.f) rfl rfl rfl ?_
  refine KL.op ((R.add rfl rfl rfl (by dsimp only [InR]; omega)).val (congrArg (Value.int .i64) (show ((m.imports.length : Nat) : Int) + ((m.funcs.length : Nat) : Int) = ((m.imports.length + m.funcs.length : Nat) : Int) by omega))) rfl rfl rfl ?_
  refine KL.op ((by first | exact R.fieldAddr rfl Try.underlying38 rfl rfl sz30 rfl | exact R.fieldAddrP rfl Try.underlying38 rfl rfl sz30 rfl)) rfl rfl rfl ?_
  refine KL.op (R.load rfl Try.underlying30 rfl rfl (by first | exact cell_of bx rfl | assumption)) rfl rfl rfl ?_
  refine KL.op (R.lenS rfl Try.underlying30 rfl mv.a) rfl rfl rfl ?_
  refine KL.op ((R.add rfl rfl rfl (by dsimp only [InR]; omega)).val (congrArg (Value.int .i64) (show ((m.imports.length + m.funcs.length : Nat) : Int) + ((m.tables.length : Nat) : Int) = ((m.imports.length + m.funcs.length + m.tables.length : Nat) : Int) by omega))) rfl rfl rfl ?_
  refine KL.op ((by first | exact R.fieldAddr rfl Try.underlying38 rfl rfl sz30 rfl | exact R.fieldAddrP rfl Try.underlying38 rfl rfl sz30 rfl)) rfl rfl rfl ?_
  refine KL.op (R.load rfl Try.underlying30 rfl rfl (by first | exact cell_of bx rfl | assumption)) rfl rfl rfl ?_
  refine KL.op (R.lenS rfl Try.underlying30 rfl mv.mm) rfl rfl rfl ?_
  refine KL.op ((R.add rfl rfl rfl (by dsimp only [InR]; omega)).val (congrArg (Value.int .i64) (show ((m.imports.length + m.funcs.length + m.tables.length : Nat) : Int) + ((m.mems.length : Nat) : Int) = ((m.imports.length + m.funcs.length + m.tables.length + m.mems.length : Nat) : Int) by omega))) rfl rfl rfl ?_
  refine KL.op ((by first | exact R.fieldAddr rfl Try.underlying38 rfl rfl sz31 rfl | exact R.fieldAddrP rfl Try.underlying38 rfl rfl sz31 rfl)) rfl rfl rfl ?_
  refine KL.op (R.load rfl Try.underlying31 rfl rfl (by first | exact cell_of bx rfl | assumption)) rfl rfl rfl ?_
  refine KL.op (R.lenS rfl Try.underlying31 rfl mv.g) rfl rfl rfl ?_
  refine KL.op ((R.add rfl rfl rfl (by dsimp only [InR]; omega)).val (congrArg (Value.int .i64) (show ((m.imports.length + m.funcs.length + m.tables.length + m.mems.length : Nat) : Int) + ((m.globals.length : Nat) : Int) = ((m.imports.length + m.funcs.length + m.tables.length + m.mems.length + m.globals.length : Nat) : Int) by omega))) rfl rfl rfl ?_
  refine KL.op ((by first | exact R.fieldAddr rfl Try.underlying38 rfl rfl sz32 rfl | exact R.fieldAddrP rfl Try.underlying38 rfl rfl sz32 rfl)) rfl rfl rfl ?_
  refine KL.op (R.load rfl Try.underlying32 rfl rfl (by first | exact cell_of bx rfl | assumption)) rfl rfl rfl ?_
  refine KL.op (R.lenS rfl Try.underlying32 rfl mv.e) rfl rfl rfl ?_
  refine KL.op ((R.add rfl rfl rfl (by dsimp only [InR]; omega)).val (congrArg (Value.int .i64) (show ((m.imports.length + m.funcs.length + m.tables.length + m.mems.length + m.globals.length : Nat) : Int) + ((m.exports.length : Nat) : Int) = ((m.imports.length + m.funcs.length + m.tables.length + m.mems.length + m.globals.length + m.exports.length : Nat) : Int) by omega))) rfl rfl rfl ?_
  refine KL.op (R.assign rfl rfl) rfl rfl rfl ?_
  refine KL.nil ?_
  refine KQ.seq ?_
  refine KC.seq ?_
  refine KC.seq ?_
  refine KC.region ?_
  refine KL.op (R.assign rfl rfl) rfl rfl rfl ?_
  refine KL.nil ?_
  refine KQ.seq ?_
  refine KC.block ?_
  refine KC.loopD (κ := Nat) [28, 29, 30, 31, 32, 33, 34, 35, 36, 39, 40, 41, 42, 43, 44, 45, 46, 47, 48, 49, 50, 51, 52, 53, 54, 55, 56, 3, 37, 38, 4] (fun k => [(4, .int .i64 (k : Nat)), (3, .int .i64 (six m + tyN (m.types.take k) : Nat))]) (fun k Hl => k ≤ m.types.length ∧ H1 = Hl ∧ six m + tyN (m.types.take k) ≤ 1200000000000000) (fun k => m.types.length - k) 0 ?_ ?_ ?_
  · exact (Sub.cons rfl (Sub.cons (rfl) (Ext.sub (Ext.refl _ _))))
  · exact ⟨Nat.zero_le _, rfl, by unfold six; simp [tyN]; omega⟩
  · rintro k H2 ⟨hk, rfl, hB⟩
    refine KC.seq ?_
    refine KC.seq ?_
    refine KC.region ?_
    refine KL.op (R.move rfl rfl) rfl rfl rfl ?_
    refine KL.op ((by first | exact R.fieldAddr rfl Try.underlying38 rfl rfl sz27 rfl | exact R.fieldAddrP rfl Try.underlying38 rfl rfl sz27 rfl)) rfl rfl rfl ?_
    refine KL.op (R.load rfl Try.underlying27 rfl rfl (by first | exact cell_of bx rfl | assumption)) rfl rfl rfl ?_
    refine KL.op (R.lenS rfl Try.underlying27 rfl mv.t) rfl rfl rfl ?_
    refine KL.op (R.lss rfl rfl rfl) rfl rfl rfl ?_
    refine KL.op (R.move rfl rfl) rfl rfl rfl ?_
    refine KL.case (d := 33) rfl ?_ ?_
    · intro hg33
      try simp only [decide_eq_true_eq, decide_eq_false_iff_not, Bool.not_eq_true', Bool.not_eq_false', Bool.and_eq_true, Bool.or_eq_false_iff] at hg33
      refine KL.op (R.move rfl rfl) rfl rfl rfl ?_
      refine KL.op (R.leq rfl rfl rfl) rfl rfl rfl ?_
      refine KL.op (R.pick rfl rfl rfl) rfl rfl rfl ?_
      refine KL.nil ?_
      refine KQ.seq ?_
      refine KC.iteL rfl ?_ ?_
      · intro hc36
        try simp only [decide_eq_true_eq, decide_eq_false_iff_not, Bool.not_eq_true', Bool.not_eq_false', Bool.and_eq_true, Bool.or_eq_false_iff] at hc36
        obtain ⟨cs, hcl, hcx, w1, w2, rfl, q1, q2⟩ := mv.t.at k (by omega)
        have hst := tyN_step (l := m.types) (k := k) (by omega)
        have hsm := hS.t _ (getD_mem (l := m.types) (j := k) (by omega))
        refine KC.skip ?_
        refine KQ.seq ?_
        refine KC.seq ?_
        refine KC.block ?_
        refine KC.quiet (by kernel_rfl) (by kernel_rfl) ?_
        refine KD.op (R.move rfl rfl) rfl rfl rfl ?_
        refine KD.op (R.add rfl rfl rfl (by dsimp only [InR]; omega)) rfl rfl rfl ?_
        refine KD.op ((by first | exact R.fieldAddr rfl Try.underlying38 rfl rfl sz27 rfl | exact R.fieldAddrP rfl Try.underlying38 rfl rfl sz27 rfl)) rfl rfl rfl ?_
        refine KD.op (R.load rfl Try.underlying27 rfl rfl (by first | exact cell_of bx rfl | assumption)) rfl rfl rfl ?_
        refine KD.op (R.move rfl rfl) rfl rfl rfl ?_
        refine KD.op (R.index (j := k) rfl Try.underlying27 sz24 rfl rfl mv.t rfl (by omega)) rfl rfl rfl ?_
        refine KD.op ((by first | exact R.fieldAddr rfl Try.underlying24 rfl rfl sz22 rfl | exact R.fieldAddrP rfl Try.underlying24 rfl rfl sz22 rfl)) rfl rfl rfl ?_
        refine KD.op (R.load rfl Try.underlying22 rfl rfl (hcx 0 _ rfl)) rfl rfl rfl ?_
        refine KD.op (R.lenS rfl Try.underlying22 rfl q1) rfl rfl rfl ?_
        refine KD.op (R.add rfl rfl rfl (by dsimp only [InR]; omega)) rfl rfl rfl ?_
        refine KD.op ((by first | exact R.fieldAddr rfl Try.underlying38 rfl rfl sz27 rfl | exact R.fieldAddrP rfl Try.underlying38 rfl rfl sz27 rfl)) rfl rfl rfl ?_
        refine KD.op (R.load rfl Try.underlying27 rfl rfl (by first | exact cell_of bx rfl | assumption)) rfl rfl rfl ?_
        refine KD.op (R.move rfl rfl) rfl rfl rfl ?_
        refine KD.op (R.index (j := k) rfl Try.underlying27 sz24 rfl rfl mv.t rfl (by omega)) rfl rfl rfl ?_
        refine KD.op ((by first | exact R.fieldAddr rfl Try.underlying24 rfl rfl sz22 rfl | exact R.fieldAddrP rfl Try.underlying24 rfl rfl sz22 rfl)) rfl rfl rfl ?_
        refine KD.op (R.load rfl Try.underlying22 rfl rfl (hcx 1 _ rfl)) rfl rfl rfl ?_
        refine KD.op (R.lenS rfl Try.underlying22 rfl q2) rfl rfl rfl ?_
        refine KD.op ((R.add rfl rfl rfl (by dsimp only [InR]; omega)).val (congrArg (Value.int .i64) (show ((six m + tyN (m.types.take k)) : Nat) + 1 + ((m.types.getD k default).1.length : Nat) + ((m.types.getD k default).2.length : Nat) = ((six m + tyN (m.types.take (k + 1)) : Nat) : Int) by omega))) rfl rfl rfl ?_
        refine KD.op (R.assign rfl rfl) rfl rfl rfl ?_
        refine KD.nil ?_
        refine KQ.normBlock ?_
        refine KQ.seq ?_
        refine KC.region ?_
        refine KL.op (R.move rfl rfl) rfl rfl rfl ?_
        refine KL.op ((R.add rfl rfl rfl (by dsimp only [InR]; omega)).val (congrArg (Value.int .i64) (show (k : Int) + 1 = ((k + 1 : Nat) : Int) by omega))) rfl rfl rfl ?_
        refine KL.op (R.assign rfl rfl) rfl rfl rfl ?_
        refine KL.nil ?_
        refine KQ.again (k + 1) ?_ ?_ ?_
        · exact (Sub.cons rfl (Sub.cons rfl (Ext.sub (by repeat (first | exact Ext.refl _ _ | refine Ext.put rfl ?_ | refine Ext.drop rfl ?_)))))
        · omega
        · exact ⟨by omega, rfl, by omega⟩
      · intro hc36
        try simp only [decide_eq_true_eq, decide_eq_false_iff_not, Bool.not_eq_true', Bool.not_eq_false', Bool.and_eq_true, Bool.or_eq_false_iff] at hc36
        refine KC.exit ?_
        refine KQ.exitThen ?_
        refine KQ.exitThen ?_
        refine KQ.hit ?_
        refine KQ.seq ?_
        refine KC.seq ?_
        refine KC.region ?_
        refine KL.op (R.move rfl rfl) rfl rfl rfl ?_
        refine KL.op (R.gtr rfl rfl rfl) rfl rfl rfl ?_
        refine KL.op (R.assign rfl rfl) rfl rfl rfl ?_
        refine KL.nil ?_
        refine KQ.seq ?_
        refine KC.ret ?_
        refine KQ.ofRet ?_
        refine KQ.fin1 Try.results9 rfl ?_
        have e : decide (3000 < ((six m + tyN (m.types.take k) : Nat) : Int)) = decide (3000 < six m + tyN m.types) := by
          have hle := tyN_take (l := m.types) k
          by_cases h1 : k = m.types.length
          · rw [h1, List.take_length]; exact decide_eq_decide.2 (by omega)
          · rw [decide_eq_true (by omega), decide_eq_true (by omega)]
        exact ⟨congrArg Value.bool e, o0⟩
    · intro hg33
      try simp only [decide_eq_true_eq, decide_eq_false_iff_not, Bool.not_eq_true', Bool.not_eq_false', Bool.and_eq_true, Bool.or_eq_false_iff] at hg33
      refine KL.skip rfl rfl rfl ?_
      refine KL.skip rfl rfl rfl ?_
      refine KL.op (R.pick rfl rfl rfl) rfl rfl rfl ?_
      refine KL.nil ?_
      refine KQ.seq ?_
      refine KC.condF rfl ?_
      refine KC.exit ?_
      refine KQ.exitThen ?_
      refine KQ.exitThen ?_
      refine KQ.hit ?_
      refine KQ.seq ?_
      refine KC.seq ?_
      refine KC.region ?_
      refine KL.op (R.move rfl rfl) rfl rfl rfl ?_
      refine KL.op (R.gtr rfl rfl rfl) rfl rfl rfl ?_
      refine KL.op (R.assign rfl rfl) rfl rfl rfl ?_
      refine KL.nil ?_
      refine KQ.seq ?_
      refine KC.ret ?_
      refine KQ.ofRet ?_
      refine KQ.fin1 Try.results9 rfl ?_
      have e : decide (3000 < ((six m + tyN (m.types.take k) : Nat) : Int)) = decide (3000 < six m + tyN m.types) := by
        have hle := tyN_take (l := m.types) k
        by_cases h1 : k = m.types.length
        · rw [h1, List.take_length]; exact decide_eq_decide.2 (by omega)
        · rw [decide_eq_true (by omega), decide_eq_true (by omega)]
      exact ⟨congrArg Value.bool e, o0⟩

end Go.Proofs.Ytbmikddaiedhiaa
