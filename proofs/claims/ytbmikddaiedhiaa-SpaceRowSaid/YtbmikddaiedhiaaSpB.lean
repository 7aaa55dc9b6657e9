/- Types are compared and copied. No condition but sizes. -/
import Derived.Test.YtbmikddaiedhiaaSpA
import Derived.Test.YtbmikddaiedhiaaKAny
namespace Go.Proofs.Ytbmikddaiedhiaa
open Go Go.RowKit
set_option linter.unusedVariables false
set_option linter.unusedSimpArgs false
set_option linter.unnecessarySimpa false

theorem take_same {α : Type} [Inhabited α] {a b : List α} {k : Nat} (h1 : k < a.length) (h2 : k < b.length) : a.take (k + 1) = b.take (k + 1) ↔ a.take k = b.take k ∧ a.getD k default = b.getD k default := by
  rw [List.take_add_one, List.take_add_one, List.getElem?_eq_getElem h1, List.getElem?_eq_getElem h2, List.getD_eq_getElem?_getD, List.getD_eq_getElem?_getD, List.getElem?_eq_getElem h1, List.getElem?_eq_getElem h2]
  constructor
  · intro h
    have := List.append_inj h (by simp; omega)
    exact ⟨this.1, by simpa using this.2⟩
  · rintro ⟨h1, h2⟩
    rw [h1]
    simp only [Option.getD_some] at h2
    rw [h2]
theorem over_all {cs us : List Value} (h : us.length = cs.length) : cs.take 0 ++ us ++ cs.drop (0 + us.length) = us := by simp [h]
theorem Sl.lenM {α : Type} {n : Nat} {E : El α} {H : Heap} {v : Value} {l : List α} (h : Sl n E H v l) : l.length ≤ maxLen := by obtain ⟨a, cap, _, h1, h2, _⟩ := h; omega
theorem getD_mem {α : Type} [Inhabited α] {l : List α} {j : Nat} (hj : j < l.length) : l.getD j default ∈ l := by
  rw [List.getD_eq_getElem?_getD, List.getElem?_eq_getElem hj]; exact List.getElem_mem _

set_option maxRecDepth 100000 in
set_option maxHeartbeats 4000000 in
theorem Equal8_any {H : Heap} {va vb : Value} {a b : List Int} (ha : Sl 1 (EInt .u8) H va a) (hb : Sl 1 (EInt .u8) H vb b) : Ct Try.prog 26 [va, vb] H (fun u H' => u = .bool (decide (a = b)) ∧ H = H') := by
  refine Ct.mk Try.func26 rfl Try.ntmps26 rfl ?_
  intro W0 hW0
  have o0 : Old H H := Old.refl H
  have hlm := ha.lenM
  unfold maxLen at hlm
  refine KC.seq ?_
  refine KC.region ?_
  refine KL.op (R.assign rfl rfl) rfl rfl rfl ?_
  refine KL.nil ?_
  refine KQ.seq ?_
  refine KC.seq ?_
  refine KC.seq ?_
  refine KC.region ?_
  refine KL.op (R.move rfl rfl) rfl rfl rfl ?_
  refine KL.op (R.lenS rfl Try.underlying22 rfl ha) rfl rfl rfl ?_
  refine KL.op (R.move rfl rfl) rfl rfl rfl ?_
  refine KL.op (R.lenS rfl Try.underlying22 rfl hb) rfl rfl rfl ?_
  refine KL.op (R.neq rfl rfl rfl) rfl rfl rfl ?_
  refine KL.nil ?_
  refine KQ.seq ?_
  refine KC.iteL rfl ?_ ?_
  · intro hc10
    try simp only [decide_eq_true_eq, decide_eq_false_iff_not, Bool.not_eq_true', Bool.not_eq_false', Bool.and_eq_true, Bool.or_eq_false_iff] at hc10
    refine KC.seq ?_
    refine KC.region ?_
    refine KL.op (R.assign rfl rfl) rfl rfl rfl ?_
    refine KL.nil ?_
    refine KQ.seq ?_
    refine KC.ret ?_
    refine KQ.retThen ?_
    refine KQ.ofRet ?_
    refine KQ.fin1 Try.results26 rfl ?_
    first
      | exact ⟨congrArg Value.bool (decide_eq_false (fun e => absurd (congrArg List.length e) (by omega))).symm, rfl⟩
      | exact ⟨congrArg Value.bool (decide_eq_false (fun e => by subst e; omega)).symm, rfl⟩
      | (have hkl : k = a.length := by omega
         have hl2 : a.length = b.length := by omega
         rw [hkl, List.take_length, hl2, List.take_length] at hT
         exact ⟨congrArg Value.bool (decide_eq_true hT).symm, rfl⟩)
  · intro hc10
    try simp only [decide_eq_true_eq, decide_eq_false_iff_not, Bool.not_eq_true', Bool.not_eq_false', Bool.and_eq_true, Bool.or_eq_false_iff] at hc10
    refine KC.skip ?_
    refine KQ.seq ?_
    refine KC.seq ?_
    refine KC.seq ?_
    refine KC.region ?_
    refine KL.op (R.move rfl rfl) rfl rfl rfl ?_
    refine KL.op (R.lenS rfl Try.underlying22 rfl ha) rfl rfl rfl ?_
    refine KL.op (R.move rfl rfl) rfl rfl rfl ?_
    refine KL.nil ?_
    refine KQ.seq ?_
    refine KC.block ?_
    refine KC.loopD (κ := Nat) [14, 15, 5, 16, 17, 18, 19, 20, 21, 22, 23, 24, 4, 25, 13] (fun k => [(13, .int .i64 (k : Nat))]) (fun k Hl => k ≤ a.length ∧ H = Hl ∧ a.take k = b.take k) (fun k => a.length - k) 0 ?_ ?_ ?_
    · exact (Sub.cons rfl (Ext.sub (Ext.refl _ _)))
    · exact ⟨Nat.zero_le _, rfl, by simp⟩
    · rintro k H1 ⟨hk, rfl, hT⟩
      refine KC.seq ?_
      refine KC.region ?_
      refine KL.op (R.lss rfl rfl rfl) rfl rfl rfl ?_
      refine KL.nil ?_
      refine KQ.seq ?_
      refine KC.seq ?_
      refine KC.iteL rfl ?_ ?_
      · intro hc14
        try simp only [decide_eq_true_eq, decide_eq_false_iff_not, Bool.not_eq_true', Bool.not_eq_false', Bool.and_eq_true, Bool.or_eq_false_iff] at hc14
        refine KC.skip ?_
        refine KQ.seq ?_
        refine KC.seq ?_
        refine KC.block ?_
        refine KC.seq ?_
        refine KC.region ?_
        refine KL.op (R.move rfl rfl) rfl rfl rfl ?_
        refine KL.op (R.assign rfl rfl) rfl rfl rfl ?_
        refine KL.nil ?_
        refine KQ.seq ?_
        refine KC.seq ?_
        refine KC.quiet (by kernel_rfl) (by kernel_rfl) ?_
        refine KD.op (R.move rfl rfl) rfl rfl rfl ?_
        refine KD.op (R.move rfl rfl) rfl rfl rfl ?_
        refine KD.op (R.index1 (j := k) rfl Try.underlying22 sz5 rfl rfl ha rfl (by omega)) rfl rfl rfl ?_
        refine KD.op (R.load rfl Try.underlying5 rfl rfl (ha.int k (by omega)).1) rfl rfl rfl ?_
        refine KD.op (R.move rfl rfl) rfl rfl rfl ?_
        refine KD.op (R.move rfl rfl) rfl rfl rfl ?_
        refine KD.op (R.index1 (j := k) rfl Try.underlying22 sz5 rfl rfl hb rfl (by omega)) rfl rfl rfl ?_
        refine KD.op (R.load rfl Try.underlying5 rfl rfl (hb.int k (by omega)).1) rfl rfl rfl ?_
        refine KD.op (R.neq rfl rfl rfl) rfl rfl rfl ?_
        refine KD.nil ?_
        refine KQ.seq ?_
        refine KC.iteL rfl ?_ ?_
        · intro hc24
          try simp only [decide_eq_true_eq, decide_eq_false_iff_not, Bool.not_eq_true', Bool.not_eq_false', Bool.and_eq_true, Bool.or_eq_false_iff] at hc24
          refine KC.seq ?_
          refine KC.region ?_
          refine KL.op (R.assign rfl rfl) rfl rfl rfl ?_
          refine KL.nil ?_
          refine KQ.seq ?_
          refine KC.ret ?_
          refine KQ.retBlock ?_
          refine KQ.retThen ?_
          refine KQ.retThen ?_
          refine KQ.retBlock ?_
          refine KQ.retThen ?_
          refine KQ.ofRet ?_
          refine KQ.fin1 Try.results26 rfl ?_
          first
            | exact ⟨congrArg Value.bool (decide_eq_false (fun e => absurd (congrArg List.length e) (by omega))).symm, rfl⟩
            | exact ⟨congrArg Value.bool (decide_eq_false (fun e => by subst e; omega)).symm, rfl⟩
            | (have hkl : k = a.length := by omega
               have hl2 : a.length = b.length := by omega
               rw [hkl, List.take_length, hl2, List.take_length] at hT
               exact ⟨congrArg Value.bool (decide_eq_true hT).symm, rfl⟩)
        · intro hc24
          try simp only [decide_eq_true_eq, decide_eq_false_iff_not, Bool.not_eq_true', Bool.not_eq_false', Bool.and_eq_true, Bool.or_eq_false_iff] at hc24
          refine KC.skip ?_
          refine KQ.normBlock ?_
          refine KQ.seq ?_
          refine KC.region ?_
          refine KL.op ((R.add rfl rfl rfl (by dsimp only [InR]; omega)).val (congrArg (Value.int .i64) (show (k : Int) + 1 = ((k + 1 : Nat) : Int) by omega))) rfl rfl rfl ?_
          refine KL.op (R.move rfl rfl) rfl rfl rfl ?_
          refine KL.nil ?_
          refine KQ.again (k + 1) ?_ ?_ ?_
          · exact (Sub.cons rfl (Ext.sub (by repeat (first | exact Ext.refl _ _ | refine Ext.put rfl ?_ | refine Ext.drop rfl ?_))))
          · omega
          · exact ⟨by omega, rfl, (take_same (by omega) (by omega)).2 ⟨hT, by omega⟩⟩
      · intro hc14
        try simp only [decide_eq_true_eq, decide_eq_false_iff_not, Bool.not_eq_true', Bool.not_eq_false', Bool.and_eq_true, Bool.or_eq_false_iff] at hc14
        refine KC.exit ?_
        refine KQ.exitThen ?_
        refine KQ.exitThen ?_
        refine KQ.hit ?_
        refine KQ.seq ?_
        refine KC.seq ?_
        refine KC.region ?_
        refine KL.op (R.assign rfl rfl) rfl rfl rfl ?_
        refine KL.nil ?_
        refine KQ.seq ?_
        refine KC.ret ?_
        refine KQ.ofRet ?_
        refine KQ.fin1 Try.results26 rfl ?_
        first
          | exact ⟨congrArg Value.bool (decide_eq_false (fun e => absurd (congrArg List.length e) (by omega))).symm, rfl⟩
          | exact ⟨congrArg Value.bool (decide_eq_false (fun e => by subst e; omega)).symm, rfl⟩
          | (have hkl : k = a.length := by omega
             have hl2 : a.length = b.length := by omega
             rw [hkl, List.take_length, hl2, List.take_length] at hT
             exact ⟨congrArg Value.bool (decide_eq_true hT).symm, rfl⟩)

set_option maxRecDepth 100000 in
set_option maxHeartbeats 4000000 in
theorem Same_any {H : Heap} {v1 w1 v2 w2 : Value} {a b : FTy} (h1 : Sl 1 (EInt .u8) H v1 a.1) (k1 : Sl 1 (EInt .u8) H w1 a.2) (h2 : Sl 1 (EInt .u8) H v2 b.1) (k2 : Sl 1 (EInt .u8) H w2 b.2) : Ct Try.prog 7 [.agg [v1, w1].toArray, .agg [v2, w2].toArray] H (fun u H' => u = .bool (decide (a = b)) ∧ Old H H') := by
  refine Ct.mk Try.func7 rfl Try.ntmps7 rfl ?_
  intro W0 hW0
  have o0 : Old H H := Old.refl H
  refine KC.seq ?_
  refine KC.region ?_
  refine KL.opM (M.box rfl rfl rfl) rfl rfl rfl ?_
  rintro _ H1 ⟨rfl, n1⟩
  have z1 := n1.2.1
  have o0 := o0.trans n1.1
  have h1 := h1.old n1.1
  have k1 := k1.old n1.1
  have h2 := h2.old n1.1
  have k2 := k2.old n1.1
  have b1 := n1.2.2
  have ba := b1
  refine KL.opM (M.box rfl rfl rfl) rfl rfl rfl ?_
  rintro _ H2 ⟨rfl, n2⟩
  have z2 := n2.2.1
  have o0 := o0.trans n2.1
  have h1 := h1.old n2.1
  have k1 := k1.old n2.1
  have h2 := h2.old n2.1
  have k2 := k2.old n2.1
  have ba := (n2.1).blk ba
  have b2 := n2.2.2
  have bb := b2
  refine KL.op (R.assign rfl rfl) rfl rfl rfl ?_
  refine KL.nil ?_
  refine KQ.seq ?_
  refine KC.seq ?_
  refine KC.region ?_
  refine KL.op ((by first | exact R.fieldAddr rfl Try.underlying24 rfl rfl sz22 rfl | exact R.fieldAddrP rfl Try.underlying24 rfl rfl sz22 rfl)) rfl rfl rfl ?_
  refine KL.op (R.load rfl Try.underlying22 rfl rfl (by first | exact cell_of ba rfl | exact cell_of bb rfl | assumption)) rfl rfl rfl ?_
  refine KL.op ((by first | exact R.fieldAddr rfl Try.underlying24 rfl rfl sz22 rfl | exact R.fieldAddrP rfl Try.underlying24 rfl rfl sz22 rfl)) rfl rfl rfl ?_
  refine KL.op (R.load rfl Try.underlying22 rfl rfl (by first | exact cell_of ba rfl | exact cell_of bb rfl | assumption)) rfl rfl rfl ?_
  refine KL.call rfl rfl rfl rfl Try.call26 rfl rfl rfl (Equal8_any h1 h2) ?_
  rintro _ _ ⟨rfl, rfl⟩
  refine KL.op (R.move rfl rfl) rfl rfl rfl ?_
  refine KL.case (d := 10) rfl ?_ ?_
  · intro hg10
    try simp only [decide_eq_true_eq, decide_eq_false_iff_not, Bool.not_eq_true', Bool.not_eq_false', Bool.and_eq_true, Bool.or_eq_false_iff] at hg10
    refine KL.op ((by first | exact R.fieldAddr rfl Try.underlying24 rfl rfl sz22 rfl | exact R.fieldAddrP rfl Try.underlying24 rfl rfl sz22 rfl)) rfl rfl rfl ?_
    refine KL.op (R.load rfl Try.underlying22 rfl rfl (by first | exact cell_of ba rfl | exact cell_of bb rfl | assumption)) rfl rfl rfl ?_
    refine KL.op ((by first | exact R.fieldAddr rfl Try.underlying24 rfl rfl sz22 rfl | exact R.fieldAddrP rfl Try.underlying24 rfl rfl sz22 rfl)) rfl rfl rfl ?_
    refine KL.op (R.load rfl Try.underlying22 rfl rfl (by first | exact cell_of ba rfl | exact cell_of bb rfl | assumption)) rfl rfl rfl ?_
    refine KL.call rfl rfl rfl rfl Try.call26 rfl rfl rfl (Equal8_any k1 k2) ?_
    rintro _ _ ⟨rfl, rfl⟩
    refine KL.op (R.pick rfl rfl rfl) rfl rfl rfl ?_
    refine KL.op (R.assign rfl rfl) rfl rfl rfl ?_
    refine KL.nil ?_
    refine KQ.seq ?_
    refine KC.ret ?_
    refine KQ.ofRet ?_
    refine KQ.fin1 Try.results7 rfl ?_
    first
      | exact ⟨congrArg Value.bool (by first | (symm; rw [decide_eq_false_iff_not]; rintro rfl; simp_all) | (rw [decide_eq_decide]; constructor <;> intro h <;> simp_all [Prod.ext_iff])), o0⟩
  · intro hg10
    try simp only [decide_eq_true_eq, decide_eq_false_iff_not, Bool.not_eq_true', Bool.not_eq_false', Bool.and_eq_true, Bool.or_eq_false_iff] at hg10
    refine KL.skip rfl rfl rfl ?_
    refine KL.skip rfl rfl rfl ?_
    refine KL.skip rfl rfl rfl ?_
    refine KL.skip rfl rfl rfl ?_
    refine KL.skip rfl rfl rfl ?_
    refine KL.op (R.pick rfl rfl rfl) rfl rfl rfl ?_
    refine KL.op (R.assign rfl rfl) rfl rfl rfl ?_
    refine KL.nil ?_
    refine KQ.seq ?_
    refine KC.ret ?_
    refine KQ.ofRet ?_
    refine KQ.fin1 Try.results7 rfl ?_
    first
      | exact ⟨congrArg Value.bool (by first | (symm; rw [decide_eq_false_iff_not]; rintro rfl; simp_all) | (rw [decide_eq_decide]; constructor <;> intro h <;> simp_all [Prod.ext_iff])), o0⟩

theorem bstr_cmp {a b : List Int} (ha : ∀ x ∈ a, InR .u8 x) (hb : ∀ x ∈ b, InR .u8 x) : ((bstr a).toList == (bstr b).toList) = decide (a = b) := by
  by_cases h : a = b
  · subst h; simp
  · rw [decide_eq_false h, beq_eq_false_iff_ne]
    intro e
    apply h
    have e2 : ints (bstr a) = ints (bstr b) := by
      have : bstr a = bstr b := by
        apply ByteArray.ext
        have := congrArg List.toArray e
        simpa [ByteArray.toList_eq] using this
      rw [this]
    rwa [ints_bstr ha, ints_bstr hb] at e2

set_option maxRecDepth 100000 in
set_option maxHeartbeats 4000000 in
theorem RSame_any {H : Heap} {v1 w1 v2 w2 : Value} {a b : FTy} (h1 : Sl 1 (EInt .u8) H v1 a.1) (k1 : Sl 1 (EInt .u8) H w1 a.2) (h2 : Sl 1 (EInt .u8) H v2 b.1) (k2 : Sl 1 (EInt .u8) H w2 b.2) : Ct Try.prog 8 [.agg [v1, w1].toArray, .agg [v2, w2].toArray] H (fun u H' => u = .bool (decide (a = b)) ∧ Old H H') := by
  refine Ct.mk Try.func8 rfl Try.ntmps8 rfl ?_
  intro W0 hW0
  have o0 : Old H H := Old.refl H
  refine KC.seq ?_
  refine KC.region ?_
  refine KL.opM (M.box rfl rfl rfl) rfl rfl rfl ?_
  rintro _ H1 ⟨rfl, n1⟩
  have z1 := n1.2.1
  have o0 := o0.trans n1.1
  have h1 := h1.old n1.1
  have k1 := k1.old n1.1
  have h2 := h2.old n1.1
  have k2 := k2.old n1.1
  have b1 := n1.2.2
  have ba := b1
  refine KL.opM (M.box rfl rfl rfl) rfl rfl rfl ?_
  rintro _ H2 ⟨rfl, n2⟩
  have z2 := n2.2.1
  have o0 := o0.trans n2.1
  have h1 := h1.old n2.1
  have k1 := k1.old n2.1
  have h2 := h2.old n2.1
  have k2 := k2.old n2.1
  have ba := (n2.1).blk ba
  have b2 := n2.2.2
  have bb := b2
  refine KL.op (R.assign rfl rfl) rfl rfl rfl ?_
  refine KL.nil ?_
  refine KQ.seq ?_
  refine KC.seq ?_
  refine KC.region ?_
  refine KL.op ((by first | exact R.fieldAddr rfl Try.underlying24 rfl rfl sz22 rfl | exact R.fieldAddrP rfl Try.underlying24 rfl rfl sz22 rfl)) rfl rfl rfl ?_
  refine KL.op (R.load rfl Try.underlying22 rfl rfl (by first | exact cell_of ba rfl | exact cell_of bb rfl | assumption)) rfl rfl rfl ?_
  refine KL.op (R.convBS rfl Try.underlying22 Try.underlying5 Try.underlying9 rfl (by exact h1)) rfl rfl rfl ?_
  refine KL.op ((by first | exact R.fieldAddr rfl Try.underlying24 rfl rfl sz22 rfl | exact R.fieldAddrP rfl Try.underlying24 rfl rfl sz22 rfl)) rfl rfl rfl ?_
  refine KL.op (R.load rfl Try.underlying22 rfl rfl (by first | exact cell_of ba rfl | exact cell_of bb rfl | assumption)) rfl rfl rfl ?_
  refine KL.op (R.convBS rfl Try.underlying22 Try.underlying5 Try.underlying9 rfl (by exact h2)) rfl rfl rfl ?_
  refine KL.op ((R.eqlStr rfl rfl rfl).val (congrArg Value.bool (bstr_cmp h1.int_range h2.int_range))) rfl rfl rfl ?_
  refine KL.op (R.move rfl rfl) rfl rfl rfl ?_
  refine KL.case (d := 12) rfl ?_ ?_
  · intro hg12
    try simp only [decide_eq_true_eq, decide_eq_false_iff_not, Bool.not_eq_true', Bool.not_eq_false', Bool.and_eq_true, Bool.or_eq_false_iff] at hg12
    refine KL.op ((by first | exact R.fieldAddr rfl Try.underlying24 rfl rfl sz22 rfl | exact R.fieldAddrP rfl Try.underlying24 rfl rfl sz22 rfl)) rfl rfl rfl ?_
    refine KL.op (R.load rfl Try.underlying22 rfl rfl (by first | exact cell_of ba rfl | exact cell_of bb rfl | assumption)) rfl rfl rfl ?_
    refine KL.op (R.convBS rfl Try.underlying22 Try.underlying5 Try.underlying9 rfl (by exact k1)) rfl rfl rfl ?_
    refine KL.op ((by first | exact R.fieldAddr rfl Try.underlying24 rfl rfl sz22 rfl | exact R.fieldAddrP rfl Try.underlying24 rfl rfl sz22 rfl)) rfl rfl rfl ?_
    refine KL.op (R.load rfl Try.underlying22 rfl rfl (by first | exact cell_of ba rfl | exact cell_of bb rfl | assumption)) rfl rfl rfl ?_
    refine KL.op (R.convBS rfl Try.underlying22 Try.underlying5 Try.underlying9 rfl (by exact k2)) rfl rfl rfl ?_
    refine KL.op ((R.eqlStr rfl rfl rfl).val (congrArg Value.bool (bstr_cmp k1.int_range k2.int_range))) rfl rfl rfl ?_
    refine KL.op (R.pick rfl rfl rfl) rfl rfl rfl ?_
    refine KL.op (R.assign rfl rfl) rfl rfl rfl ?_
    refine KL.nil ?_
    refine KQ.seq ?_
    refine KC.ret ?_
    refine KQ.ofRet ?_
    refine KQ.fin1 Try.results8 rfl ?_
    first
      | exact ⟨congrArg Value.bool (by first | (symm; rw [decide_eq_false_iff_not]; rintro rfl; simp_all) | (rw [decide_eq_decide]; constructor <;> intro h <;> simp_all [Prod.ext_iff])), o0⟩
  · intro hg12
    try simp only [decide_eq_true_eq, decide_eq_false_iff_not, Bool.not_eq_true', Bool.not_eq_false', Bool.and_eq_true, Bool.or_eq_false_iff] at hg12
    refine KL.skip rfl rfl rfl ?_
    refine KL.skip rfl rfl rfl ?_
    refine KL.skip rfl rfl rfl ?_
    refine KL.skip rfl rfl rfl ?_
    refine KL.skip rfl rfl rfl ?_
    refine KL.skip rfl rfl rfl ?_
    refine KL.skip rfl rfl rfl ?_
    refine KL.op (R.pick rfl rfl rfl) rfl rfl rfl ?_
    refine KL.op (R.assign rfl rfl) rfl rfl rfl ?_
    refine KL.nil ?_
    refine KQ.seq ?_
    refine KC.ret ?_
    refine KQ.ofRet ?_
    refine KQ.fin1 Try.results8 rfl ?_
    first
      | exact ⟨congrArg Value.bool (by first | (symm; rw [decide_eq_false_iff_not]; rintro rfl; simp_all) | (rw [decide_eq_decide]; constructor <;> intro h <;> simp_all [Prod.ext_iff])), o0⟩

set_option maxRecDepth 100000 in
set_option maxHeartbeats 4000000 in
theorem own_any {H : Heap} {v w : Value} {x : FTy} (h1 : Sl 1 (EInt .u8) H v x.1) (k1 : Sl 1 (EInt .u8) H w x.2) (hl : x.1.length ≤ 100000000000 ∧ x.2.length ≤ 100000000000) : Ct Try.prog 28 [.agg [v, w].toArray] H (fun u H' => (∃ v2 w2, u = .agg [v2, w2].toArray ∧ Own 1 (EInt .u8) 5 #[] H.size H' v2 x.1 ∧ Own 1 (EInt .u8) 5 #[] H.size H' w2 x.2) ∧ Old H H') := by
  refine Ct.mk Try.func28 rfl Try.ntmps28 rfl ?_
  intro W0 hW0
  have o0 : Old H H := Old.refl H
  refine KC.seq ?_
  refine KC.region ?_
  refine KL.opM (M.box rfl rfl rfl) rfl rfl rfl ?_
  rintro _ H1 ⟨rfl, n1⟩
  have z1 := n1.2.1
  have o0 := o0.trans n1.1
  have h1 := h1.old n1.1
  have k1 := k1.old n1.1
  have b1 := n1.2.2
  have bx := b1
  refine KL.opM (M.alloc rfl zr24 rfl) rfl rfl rfl ?_
  rintro _ H2 ⟨rfl, n2⟩
  have z2 := n2.2.1
  have o0 := o0.trans n2.1
  have h1 := h1.old n2.1
  have k1 := k1.old n2.1
  have bx := (n2.1).blk bx
  have b2 := n2.2.2
  have bq := b2
  refine KL.nil ?_
  refine KQ.seq ?_
  refine KC.seq ?_
  refine KC.text (clOf [(2, 2), (5, 2), (7, 2)]) (fun i Hc => (i = 1 ∨ i = 4) → Hc[Array.size H]? = some (.cells [v, w].toArray 24 (0, 0))) (by kernel_rfl) (by kernel_rfl) (fun _ _ => bx) ?_
  refine KP.op rfl (fun Hg hg => (by first | exact R.fieldAddr rfl Try.underlying24 rfl rfl sz22 rfl | exact R.fieldAddrP rfl Try.underlying24 rfl rfl sz22 rfl)) rfl rfl rfl ?_
  refine KP.op rfl (fun Hg hg => R.load rfl Try.underlying22 rfl rfl (cell_of (hg (.inl rfl)) rfl)) rfl rfl rfl ?_
  refine KP.call rfl rfl rfl rfl rfl Try.call40 rfl rfl rfl (Clone8_any h1 hl.1) (fun _ _ hR j _ _ _ => hR.2.blk bx) ?_
  rintro v2 H3 ⟨wa, ox⟩
  have zc_H3 := (ox).1
  have o0 := o0.trans ox
  have h1 := h1.old ox
  have k1 := k1.old ox
  have bx := (ox).blk bx
  have bq := (ox).blk bq
  refine KP.op rfl (fun Hg hg => (by first | exact R.fieldAddr rfl Try.underlying24 rfl rfl sz22 rfl | exact R.fieldAddrP rfl Try.underlying24 rfl rfl sz22 rfl)) rfl rfl rfl ?_
  refine KP.op rfl (fun Hg hg => R.load rfl Try.underlying22 rfl rfl (cell_of (hg (.inr rfl)) rfl)) rfl rfl rfl ?_
  refine KP.call rfl rfl rfl rfl rfl Try.call40 rfl rfl rfl (Clone8_any k1 hl.2) (fun _ _ hR j _ _ _ => hR.2.blk bx) ?_
  rintro w2 H4 ⟨wb, ox⟩
  have zc_H4 := (ox).1
  have o0 := o0.trans ox
  have h1 := h1.old ox
  have k1 := k1.old ox
  have bx := (ox).blk bx
  have bq := (ox).blk bq
  have wa := wa.old ox
  refine KP.op rfl (fun Hg hg => R.buildL rfl Try.underlying24 zr24 [(0, 1), (1, 1)] (fun w => by kernel_rfl) rfl ⟨⟨_, rfl, rfl⟩, ⟨_, rfl, rfl⟩, trivial⟩ rfl rfl ⟨⟨_, rfl, by first | rfl | exact h1.cells1 | exact k1.cells1 | exact wa.cells1 | exact wb.cells1⟩, ⟨_, rfl, by first | rfl | exact h1.cells1 | exact k1.cells1 | exact wa.cells1 | exact wb.cells1⟩, trivial⟩ rfl) rfl rfl rfl ?_
  refine KP.opS rfl (S.storeAgg rfl sz24 rfl rfl (rfl) (by intro u hu; simp only [List.mem_cons, List.not_mem_nil, or_false] at hu; rcases hu with rfl | rfl <;> first | exact wa.one | exact wb.one) bq (by simp)) rfl rfl (fun _ _ j hj1 hj2 hj => by rcases hj with rfl | rfl <;> exact absurd (by decide +kernel) hj2) ?_
  rintro H5 ⟨u5, b5⟩
  have o0 := o0.upd u5 (by omega)
  have zu5 := u5.1
  have bx := ((u5).2 _ (by omega)).trans bx
  have wa := wa.upd u5 (by first | exact .inl rfl | exact .inr (by omega) | exact wa.lt.imp id (fun h => by omega))
  have wb := wb.upd u5 (by first | exact .inl rfl | exact .inr (by omega) | exact wb.lt.imp id (fun h => by omega))
  have bq := b5
  rw [over_all (by rfl)] at bq
  refine KP.nil ?_
  refine KQ.seq ?_
  refine KC.ret ?_
  refine KQ.ofRet ?_
  refine KQ.finCell Try.results28 rfl Try.underlying24 rfl sz24 (cells_of bq) (rfl) ?_
  exact ⟨⟨_, _, rfl, wa.weak (by omega), wb.weak (by omega)⟩, o0⟩

end Go.Proofs.Ytbmikddaiedhiaa
