/- Which instructions are the same; which are many. No condition but those stated. -/
import Derived.Test.YtnjodpgahbpiaaaInsJ
namespace Go.Proofs.Ytnjodpgahbpiaaa
open Go Go.RowKit
set_option linter.unusedVariables false
set_option linter.unusedSimpArgs false
set_option linter.unnecessarySimpa false

theorem take_same {α : Type} [Inhabited α] {a b : List α} {k : Nat} (h1 : k < a.length) (h2 : k < b.length) : a.take (k + 1) = b.take (k + 1) ↔ a.take k = b.take k ∧ a.getD k default = b.getD k default := by
  rw [List.take_add_one, List.take_add_one, List.getElem?_eq_getElem h1, List.getElem?_eq_getElem h2, List.getD_eq_getElem?_getD, List.getD_eq_getElem?_getD, List.getElem?_eq_getElem h1, List.getElem?_eq_getElem h2]
  constructor
  · intro h
    have := List.append_inj h (by simp; omega)
    exact ⟨this.1, by simpa using this.2⟩
  · rintro ⟨h1, h2⟩
    rw [h1]
    simp only [Option.getD_some] at h2
    rw [h2]
theorem Sl.lenM {α : Type} {n : Nat} {E : El α} {H : Heap} {v : Value} {l : List α} (h : Sl n E H v l) : l.length ≤ maxLen := by obtain ⟨a, cap, _, h1, h2, _⟩ := h; omega
theorem ins_eq {a b : Ins} : a = b ↔ a.op = b.op ∧ a.a = b.a ∧ a.b = b.b ∧ a.c = b.c ∧ a.l = b.l := by
  obtain ⟨a1, a2, a3, a4, a5⟩ := a
  obtain ⟨b1, b2, b3, b4, b5⟩ := b
  simp
instance : DecidableEq Ins := fun a b => decidable_of_iff _ ins_eq.symm

set_option maxRecDepth 100000 in
set_option maxHeartbeats 4000000 in
theorem Same_any {H : Heap} {a b : Ins} {va vb : Value} (ha : Sl 1 (EInt .u32) H va a.l) (hb : Sl 1 (EInt .u32) H vb b.l) (hla : a.l.length ≤ 100000000) : Ct Try.prog 22 [insV a va, insV b vb] H (fun u H' => u = .bool (decide (a = b)) ∧ Old H H') := by
  refine Ct.mk Try.func22 rfl Try.ntmps22 rfl ?_
  intro W0 hW0
  have o0 : Old H H := Old.refl H
  unfold insV
  refine KC.seq ?_
  refine KC.region ?_
  refine KL.opM (M.box rfl rfl rfl) rfl rfl rfl ?_
  rintro _ H1 ⟨rfl, n1⟩
  have z1 := n1.2.1
  have o0 := o0.trans n1.1
  have ha := ha.old n1.1
  have hb := hb.old n1.1
  have b1 := n1.2.2
  have ba := b1
  refine KL.opM (M.box rfl rfl rfl) rfl rfl rfl ?_
  rintro _ H2 ⟨rfl, n2⟩
  have z2 := n2.2.1
  have o0 := o0.trans n2.1
  have ha := ha.old n2.1
  have hb := hb.old n2.1
  have ba := (n2.1).blk ba
  have b2 := n2.2.2
  have bb := b2
  refine KL.op (R.assign rfl rfl) rfl rfl rfl ?_
  refine KL.nil ?_
  refine KQ.seq ?_
  refine KC.seq ?_
  refine KC.cutD (κ := Unit) [7, 8, 9, 10, 11, 12, 13, 14, 15, 16, 17, 18, 19, 20, 21, 22, 23, 24, 25, 26, 27, 28, 29, 30, 31, 32, 33, 34, 35, 36, 37, 38, 39, 40, 41, 5] (fun _ => [(5, .bool (decide (a.op = b.op ∧ a.a = b.a ∧ a.b = b.b ∧ a.c = b.c ∧ a.l.length = b.l.length)))]) (fun _ Hl => H2 = Hl) ?_ ?_
  · skip
    refine KC.region ?_
    refine KL.op ((by first | exact R.fieldAddr rfl Try.underlying36 rfl rfl sz5 rfl | exact R.fieldAddrP rfl Try.underlying36 rfl rfl sz5 rfl)) rfl rfl rfl ?_
    refine KL.op (R.load rfl Try.underlying5 rfl rfl (by first | exact cell_of ba rfl | exact cell_of bb rfl | assumption)) rfl rfl rfl ?_
    refine KL.op ((by first | exact R.fieldAddr rfl Try.underlying36 rfl rfl sz5 rfl | exact R.fieldAddrP rfl Try.underlying36 rfl rfl sz5 rfl)) rfl rfl rfl ?_
    refine KL.op (R.load rfl Try.underlying5 rfl rfl (by first | exact cell_of ba rfl | exact cell_of bb rfl | assumption)) rfl rfl rfl ?_
    refine KL.op (R.eql rfl rfl rfl) rfl rfl rfl ?_
    refine KL.op (R.move rfl rfl) rfl rfl rfl ?_
    refine KL.case (d := 12) rfl ?_ ?_
    · intro hg12
      try simp only [decide_eq_true_eq, decide_eq_false_iff_not, Bool.not_eq_true', Bool.not_eq_false', Bool.and_eq_true, Bool.or_eq_false_iff] at hg12
      refine KL.op ((by first | exact R.fieldAddr rfl Try.underlying36 rfl rfl sz33 rfl | exact R.fieldAddrP rfl Try.underlying36 rfl rfl sz33 rfl)) rfl rfl rfl ?_
      refine KL.op (R.load rfl Try.underlying33 rfl rfl (by first | exact cell_of ba rfl | exact cell_of bb rfl | assumption)) rfl rfl rfl ?_
      refine KL.op ((by first | exact R.fieldAddr rfl Try.underlying36 rfl rfl sz33 rfl | exact R.fieldAddrP rfl Try.underlying36 rfl rfl sz33 rfl)) rfl rfl rfl ?_
      refine KL.op (R.load rfl Try.underlying33 rfl rfl (by first | exact cell_of ba rfl | exact cell_of bb rfl | assumption)) rfl rfl rfl ?_
      refine KL.op (R.eql rfl rfl rfl) rfl rfl rfl ?_
      refine KL.op (R.pick rfl rfl rfl) rfl rfl rfl ?_
      refine KL.op (R.move rfl rfl) rfl rfl rfl ?_
      refine KL.case (d := 19) rfl ?_ ?_
      · intro hg19
        try simp only [decide_eq_true_eq, decide_eq_false_iff_not, Bool.not_eq_true', Bool.not_eq_false', Bool.and_eq_true, Bool.or_eq_false_iff] at hg19
        refine KL.op ((by first | exact R.fieldAddr rfl Try.underlying36 rfl rfl sz33 rfl | exact R.fieldAddrP rfl Try.underlying36 rfl rfl sz33 rfl)) rfl rfl rfl ?_
        refine KL.op (R.load rfl Try.underlying33 rfl rfl (by first | exact cell_of ba rfl | exact cell_of bb rfl | assumption)) rfl rfl rfl ?_
        refine KL.op ((by first | exact R.fieldAddr rfl Try.underlying36 rfl rfl sz33 rfl | exact R.fieldAddrP rfl Try.underlying36 rfl rfl sz33 rfl)) rfl rfl rfl ?_
        refine KL.op (R.load rfl Try.underlying33 rfl rfl (by first | exact cell_of ba rfl | exact cell_of bb rfl | assumption)) rfl rfl rfl ?_
        refine KL.op (R.eql rfl rfl rfl) rfl rfl rfl ?_
        refine KL.op (R.pick rfl rfl rfl) rfl rfl rfl ?_
        refine KL.op (R.move rfl rfl) rfl rfl rfl ?_
        refine KL.case (d := 26) rfl ?_ ?_
        · intro hg26
          try simp only [decide_eq_true_eq, decide_eq_false_iff_not, Bool.not_eq_true', Bool.not_eq_false', Bool.and_eq_true, Bool.or_eq_false_iff] at hg26
          refine KL.op ((by first | exact R.fieldAddr rfl Try.underlying36 rfl rfl sz2 rfl | exact R.fieldAddrP rfl Try.underlying36 rfl rfl sz2 rfl)) rfl rfl rfl ?_
          refine KL.op (R.load rfl Try.underlying2 rfl rfl (by first | exact cell_of ba rfl | exact cell_of bb rfl | assumption)) rfl rfl rfl ?_
          refine KL.op ((by first | exact R.fieldAddr rfl Try.underlying36 rfl rfl sz2 rfl | exact R.fieldAddrP rfl Try.underlying36 rfl rfl sz2 rfl)) rfl rfl rfl ?_
          refine KL.op (R.load rfl Try.underlying2 rfl rfl (by first | exact cell_of ba rfl | exact cell_of bb rfl | assumption)) rfl rfl rfl ?_
          refine KL.op (R.eql rfl rfl rfl) rfl rfl rfl ?_
          refine KL.op (R.pick rfl rfl rfl) rfl rfl rfl ?_
          refine KL.op (R.move rfl rfl) rfl rfl rfl ?_
          refine KL.case (d := 33) rfl ?_ ?_
          · intro hg33
            try simp only [decide_eq_true_eq, decide_eq_false_iff_not, Bool.not_eq_true', Bool.not_eq_false', Bool.and_eq_true, Bool.or_eq_false_iff] at hg33
            refine KL.op ((by first | exact R.fieldAddr rfl Try.underlying36 rfl rfl sz34 rfl | exact R.fieldAddrP rfl Try.underlying36 rfl rfl sz34 rfl)) rfl rfl rfl ?_
            refine KL.op (R.load rfl Try.underlying34 rfl rfl (by first | exact cell_of ba rfl | exact cell_of bb rfl | assumption)) rfl rfl rfl ?_
            refine KL.op (R.lenS rfl Try.underlying34 rfl ha) rfl rfl rfl ?_
            refine KL.op ((by first | exact R.fieldAddr rfl Try.underlying36 rfl rfl sz34 rfl | exact R.fieldAddrP rfl Try.underlying36 rfl rfl sz34 rfl)) rfl rfl rfl ?_
            refine KL.op (R.load rfl Try.underlying34 rfl rfl (by first | exact cell_of ba rfl | exact cell_of bb rfl | assumption)) rfl rfl rfl ?_
            refine KL.op (R.lenS rfl Try.underlying34 rfl hb) rfl rfl rfl ?_
            refine KL.op (R.eql rfl rfl rfl) rfl rfl rfl ?_
            refine KL.op (R.pick rfl rfl rfl) rfl rfl rfl ?_
            refine KL.op (R.assign rfl rfl) rfl rfl rfl ?_
            refine KL.nil ?_
            refine KQ.meet () ?_ ?_
            · exact (Sub.cons (by exact congrArg (fun z => some (Value.bool z)) (by first | (apply decide_eq_decide.2; omega) | (symm; rw [decide_eq_false_iff_not]; omega))) (Ext.sub (by repeat (first | exact Ext.refl _ _ | refine Ext.put rfl ?_ | refine Ext.drop rfl ?_))))
            · exact rfl
          · intro hg33
            try simp only [decide_eq_true_eq, decide_eq_false_iff_not, Bool.not_eq_true', Bool.not_eq_false', Bool.and_eq_true, Bool.or_eq_false_iff] at hg33
            refine KL.skip rfl rfl rfl ?_
            refine KL.skip rfl rfl rfl ?_
            refine KL.skip rfl rfl rfl ?_
            refine KL.skip rfl rfl rfl ?_
            refine KL.skip rfl rfl rfl ?_
            refine KL.skip rfl rfl rfl ?_
            refine KL.skip rfl rfl rfl ?_
            refine KL.op (R.pick rfl rfl rfl) rfl rfl rfl ?_
            refine KL.op (R.assign rfl rfl) rfl rfl rfl ?_
            refine KL.nil ?_
            refine KQ.meet () ?_ ?_
            · exact (Sub.cons (by exact congrArg (fun z => some (Value.bool z)) (by first | (apply decide_eq_decide.2; omega) | (symm; rw [decide_eq_false_iff_not]; omega))) (Ext.sub (by repeat (first | exact Ext.refl _ _ | refine Ext.put rfl ?_ | refine Ext.drop rfl ?_))))
            · exact rfl
        · intro hg26
          try simp only [decide_eq_true_eq, decide_eq_false_iff_not, Bool.not_eq_true', Bool.not_eq_false', Bool.and_eq_true, Bool.or_eq_false_iff] at hg26
          refine KL.skip rfl rfl rfl ?_
          refine KL.skip rfl rfl rfl ?_
          refine KL.skip rfl rfl rfl ?_
          refine KL.skip rfl rfl rfl ?_
          refine KL.skip rfl rfl rfl ?_
          refine KL.op (R.pick rfl rfl rfl) rfl rfl rfl ?_
          refine KL.op (R.move rfl rfl) rfl rfl rfl ?_
          refine KL.skip rfl rfl rfl ?_
          refine KL.skip rfl rfl rfl ?_
          refine KL.skip rfl rfl rfl ?_
          refine KL.skip rfl rfl rfl ?_
          refine KL.skip rfl rfl rfl ?_
          refine KL.skip rfl rfl rfl ?_
          refine KL.skip rfl rfl rfl ?_
          refine KL.op (R.pick rfl rfl rfl) rfl rfl rfl ?_
          refine KL.op (R.assign rfl rfl) rfl rfl rfl ?_
          refine KL.nil ?_
          refine KQ.meet () ?_ ?_
          · exact (Sub.cons (by exact congrArg (fun z => some (Value.bool z)) (by first | (apply decide_eq_decide.2; omega) | (symm; rw [decide_eq_false_iff_not]; omega))) (Ext.sub (by repeat (first | exact Ext.refl _ _ | refine Ext.put rfl ?_ | refine Ext.drop rfl ?_))))
          · exact rfl
      · intro hg19
        try simp only [decide_eq_true_eq, decide_eq_false_iff_not, Bool.not_eq_true', Bool.not_eq_false', Bool.and_eq_true, Bool.or_eq_false_iff] at hg19
        refine KL.skip rfl rfl rfl ?_
        refine KL.skip rfl rfl rfl ?_
        refine KL.skip rfl rfl rfl ?_
        refine KL.skip rfl rfl rfl ?_
        refine KL.skip rfl rfl rfl ?_
        refine KL.op (R.pick rfl rfl rfl) rfl rfl rfl ?_
        refine KL.op (R.move rfl rfl) rfl rfl rfl ?_
        refine KL.skip rfl rfl rfl ?_
        refine KL.skip rfl rfl rfl ?_
        refine KL.skip rfl rfl rfl ?_
        refine KL.skip rfl rfl rfl ?_
        refine KL.skip rfl rfl rfl ?_
        refine KL.op (R.pick rfl rfl rfl) rfl rfl rfl ?_
        refine KL.op (R.move rfl rfl) rfl rfl rfl ?_
        refine KL.skip rfl rfl rfl ?_
        refine KL.skip rfl rfl rfl ?_
        refine KL.skip rfl rfl rfl ?_
        refine KL.skip rfl rfl rfl ?_
        refine KL.skip rfl rfl rfl ?_
        refine KL.skip rfl rfl rfl ?_
        refine KL.skip rfl rfl rfl ?_
        refine KL.op (R.pick rfl rfl rfl) rfl rfl rfl ?_
        refine KL.op (R.assign rfl rfl) rfl rfl rfl ?_
        refine KL.nil ?_
        refine KQ.meet () ?_ ?_
        · exact (Sub.cons (by exact congrArg (fun z => some (Value.bool z)) (by first | (apply decide_eq_decide.2; omega) | (symm; rw [decide_eq_false_iff_not]; omega))) (Ext.sub (by repeat (first | exact Ext.refl _ _ | refine Ext.put rfl ?_ | refine Ext.drop rfl ?_))))
        · exact rfl
    · intro hg12
      try simp only [decide_eq_true_eq, decide_eq_false_iff_not, Bool.not_eq_true', Bool.not_eq_false', Bool.and_eq_true, Bool.or_eq_false_iff] at hg12
      refine KL.skip rfl rfl rfl ?_
      refine KL.skip rfl rfl rfl ?_
      refine KL.skip rfl rfl rfl ?_
      refine KL.skip rfl rfl rfl ?_
      refine KL.skip rfl rfl rfl ?_
      refine KL.op (R.pick rfl rfl rfl) rfl rfl rfl ?_
      refine KL.op (R.move rfl rfl) rfl rfl rfl ?_
      refine KL.skip rfl rfl rfl ?_
      refine KL.skip rfl rfl rfl ?_
      refine KL.skip rfl rfl rfl ?_
      refine KL.skip rfl rfl rfl ?_
      refine KL.skip rfl rfl rfl ?_
      refine KL.op (R.pick rfl rfl rfl) rfl rfl rfl ?_
      refine KL.op (R.move rfl rfl) rfl rfl rfl ?_
      refine KL.skip rfl rfl rfl ?_
      refine KL.skip rfl rfl rfl ?_
      refine KL.skip rfl rfl rfl ?_
      refine KL.skip rfl rfl rfl ?_
      refine KL.skip rfl rfl rfl ?_
      refine KL.op (R.pick rfl rfl rfl) rfl rfl rfl ?_
      refine KL.op (R.move rfl rfl) rfl rfl rfl ?_
      refine KL.skip rfl rfl rfl ?_
      refine KL.skip rfl rfl rfl ?_
      refine KL.skip rfl rfl rfl ?_
      refine KL.skip rfl rfl rfl ?_
      refine KL.skip rfl rfl rfl ?_
      refine KL.skip rfl rfl rfl ?_
      refine KL.skip rfl rfl rfl ?_
      refine KL.op (R.pick rfl rfl rfl) rfl rfl rfl ?_
      refine KL.op (R.assign rfl rfl) rfl rfl rfl ?_
      refine KL.nil ?_
      refine KQ.meet () ?_ ?_
      · exact (Sub.cons (by exact congrArg (fun z => some (Value.bool z)) (by first | (apply decide_eq_decide.2; omega) | (symm; rw [decide_eq_false_iff_not]; omega))) (Ext.sub (by repeat (first | exact Ext.refl _ _ | refine Ext.put rfl ?_ | refine Ext.drop rfl ?_))))
      · exact rfl
  · rintro _ _ rfl
    refine KQ.seq ?_
    refine KC.seq ?_
    refine KC.seq ?_
    refine KC.region ?_
    refine KL.op (R.assign rfl rfl) rfl rfl rfl ?_
    refine KL.nil ?_
    refine KQ.seq ?_
    refine KC.block ?_
    refine KC.loopD (κ := Nat × Bool) [42, 43, 44, 45, 46, 47, 48, 49, 52, 53, 54, 55, 56, 57, 58, 59, 60, 61, 62, 5, 50, 51, 6] (fun k => [(6, .int .i64 (k.1 : Nat)), (5, .bool k.2)]) (fun k Hl => k.1 ≤ a.l.length ∧ H2 = Hl ∧ (k.2 = true ↔ (a.op = b.op ∧ a.a = b.a ∧ a.b = b.b ∧ a.c = b.c ∧ a.l.length = b.l.length) ∧ a.l.take k.1 = b.l.take k.1)) (fun k => a.l.length - k.1) (0, decide (a.op = b.op ∧ a.a = b.a ∧ a.b = b.b ∧ a.c = b.c ∧ a.l.length = b.l.length)) ?_ ?_ ?_
    · exact (Sub.cons rfl (Sub.cons rfl (Ext.sub (Ext.refl _ _))))
    · exact ⟨Nat.zero_le _, rfl, by simp⟩
    · rintro ⟨k, ok⟩ H3 ⟨hk, rfl, hok⟩
      dsimp only at hk hok
      refine KC.seq ?_
      refine KC.seq ?_
      refine KC.region ?_
      refine KL.op (R.move rfl rfl) rfl rfl rfl ?_
      refine KL.op ((by first | exact R.fieldAddr rfl Try.underlying36 rfl rfl sz34 rfl | exact R.fieldAddrP rfl Try.underlying36 rfl rfl sz34 rfl)) rfl rfl rfl ?_
      refine KL.op (R.load rfl Try.underlying34 rfl rfl (by first | exact cell_of ba rfl | exact cell_of bb rfl | assumption)) rfl rfl rfl ?_
      refine KL.op (R.lenS rfl Try.underlying34 rfl ha) rfl rfl rfl ?_
      refine KL.op (R.lss rfl rfl rfl) rfl rfl rfl ?_
      refine KL.op (R.move rfl rfl) rfl rfl rfl ?_
      refine KL.case (d := 47) rfl ?_ ?_
      · intro hg47
        try simp only [decide_eq_true_eq, decide_eq_false_iff_not, Bool.not_eq_true', Bool.not_eq_false', Bool.and_eq_true, Bool.or_eq_false_iff] at hg47
        refine KL.op (R.move rfl rfl) rfl rfl rfl ?_
        refine KL.op (R.pick rfl rfl rfl) rfl rfl rfl ?_
        refine KL.nil ?_
        refine KQ.seq ?_
        refine KC.iteL rfl ?_ ?_
        · intro hc49
          try simp only [decide_eq_true_eq, decide_eq_false_iff_not, Bool.not_eq_true', Bool.not_eq_false', Bool.and_eq_true, Bool.or_eq_false_iff] at hc49
          have hT0 := hok.1 (by first | assumption | simp_all)
          obtain ⟨hH, hT⟩ := hT0
          have hHl := hH.2.2.2.2
          refine KC.skip ?_
          refine KQ.seq ?_
          refine KC.seq ?_
          refine KC.block ?_
          refine KC.quiet (by kernel_rfl) (by kernel_rfl) ?_
          refine KD.op ((by first | exact R.fieldAddr rfl Try.underlying36 rfl rfl sz34 rfl | exact R.fieldAddrP rfl Try.underlying36 rfl rfl sz34 rfl)) rfl rfl rfl ?_
          refine KD.op (R.load rfl Try.underlying34 rfl rfl (by first | exact cell_of ba rfl | exact cell_of bb rfl | assumption)) rfl rfl rfl ?_
          refine KD.op (R.move rfl rfl) rfl rfl rfl ?_
          refine KD.op (R.index1 (j := k) rfl Try.underlying34 sz33 rfl rfl ha rfl (by omega)) rfl rfl rfl ?_
          refine KD.op (R.load rfl Try.underlying33 rfl rfl (ha.int k (by omega)).1) rfl rfl rfl ?_
          refine KD.op ((by first | exact R.fieldAddr rfl Try.underlying36 rfl rfl sz34 rfl | exact R.fieldAddrP rfl Try.underlying36 rfl rfl sz34 rfl)) rfl rfl rfl ?_
          refine KD.op (R.load rfl Try.underlying34 rfl rfl (by first | exact cell_of ba rfl | exact cell_of bb rfl | assumption)) rfl rfl rfl ?_
          refine KD.op (R.move rfl rfl) rfl rfl rfl ?_
          refine KD.op (R.index1 (j := k) rfl Try.underlying34 sz33 rfl rfl hb rfl (by omega)) rfl rfl rfl ?_
          refine KD.op (R.load rfl Try.underlying33 rfl rfl (hb.int k (by omega)).1) rfl rfl rfl ?_
          refine KD.op (R.eql rfl rfl rfl) rfl rfl rfl ?_
          refine KD.op (R.assign rfl rfl) rfl rfl rfl ?_
          refine KD.nil ?_
          refine KQ.normBlock ?_
          refine KQ.seq ?_
          refine KC.region ?_
          refine KL.op (R.move rfl rfl) rfl rfl rfl ?_
          refine KL.op ((R.add rfl rfl rfl (by dsimp only [InR]; omega)).val (congrArg (Value.int .i64) (show (k : Int) + 1 = ((k + 1 : Nat) : Int) by omega))) rfl rfl rfl ?_
          refine KL.op (R.assign rfl rfl) rfl rfl rfl ?_
          refine KL.nil ?_
          refine KQ.again ((k + 1, decide (a.l.getD k default = b.l.getD k default))) ?_ ?_ ?_
          · exact (Sub.cons rfl (Sub.cons rfl (Ext.sub (by repeat (first | exact Ext.refl _ _ | refine Ext.put rfl ?_ | refine Ext.drop rfl ?_)))))
          · show a.l.length - (k + 1) < a.l.length - k; omega
          · exact ⟨by show k + 1 ≤ _; omega, rfl, by dsimp only; rw [take_same (by omega) (by omega), decide_eq_true_eq]; exact ⟨fun h => ⟨hH, hT, h⟩, fun h => h.2.2⟩⟩
        · intro hc49
          try simp only [decide_eq_true_eq, decide_eq_false_iff_not, Bool.not_eq_true', Bool.not_eq_false', Bool.and_eq_true, Bool.or_eq_false_iff] at hc49
          refine KC.exit ?_
          refine KQ.exitThen ?_
          refine KQ.exitThen ?_
          refine KQ.hit ?_
          refine KQ.seq ?_
          refine KC.seq ?_
          refine KC.region ?_
          refine KL.op (R.move rfl rfl) rfl rfl rfl ?_
          refine KL.op (R.assign rfl rfl) rfl rfl rfl ?_
          refine KL.nil ?_
          refine KQ.seq ?_
          refine KC.ret ?_
          refine KQ.ofRet ?_
          refine KQ.fin1 Try.results22 rfl ?_
          have e : ok = decide (a = b) := by
            cases ok with
            | true =>
              obtain ⟨h1, h2⟩ := hok.1 rfl
              have hkl : k = a.l.length := by first | omega | simp_all
              rw [hkl, List.take_length, h1.2.2.2.2, List.take_length] at h2
              exact (decide_eq_true (ins_eq.2 ⟨h1.1, h1.2.1, h1.2.2.1, h1.2.2.2.1, h2⟩)).symm
            | false =>
              refine (decide_eq_false (fun e => ?_)).symm
              subst e
              have := hok.2 ⟨⟨rfl, rfl, rfl, rfl, rfl⟩, rfl⟩
              cases this
          subst e
          exact ⟨rfl, o0⟩
      · intro hg47
        try simp only [decide_eq_true_eq, decide_eq_false_iff_not, Bool.not_eq_true', Bool.not_eq_false', Bool.and_eq_true, Bool.or_eq_false_iff] at hg47
        refine KL.skip rfl rfl rfl ?_
        refine KL.op (R.pick rfl rfl rfl) rfl rfl rfl ?_
        refine KL.nil ?_
        refine KQ.seq ?_
        refine KC.condF rfl ?_
        refine KC.exit ?_
        refine KQ.exitThen ?_
        refine KQ.exitThen ?_
        refine KQ.hit ?_
        refine KQ.seq ?_
        refine KC.seq ?_
        refine KC.region ?_
        refine KL.op (R.move rfl rfl) rfl rfl rfl ?_
        refine KL.op (R.assign rfl rfl) rfl rfl rfl ?_
        refine KL.nil ?_
        refine KQ.seq ?_
        refine KC.ret ?_
        refine KQ.ofRet ?_
        refine KQ.fin1 Try.results22 rfl ?_
        have e : ok = decide (a = b) := by
          cases ok with
          | true =>
            obtain ⟨h1, h2⟩ := hok.1 rfl
            have hkl : k = a.l.length := by first | omega | simp_all
            rw [hkl, List.take_length, h1.2.2.2.2, List.take_length] at h2
            exact (decide_eq_true (ins_eq.2 ⟨h1.1, h1.2.1, h1.2.2.1, h1.2.2.2.1, h2⟩)).symm
          | false =>
            refine (decide_eq_false (fun e => ?_)).symm
            subst e
            have := hok.2 ⟨⟨rfl, rfl, rfl, rfl, rfl⟩, rfl⟩
            cases this
        subst e
        exact ⟨rfl, o0⟩

set_option maxRecDepth 100000 in
set_option maxHeartbeats 4000000 in
theorem SameAll_any {H : Heap} {vx vy : Value} {xs ys : List Ins} (hx0 : Sl 5 EIns H vx xs) (hy0 : Sl 5 EIns H vy ys) (hbx : Isp.bulk xs ≤ 2000000) : Ct Try.prog 10 [vx, vy] H (fun u H' => u = .bool (decide (xs = ys)) ∧ Old H H') := by
  refine Ct.mk Try.func10 rfl Try.ntmps10 rfl ?_
  intro W0 hW0
  have o0 : Old H H := Old.refl H
  have hx := hx0
  have hy := hy0
  have hlx := Isp.bulk_len xs
  refine KC.seq ?_
  refine KC.region ?_
  refine KL.op (R.assign rfl rfl) rfl rfl rfl ?_
  refine KL.nil ?_
  refine KQ.seq ?_
  refine KC.seq ?_
  refine KC.region ?_
  refine KL.op (R.move rfl rfl) rfl rfl rfl ?_
  refine KL.op (R.lenS rfl Try.underlying22 rfl hx) rfl rfl rfl ?_
  refine KL.op (R.move rfl rfl) rfl rfl rfl ?_
  refine KL.op (R.lenS rfl Try.underlying22 rfl hy) rfl rfl rfl ?_
  refine KL.op ((R.eql rfl rfl rfl).val (show _ = Value.bool (decide (xs.length = ys.length)) from congrArg Value.bool (decide_eq_decide.2 (by omega)))) rfl rfl rfl ?_
  refine KL.op (R.assign rfl rfl) rfl rfl rfl ?_
  refine KL.nil ?_
  refine KQ.seq ?_
  refine KC.seq ?_
  refine KC.seq ?_
  refine KC.region ?_
  refine KL.op (R.assign rfl rfl) rfl rfl rfl ?_
  refine KL.nil ?_
  refine KQ.seq ?_
  refine KC.block ?_
  refine KC.loopD (κ := Nat × Bool) [12, 13, 14, 15, 16, 17, 18, 21, 22, 23, 24, 25, 26, 27, 28, 29, 5, 19, 20, 6] (fun k => [(6, .int .i64 (k.1 : Nat)), (5, .bool k.2)]) (fun k Hl => k.1 ≤ xs.length ∧ Old H Hl ∧ (k.2 = true ↔ xs.length = ys.length ∧ xs.take k.1 = ys.take k.1)) (fun k => xs.length - k.1) (0, decide (xs.length = ys.length)) ?_ ?_ ?_
  · exact (Sub.cons rfl (Sub.cons rfl (Ext.sub (Ext.refl _ _))))
  · exact ⟨Nat.zero_le _, o0, by simp⟩
  · rintro ⟨k, ok⟩ H1 ⟨hk, o0, hok⟩
    have zl_H1 := o0.1
    dsimp only at hk hok
    have zl := o0.1
    have hx := hx0.old o0
    have hy := hy0.old o0
    refine KC.seq ?_
    refine KC.seq ?_
    refine KC.region ?_
    refine KL.op (R.move rfl rfl) rfl rfl rfl ?_
    refine KL.op (R.move rfl rfl) rfl rfl rfl ?_
    refine KL.op (R.lenS rfl Try.underlying22 rfl hx) rfl rfl rfl ?_
    refine KL.op (R.lss rfl rfl rfl) rfl rfl rfl ?_
    refine KL.op (R.move rfl rfl) rfl rfl rfl ?_
    refine KL.case (d := 16) rfl ?_ ?_
    · intro hg16
      try simp only [decide_eq_true_eq, decide_eq_false_iff_not, Bool.not_eq_true', Bool.not_eq_false', Bool.and_eq_true, Bool.or_eq_false_iff] at hg16
      refine KL.op (R.move rfl rfl) rfl rfl rfl ?_
      refine KL.op (R.pick rfl rfl rfl) rfl rfl rfl ?_
      refine KL.nil ?_
      refine KQ.seq ?_
      refine KC.iteL rfl ?_ ?_
      · intro hc18
        try simp only [decide_eq_true_eq, decide_eq_false_iff_not, Bool.not_eq_true', Bool.not_eq_false', Bool.and_eq_true, Bool.or_eq_false_iff] at hc18
        obtain ⟨hH, hT⟩ := hok.1 (by first | assumption | simp_all)
        obtain ⟨va, hcx, hcl, _⟩ := hx.insV k (by omega)
        obtain ⟨vb, hdx, hdl, _⟩ := hy.insV k (by omega)
        have hbm := Isp.bulk_mem (ins_mem (l := xs) (j := k) (by omega))
        refine KC.skip ?_
        refine KQ.seq ?_
        refine KC.seq ?_
        refine KC.block ?_
        refine KC.text (clOf [(3, 1), (7, 1), (8, 2)]) (fun _ _ => True) (by kernel_rfl) (by kernel_rfl) (fun _ => trivial) ?_
        refine KP.op rfl (fun Hg hg => R.move rfl rfl) rfl rfl rfl ?_
        refine KP.op rfl (fun Hg hg => R.move rfl rfl) rfl rfl rfl ?_
        refine KP.op rfl (fun Hg hg => R.index (j := k) rfl Try.underlying22 sz36 rfl rfl hx rfl (by omega)) rfl rfl rfl ?_
        refine KP.now rfl (R.loadAgg rfl Try.underlying36 rfl sz36 rfl hcx rfl) rfl rfl rfl ?_
        refine KP.op rfl (fun Hg hg => R.move rfl rfl) rfl rfl rfl ?_
        refine KP.op rfl (fun Hg hg => R.move rfl rfl) rfl rfl rfl ?_
        refine KP.op rfl (fun Hg hg => R.index (j := k) rfl Try.underlying22 sz36 rfl rfl hy rfl (by omega)) rfl rfl rfl ?_
        refine KP.now rfl (R.loadAgg rfl Try.underlying36 rfl sz36 rfl hdx rfl) rfl rfl rfl ?_
        refine KP.call rfl rfl rfl rfl rfl Try.call22 rfl rfl rfl (Same_any hcl hdl (by omega)) (fun _ _ _ _ _ _ => trivial) ?_
        rintro _ H2 ⟨rfl, ox⟩
        have zc_H2 := (ox).1
        have o0 := o0.trans ox
        have hx := hx.old ox
        have hy := hy.old ox
        refine KP.op rfl (fun Hg hg => R.assign rfl rfl) rfl rfl rfl ?_
        refine KP.nil ?_
        refine KQ.normBlock ?_
        refine KQ.seq ?_
        refine KC.region ?_
        refine KL.op (R.move rfl rfl) rfl rfl rfl ?_
        refine KL.op ((R.add rfl rfl rfl (by dsimp only [InR]; omega)).val (congrArg (Value.int .i64) (show (k : Int) + 1 = ((k + 1 : Nat) : Int) by omega))) rfl rfl rfl ?_
        refine KL.op (R.assign rfl rfl) rfl rfl rfl ?_
        refine KL.nil ?_
        refine KQ.again ((k + 1, decide (xs.getD k default = ys.getD k default))) ?_ ?_ ?_
        · exact (Sub.cons rfl (Sub.cons rfl (Ext.sub (by repeat (first | exact Ext.refl _ _ | refine Ext.put rfl ?_ | refine Ext.drop rfl ?_)))))
        · show xs.length - (k + 1) < xs.length - k; omega
        · exact ⟨by show k + 1 ≤ _; omega, o0, by dsimp only; rw [take_same (by omega) (by omega), decide_eq_true_eq]; exact ⟨fun h => ⟨hH, hT, h⟩, fun h => h.2.2⟩⟩
      · intro hc18
        try simp only [decide_eq_true_eq, decide_eq_false_iff_not, Bool.not_eq_true', Bool.not_eq_false', Bool.and_eq_true, Bool.or_eq_false_iff] at hc18
        refine KC.exit ?_
        refine KQ.exitThen ?_
        refine KQ.exitThen ?_
        refine KQ.hit ?_
        refine KQ.seq ?_
        refine KC.seq ?_
        refine KC.region ?_
        refine KL.op (R.move rfl rfl) rfl rfl rfl ?_
        refine KL.op (R.assign rfl rfl) rfl rfl rfl ?_
        refine KL.nil ?_
        refine KQ.seq ?_
        refine KC.ret ?_
        refine KQ.ofRet ?_
        refine KQ.fin1 Try.results10 rfl ?_
        have e : ok = decide (xs = ys) := by
          cases ok with
          | true =>
            obtain ⟨h1, h2⟩ := hok.1 rfl
            have hkl : k = xs.length := by first | omega | simp_all
            rw [hkl, List.take_length, h1, List.take_length] at h2
            exact (decide_eq_true h2).symm
          | false =>
            refine (decide_eq_false (fun e => ?_)).symm
            subst e
            have := hok.2 ⟨rfl, rfl⟩
            cases this
        subst e
        exact ⟨rfl, o0⟩
    · intro hg16
      try simp only [decide_eq_true_eq, decide_eq_false_iff_not, Bool.not_eq_true', Bool.not_eq_false', Bool.and_eq_true, Bool.or_eq_false_iff] at hg16
      refine KL.skip rfl rfl rfl ?_
      refine KL.op (R.pick rfl rfl rfl) rfl rfl rfl ?_
      refine KL.nil ?_
      refine KQ.seq ?_
      refine KC.condF rfl ?_
      refine KC.exit ?_
      refine KQ.exitThen ?_
      refine KQ.exitThen ?_
      refine KQ.hit ?_
      refine KQ.seq ?_
      refine KC.seq ?_
      refine KC.region ?_
      refine KL.op (R.move rfl rfl) rfl rfl rfl ?_
      refine KL.op (R.assign rfl rfl) rfl rfl rfl ?_
      refine KL.nil ?_
      refine KQ.seq ?_
      refine KC.ret ?_
      refine KQ.ofRet ?_
      refine KQ.fin1 Try.results10 rfl ?_
      have e : ok = decide (xs = ys) := by
        cases ok with
        | true =>
          obtain ⟨h1, h2⟩ := hok.1 rfl
          have hkl : k = xs.length := by first | omega | simp_all
          rw [hkl, List.take_length, h1, List.take_length] at h2
          exact (decide_eq_true h2).symm
        | false =>
          refine (decide_eq_false (fun e => ?_)).symm
          subst e
          have := hok.2 ⟨rfl, rfl⟩
          cases this
      subst e
      exact ⟨rfl, o0⟩

set_option maxRecDepth 100000 in
set_option maxHeartbeats 4000000 in
theorem Great_any {H : Heap} {v : Value} {xs : List Ins} (hx : Sl 5 EIns H v xs) (hw : ∀ x ∈ xs, x.l.length ≤ 70368744177664) : Ct Try.prog 7 [v] H (fun u H' => u = .bool (decide (3000 < Isp.bulk xs)) ∧ H = H') := by
  refine Ct.mk Try.func7 rfl Try.ntmps7 rfl ?_
  intro W0 hW0
  have o0 : Old H H := Old.refl H
  have hlx := hx.lenM
  unfold maxLen at hlx
  refine KC.seq ?_
  refine KC.region ?_
  refine KL.op (R.assign rfl rfl) rfl rfl rfl ?_
  refine KL.nil ?_
  refine KQ.seq ?_
  refine KC.seq ?_
  refine KC.region ?_
  refine KL.op (R.assign rfl rfl) rfl rfl rfl ?_
  refine KL.nil ?_
  refine KQ.seq ?_
  refine KC.seq ?_
  refine KC.seq ?_
  refine KC.region ?_
  refine KL.op (R.assign rfl rfl) rfl rfl rfl ?_
  refine KL.nil ?_
  refine KQ.seq ?_
  refine KC.block ?_
  refine KC.loopD (κ := Nat) [5, 6, 7, 8, 9, 10, 11, 12, 15, 16, 17, 18, 19, 20, 21, 22, 23, 3, 13, 14, 4] (fun k => [(4, .int .i64 (k : Nat)), (3, .int .i64 (Isp.bulk (xs.take k) : Nat))]) (fun k Hl => k ≤ xs.length ∧ H = Hl ∧ Isp.bulk (xs.take k) ≤ 3000 + 140737488355329) (fun k => xs.length - k) 0 ?_ ?_ ?_
  · exact (Sub.cons rfl (Sub.cons (rfl) (Ext.sub (Ext.refl _ _))))
  · exact ⟨Nat.zero_le _, rfl, by simp [Isp.bulk]⟩
  · rintro k H1 ⟨hk, rfl, hB⟩
    refine KC.seq ?_
    refine KC.seq ?_
    refine KC.region ?_
    refine KL.op (R.move rfl rfl) rfl rfl rfl ?_
    refine KL.op (R.move rfl rfl) rfl rfl rfl ?_
    refine KL.op (R.lenS rfl Try.underlying22 rfl hx) rfl rfl rfl ?_
    refine KL.op (R.lss rfl rfl rfl) rfl rfl rfl ?_
    refine KL.op (R.move rfl rfl) rfl rfl rfl ?_
    refine KL.case (d := 9) rfl ?_ ?_
    · intro hg9
      try simp only [decide_eq_true_eq, decide_eq_false_iff_not, Bool.not_eq_true', Bool.not_eq_false', Bool.and_eq_true, Bool.or_eq_false_iff] at hg9
      refine KL.op (R.move rfl rfl) rfl rfl rfl ?_
      refine KL.op (R.leq rfl rfl rfl) rfl rfl rfl ?_
      refine KL.op (R.pick rfl rfl rfl) rfl rfl rfl ?_
      refine KL.nil ?_
      refine KQ.seq ?_
      refine KC.iteL rfl ?_ ?_
      · intro hc12
        try simp only [decide_eq_true_eq, decide_eq_false_iff_not, Bool.not_eq_true', Bool.not_eq_false', Bool.and_eq_true, Bool.or_eq_false_iff] at hc12
        obtain ⟨va, hcx, hcl, _⟩ := hx.insV k (by omega)
        have hml := hw _ (ins_mem (l := xs) (j := k) (by omega))
        have hst := Isp.bulk_step (l := xs) (k := k) (by omega)
        refine KC.skip ?_
        refine KQ.seq ?_
        refine KC.seq ?_
        refine KC.block ?_
        refine KC.region ?_
        refine KL.op (R.move rfl rfl) rfl rfl rfl ?_
        refine KL.op (R.add rfl rfl rfl (by dsimp only [InR]; omega)) rfl rfl rfl ?_
        refine KL.op (R.move rfl rfl) rfl rfl rfl ?_
        refine KL.op (R.move rfl rfl) rfl rfl rfl ?_
        refine KL.op (R.index (j := k) rfl Try.underlying22 sz36 rfl rfl hx rfl (by omega)) rfl rfl rfl ?_
        refine KL.op ((by first | exact R.fieldAddr rfl Try.underlying36 rfl rfl sz34 rfl | exact R.fieldAddrP rfl Try.underlying36 rfl rfl sz34 rfl)) rfl rfl rfl ?_
        refine KL.op (R.load rfl Try.underlying34 rfl rfl (hcx 4 _ rfl)) rfl rfl rfl ?_
        refine KL.op (R.lenS rfl Try.underlying34 rfl hcl) rfl rfl rfl ?_
        refine KL.op ((R.add rfl rfl rfl (by dsimp only [InR]; omega)).val (congrArg (Value.int .i64) (show ((Isp.bulk (xs.take k) : Nat) : Int) + 1 + ((xs.getD k default).l.length : Nat) = ((Isp.bulk (xs.take (k + 1)) : Nat) : Int) by omega))) rfl rfl rfl ?_
        refine KL.op (R.assign rfl rfl) rfl rfl rfl ?_
        refine KL.nil ?_
        refine KQ.normBlock ?_
        refine KQ.seq ?_
        refine KC.region ?_
        refine KL.op (R.move rfl rfl) rfl rfl rfl ?_
        refine KL.op ((R.add rfl rfl rfl (by dsimp only [InR]; omega)).val (congrArg (Value.int .i64) (show (k : Int) + 1 = ((k + 1 : Nat) : Int) by omega))) rfl rfl rfl ?_
        refine KL.op (R.assign rfl rfl) rfl rfl rfl ?_
        refine KL.nil ?_
        refine KQ.again (k + 1) ?_ ?_ ?_
        · exact (Sub.cons rfl (Sub.cons rfl (Ext.sub (by repeat (first | exact Ext.refl _ _ | refine Ext.put rfl ?_ | refine Ext.drop rfl ?_)))))
        · omega
        · exact ⟨by omega, rfl, by have := Isp.bulk_step (l := xs) (k := k) (by omega); omega⟩
      · intro hc12
        try simp only [decide_eq_true_eq, decide_eq_false_iff_not, Bool.not_eq_true', Bool.not_eq_false', Bool.and_eq_true, Bool.or_eq_false_iff] at hc12
        refine KC.exit ?_
        refine KQ.exitThen ?_
        refine KQ.exitThen ?_
        refine KQ.hit ?_
        refine KQ.seq ?_
        refine KC.seq ?_
        refine KC.region ?_
        refine KL.op (R.move rfl rfl) rfl rfl rfl ?_
        refine KL.op (R.gtr rfl rfl rfl) rfl rfl rfl ?_
        refine KL.op (R.assign rfl rfl) rfl rfl rfl ?_
        refine KL.nil ?_
        refine KQ.seq ?_
        refine KC.ret ?_
        refine KQ.ofRet ?_
        refine KQ.fin1 Try.results7 rfl ?_
        have e : decide (3000 < (Isp.bulk (xs.take k) : Int)) = decide (3000 < Isp.bulk xs) := by
          have hle := Isp.bulk_take (l := xs) k
          by_cases h1 : k = xs.length
          · rw [h1, List.take_length]; by_cases h2 : 3000 < Isp.bulk xs
            · rw [decide_eq_true h2, decide_eq_true (by omega)]
            · rw [decide_eq_false h2, decide_eq_false (by omega)]
          · rw [decide_eq_true (by omega), decide_eq_true (by omega)]
        exact ⟨congrArg Value.bool e, rfl⟩
    · intro hg9
      try simp only [decide_eq_true_eq, decide_eq_false_iff_not, Bool.not_eq_true', Bool.not_eq_false', Bool.and_eq_true, Bool.or_eq_false_iff] at hg9
      refine KL.skip rfl rfl rfl ?_
      refine KL.skip rfl rfl rfl ?_
      refine KL.op (R.pick rfl rfl rfl) rfl rfl rfl ?_
      refine KL.nil ?_
      refine KQ.seq ?_
      refine KC.condF rfl ?_
      refine KC.exit ?_
      refine KQ.exitThen ?_
      refine KQ.exitThen ?_
      refine KQ.hit ?_
      refine KQ.seq ?_
      refine KC.seq ?_
      refine KC.region ?_
      refine KL.op (R.move rfl rfl) rfl rfl rfl ?_
      refine KL.op (R.gtr rfl rfl rfl) rfl rfl rfl ?_
      refine KL.op (R.assign rfl rfl) rfl rfl rfl ?_
      refine KL.nil ?_
      refine KQ.seq ?_
      refine KC.ret ?_
      refine KQ.ofRet ?_
      refine KQ.fin1 Try.results7 rfl ?_
      have e : decide (3000 < (Isp.bulk (xs.take k) : Int)) = decide (3000 < Isp.bulk xs) := by
        have hle := Isp.bulk_take (l := xs) k
        by_cases h1 : k = xs.length
        · rw [h1, List.take_length]; by_cases h2 : 3000 < Isp.bulk xs
          · rw [decide_eq_true h2, decide_eq_true (by omega)]
          · rw [decide_eq_false h2, decide_eq_false (by omega)]
        · rw [decide_eq_true (by omega), decide_eq_true (by omega)]
      exact ⟨congrArg Value.bool e, rfl⟩

end Go.Proofs.Ytnjodpgahbpiaaa
