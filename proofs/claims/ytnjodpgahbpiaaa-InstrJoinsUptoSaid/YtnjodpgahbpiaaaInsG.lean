/- Which instructions have bytes. No condition but those stated. -/
import Derived.Test.YtnjodpgahbpiaaaInsF
import Derived.Test.YtnjodpgahbpiaaaOpcR
namespace Go.Proofs.Ytnjodpgahbpiaaa
open Go Go.RowKit
set_option linter.unusedVariables false
set_option linter.unusedSimpArgs false
set_option linter.unnecessarySimpa false

namespace Isp
theorem form_range {op : Int} (r : InR .u8 op) : 0 ≤ Opc.form op ∧ Opc.form op ≤ 9 := by
  exact Opc.all_ops (p := fun op => 0 ≤ Opc.form op ∧ Opc.form op ≤ 9) (by decide +kernel) r
/-- it has bytes, said by its fields -/
def mayC (f a b c : Int) (n : Nat) : Prop := (f ≠ 1 ∨ a = 64 ∨ a = 127 ∨ a = 126) ∧ (f ≠ 8 ∨ (-2147483648 ≤ c ∧ c ≤ 2147483647)) ∧ ((f ≠ 0 ∧ f ≤ 6) ∨ a = 0) ∧ (f = 6 ∨ b = 0) ∧ (8 ≤ f ∨ c = 0) ∧ (f = 3 ∨ n = 0)
theorem may_iff {x : Ins} (hx : InsR x) (hl : x.l.length < 4294967296) (hr : ∀ y ∈ x.l, InR .u32 y) : May x ↔ Opc.known x.op = true ∧ mayC (Opc.form x.op) x.a x.b x.c x.l.length := by
  obtain ⟨op, a, b, c, l⟩ := x
  obtain ⟨h1, h2, h3, h4⟩ := hx
  have hf := form_range h1
  dsimp only at *
  unfold May
  refine and_congr_right fun _ => ?_
  generalize Opc.form op = f at *
  have hr' : ∀ y ∈ l, okU y := fun y hy => by have := hr y hy; unfold okU; dsimp only [InR] at this; omega
  dsimp only [InR] at h2 h3 h4
  unfold bodyV mayC rest
  dsimp only
  have hc : f = 0 ∨ f = 1 ∨ f = 2 ∨ f = 3 ∨ f = 4 ∨ f = 5 ∨ f = 6 ∨ f = 7 ∨ f = 8 ∨ f = 9 := by omega
  cases l with
  | nil => rcases hc with rfl | rfl | rfl | rfl | rfl | rfl | rfl | rfl | rfl | rfl <;> simp [okU, okN, blkOk, labsV] <;> omega
  | cons y t =>
    have hn2 : (y :: t) ≠ [] := by simp
    have hL : (∀ z ∈ y :: t, 0 ≤ z ∧ z < 4294967296) := hr'
    generalize y :: t = l at *
    rcases hc with rfl | rfl | rfl | rfl | rfl | rfl | rfl | rfl | rfl | rfl <;> simp [okU, okN, blkOk, labsV, hn2] <;> first
      | omega
      | (intro h5 h6; exact ⟨hl, hL, by omega, by omega⟩)
end Isp
theorem RFindK {H : Heap} (op : Int) (hop : InR .u8 op) : Ct Try.prog 23 [.int .u8 op] H (fun u H' => (∃ a1 a2 a4 a5, u = .tuple #[.agg [.int .u8 a1, .string a2, .int .u8 (Opc.form op), .string a4, .int .i64 a5].toArray, .bool (Opc.known op)]) ∧ Old H H') :=
  (RFind_any op).mono fun v H' ⟨h, o⟩ => ⟨by
    obtain ⟨t1, t2⟩ := Opc.tabF hop
    rw [t1, t2]
    exact ⟨_, _, _, _, h⟩, o⟩

theorem Sl.rng {k : IntKind} {H : Heap} {v : Value} {l : List Int} (h : Sl 1 (EInt k) H v l) : ∀ y ∈ l, InR k y := by
  intro y hy
  obtain ⟨j, hj, rfl⟩ := List.getElem_of_mem hy
  have := (h.int j hj).2
  rwa [List.getD_eq_getElem?_getD, List.getElem?_eq_getElem hj] at this

set_option maxRecDepth 100000 in
set_option maxHeartbeats 4000000 in
theorem RMay_any {H : Heap} {x : Ins} {vl : Value} (hx : InsR x) (hll : x.l.length < 4294967296) (hs : Sl 1 (EInt .u32) H vl x.l) : Ct Try.prog 12 [insV x vl] H (fun u H' => (∃ b, u = .bool b ∧ (b = true ↔ Isp.May x)) ∧ Old H H') := by
  refine Ct.mk Try.func12 rfl Try.ntmps12 rfl ?_
  intro W0 hW0
  have o0 : Old H H := Old.refl H
  have hs0 := hs
  unfold insV
  have hfr := Isp.form_range hx.1
  refine KC.seq ?_
  refine KC.region ?_
  refine KL.opM (M.box rfl rfl rfl) rfl rfl rfl ?_
  rintro _ H1 ⟨rfl, n1⟩
  have z1 := n1.2.1
  have o0 := o0.trans n1.1
  have hs := hs.old n1.1
  have b1 := n1.2.2
  have bx := b1
  refine KL.op (R.assign rfl rfl) rfl rfl rfl ?_
  refine KL.nil ?_
  refine KQ.seq ?_
  refine KC.seq ?_
  refine KC.region ?_
  refine KL.op ((by first | exact R.fieldAddr rfl Try.underlying36 rfl rfl sz5 rfl | exact R.fieldAddrP rfl Try.underlying36 rfl rfl sz5 rfl)) rfl rfl rfl ?_
  refine KL.op (R.load rfl Try.underlying5 rfl rfl (by first | exact cell_of bx rfl | assumption)) rfl rfl rfl ?_
  refine KL.call rfl rfl rfl rfl Try.call23 rfl rfl rfl (RFindK _ hx.1) ?_
  rintro _ H2 ⟨⟨a1, a2, a4, a5, rfl⟩, ox⟩
  have zc_H2 := (ox).1
  have o0 := o0.trans ox
  have hs := hs.old ox
  have bx := (ox).blk bx
  refine KL.op (R.move rfl rfl) rfl rfl rfl ?_
  refine KL.op (R.extract rfl rfl rfl) rfl rfl rfl ?_
  refine KL.op (R.extract rfl rfl rfl) rfl rfl rfl ?_
  refine KL.opM (M.alloc rfl zr58 rfl) rfl rfl rfl ?_
  rintro _ H3 ⟨rfl, n3⟩
  have z3 := n3.2.1
  have o0 := o0.trans n3.1
  have hs := hs.old n3.1
  have bx := (n3.1).blk bx
  have b3 := n3.2.2
  have bw := b3
  refine KL.opS (S.storeAgg rfl sz58 rfl rfl (rfl) (by intro u hu; simp only [List.mem_cons, List.not_mem_nil, or_false] at hu; rcases hu with rfl | rfl | rfl | rfl | rfl <;> rfl) bw (by simp)) rfl rfl ?_
  rintro H4 ⟨u4, b4⟩
  have o0 := o0.upd u4 (by omega)
  have zu4 := u4.1
  have bx := ((u4).2 _ (by omega)).trans bx
  have bw := b4
  rw [over_all (by rfl)] at bw
  refine KL.op (R.assign rfl rfl) rfl rfl rfl ?_
  refine KL.nil ?_
  refine KQ.seq ?_
  refine KC.seq ?_
  refine KC.region ?_
  refine KL.op ((by first | exact R.fieldAddr rfl Try.underlying58 rfl rfl sz5 rfl | exact R.fieldAddrP rfl Try.underlying58 rfl rfl sz5 rfl)) rfl rfl rfl ?_
  refine KL.op (R.load rfl Try.underlying5 rfl rfl (by first | exact cell_of bx rfl | exact cell_of bw rfl | assumption)) rfl rfl rfl ?_
  refine KL.op (R.assign rfl rfl) rfl rfl rfl ?_
  refine KL.nil ?_
  refine KQ.seq ?_
  refine KC.seq ?_
  refine KC.cutD (κ := Unit) [14, 15, 16, 17, 18, 19, 20, 21, 22, 23, 24, 25, 26, 27, 28, 29, 30, 31, 32, 33, 34, 35, 36, 37, 38, 39, 40, 41, 42, 43, 44, 45, 46, 47, 48, 2] (fun _ => [(5, .int .u8 (Opc.form x.op))]) (fun _ Hl => H4 = Hl ∧ Opc.known x.op = true ∧ (Opc.form x.op ≠ 1 ∨ x.a = 64 ∨ x.a = 127 ∨ x.a = 126) ∧ (Opc.form x.op ≠ 8 ∨ (-2147483648 ≤ x.c ∧ x.c ≤ 2147483647))) ?_ ?_
  · skip
    refine KC.seq ?_
    refine KC.region ?_
    refine KL.op (R.move rfl rfl) rfl rfl rfl ?_
    refine KL.op (R.not rfl rfl) rfl rfl rfl ?_
    refine KL.op (R.move rfl rfl) rfl rfl rfl ?_
    refine KL.case (d := 16) rfl ?_ ?_
    · intro hg16
      try simp only [decide_eq_true_eq, decide_eq_false_iff_not, Bool.not_eq_true', Bool.not_eq_false', Bool.and_eq_true, Bool.or_eq_false_iff] at hg16
      refine KL.skip rfl rfl rfl ?_
      refine KL.skip rfl rfl rfl ?_
      refine KL.skip rfl rfl rfl ?_
      refine KL.skip rfl rfl rfl ?_
      refine KL.skip rfl rfl rfl ?_
      refine KL.skip rfl rfl rfl ?_
      refine KL.skip rfl rfl rfl ?_
      refine KL.skip rfl rfl rfl ?_
      refine KL.skip rfl rfl rfl ?_
      refine KL.skip rfl rfl rfl ?_
      refine KL.skip rfl rfl rfl ?_
      refine KL.skip rfl rfl rfl ?_
      refine KL.skip rfl rfl rfl ?_
      refine KL.skip rfl rfl rfl ?_
      refine KL.skip rfl rfl rfl ?_
      refine KL.skip rfl rfl rfl ?_
      refine KL.skip rfl rfl rfl ?_
      refine KL.op (R.pick rfl rfl rfl) rfl rfl rfl ?_
      refine KL.op (R.move rfl rfl) rfl rfl rfl ?_
      refine KL.skip rfl rfl rfl ?_
      refine KL.skip rfl rfl rfl ?_
      refine KL.skip rfl rfl rfl ?_
      refine KL.skip rfl rfl rfl ?_
      refine KL.skip rfl rfl rfl ?_
      refine KL.skip rfl rfl rfl ?_
      refine KL.skip rfl rfl rfl ?_
      refine KL.skip rfl rfl rfl ?_
      refine KL.skip rfl rfl rfl ?_
      refine KL.skip rfl rfl rfl ?_
      refine KL.skip rfl rfl rfl ?_
      refine KL.skip rfl rfl rfl ?_
      refine KL.op (R.pick rfl rfl rfl) rfl rfl rfl ?_
      refine KL.nil ?_
      refine KQ.seq ?_
      refine KC.condT rfl ?_
      refine KC.seq ?_
      refine KC.region ?_
      refine KL.op (R.assign rfl rfl) rfl rfl rfl ?_
      refine KL.nil ?_
      refine KQ.seq ?_
      refine KC.ret ?_
      refine KQ.retThen ?_
      refine KQ.retThen ?_
      refine KQ.ofRet ?_
      refine KQ.fin1 Try.results12 rfl ?_
      first
        | exact ⟨⟨true, rfl, fun _ => (Isp.may_iff hx hll (fun y hy => hs0.rng y hy)).2 ⟨hk, by unfold Isp.mayC; omega⟩, fun _ => rfl⟩, o0⟩
        | exact ⟨⟨false, rfl, fun h => absurd h (by decide), fun h => absurd ((Isp.may_iff hx hll (fun y hy => hs0.rng y hy)).1 h) (fun ⟨k1, k2⟩ => by first | (unfold Isp.mayC at k2; omega) | simp_all)⟩, o0⟩
    · intro hg16
      try simp only [decide_eq_true_eq, decide_eq_false_iff_not, Bool.not_eq_true', Bool.not_eq_false', Bool.and_eq_true, Bool.or_eq_false_iff] at hg16
      refine KL.op (R.move rfl rfl) rfl rfl rfl ?_
      refine KL.op (R.eql rfl rfl rfl) rfl rfl rfl ?_
      refine KL.op (R.move rfl rfl) rfl rfl rfl ?_
      refine KL.case (d := 19) rfl ?_ ?_
      · intro hg19
        try simp only [decide_eq_true_eq, decide_eq_false_iff_not, Bool.not_eq_true', Bool.not_eq_false', Bool.and_eq_true, Bool.or_eq_false_iff] at hg19
        refine KL.op ((by first | exact R.fieldAddr rfl Try.underlying36 rfl rfl sz33 rfl | exact R.fieldAddrP rfl Try.underlying36 rfl rfl sz33 rfl)) rfl rfl rfl ?_
        refine KL.op (R.load rfl Try.underlying33 rfl rfl (by first | exact cell_of bx rfl | exact cell_of bw rfl | assumption)) rfl rfl rfl ?_
        refine KL.op (R.neq rfl rfl rfl) rfl rfl rfl ?_
        refine KL.op (R.pick rfl rfl rfl) rfl rfl rfl ?_
        refine KL.op (R.move rfl rfl) rfl rfl rfl ?_
        refine KL.case (d := 24) rfl ?_ ?_
        · intro hg24
          try simp only [decide_eq_true_eq, decide_eq_false_iff_not, Bool.not_eq_true', Bool.not_eq_false', Bool.and_eq_true, Bool.or_eq_false_iff] at hg24
          refine KL.op ((by first | exact R.fieldAddr rfl Try.underlying36 rfl rfl sz33 rfl | exact R.fieldAddrP rfl Try.underlying36 rfl rfl sz33 rfl)) rfl rfl rfl ?_
          refine KL.op (R.load rfl Try.underlying33 rfl rfl (by first | exact cell_of bx rfl | exact cell_of bw rfl | assumption)) rfl rfl rfl ?_
          refine KL.op (R.neq rfl rfl rfl) rfl rfl rfl ?_
          refine KL.op (R.pick rfl rfl rfl) rfl rfl rfl ?_
          refine KL.op (R.move rfl rfl) rfl rfl rfl ?_
          refine KL.case (d := 29) rfl ?_ ?_
          · intro hg29
            try simp only [decide_eq_true_eq, decide_eq_false_iff_not, Bool.not_eq_true', Bool.not_eq_false', Bool.and_eq_true, Bool.or_eq_false_iff] at hg29
            refine KL.op ((by first | exact R.fieldAddr rfl Try.underlying36 rfl rfl sz33 rfl | exact R.fieldAddrP rfl Try.underlying36 rfl rfl sz33 rfl)) rfl rfl rfl ?_
            refine KL.op (R.load rfl Try.underlying33 rfl rfl (by first | exact cell_of bx rfl | exact cell_of bw rfl | assumption)) rfl rfl rfl ?_
            refine KL.op (R.neq rfl rfl rfl) rfl rfl rfl ?_
            refine KL.op (R.pick rfl rfl rfl) rfl rfl rfl ?_
            refine KL.op (R.pick rfl rfl rfl) rfl rfl rfl ?_
            refine KL.op (R.move rfl rfl) rfl rfl rfl ?_
            refine KL.case (d := 35) rfl ?_ ?_
            · intro hg35
              try simp only [decide_eq_true_eq, decide_eq_false_iff_not, Bool.not_eq_true', Bool.not_eq_false', Bool.and_eq_true, Bool.or_eq_false_iff] at hg35
              refine KL.skip rfl rfl rfl ?_
              refine KL.skip rfl rfl rfl ?_
              refine KL.skip rfl rfl rfl ?_
              refine KL.skip rfl rfl rfl ?_
              refine KL.skip rfl rfl rfl ?_
              refine KL.skip rfl rfl rfl ?_
              refine KL.skip rfl rfl rfl ?_
              refine KL.skip rfl rfl rfl ?_
              refine KL.skip rfl rfl rfl ?_
              refine KL.skip rfl rfl rfl ?_
              refine KL.skip rfl rfl rfl ?_
              refine KL.skip rfl rfl rfl ?_
              refine KL.op (R.pick rfl rfl rfl) rfl rfl rfl ?_
              refine KL.nil ?_
              refine KQ.seq ?_
              refine KC.condT rfl ?_
              refine KC.seq ?_
              refine KC.region ?_
              refine KL.op (R.assign rfl rfl) rfl rfl rfl ?_
              refine KL.nil ?_
              refine KQ.seq ?_
              refine KC.ret ?_
              refine KQ.retThen ?_
              refine KQ.retThen ?_
              refine KQ.ofRet ?_
              refine KQ.fin1 Try.results12 rfl ?_
              first
                | exact ⟨⟨true, rfl, fun _ => (Isp.may_iff hx hll (fun y hy => hs0.rng y hy)).2 ⟨hk, by unfold Isp.mayC; omega⟩, fun _ => rfl⟩, o0⟩
                | exact ⟨⟨false, rfl, fun h => absurd h (by decide), fun h => absurd ((Isp.may_iff hx hll (fun y hy => hs0.rng y hy)).1 h) (fun ⟨k1, k2⟩ => by first | (unfold Isp.mayC at k2; omega) | simp_all)⟩, o0⟩
            · intro hg35
              try simp only [decide_eq_true_eq, decide_eq_false_iff_not, Bool.not_eq_true', Bool.not_eq_false', Bool.and_eq_true, Bool.or_eq_false_iff] at hg35
              refine KL.op (R.move rfl rfl) rfl rfl rfl ?_
              refine KL.op (R.eql rfl rfl rfl) rfl rfl rfl ?_
              refine KL.op (R.move rfl rfl) rfl rfl rfl ?_
              refine KL.case (d := 38) rfl ?_ ?_
              · intro hg38
                try simp only [decide_eq_true_eq, decide_eq_false_iff_not, Bool.not_eq_true', Bool.not_eq_false', Bool.and_eq_true, Bool.or_eq_false_iff] at hg38
                refine KL.op ((by first | exact R.fieldAddr rfl Try.underlying36 rfl rfl sz2 rfl | exact R.fieldAddrP rfl Try.underlying36 rfl rfl sz2 rfl)) rfl rfl rfl ?_
                refine KL.op (R.load rfl Try.underlying2 rfl rfl (by first | exact cell_of bx rfl | exact cell_of bw rfl | assumption)) rfl rfl rfl ?_
                refine KL.op (R.lss rfl rfl rfl) rfl rfl rfl ?_
                refine KL.op (R.move rfl rfl) rfl rfl rfl ?_
                refine KL.case (d := 42) rfl ?_ ?_
                · intro hg42
                  try simp only [decide_eq_true_eq, decide_eq_false_iff_not, Bool.not_eq_true', Bool.not_eq_false', Bool.and_eq_true, Bool.or_eq_false_iff] at hg42
                  refine KL.skip rfl rfl rfl ?_
                  refine KL.skip rfl rfl rfl ?_
                  refine KL.skip rfl rfl rfl ?_
                  refine KL.op (R.pick rfl rfl rfl) rfl rfl rfl ?_
                  refine KL.op (R.pick rfl rfl rfl) rfl rfl rfl ?_
                  refine KL.op (R.pick rfl rfl rfl) rfl rfl rfl ?_
                  refine KL.nil ?_
                  refine KQ.seq ?_
                  refine KC.condT rfl ?_
                  refine KC.seq ?_
                  refine KC.region ?_
                  refine KL.op (R.assign rfl rfl) rfl rfl rfl ?_
                  refine KL.nil ?_
                  refine KQ.seq ?_
                  refine KC.ret ?_
                  refine KQ.retThen ?_
                  refine KQ.retThen ?_
                  refine KQ.ofRet ?_
                  refine KQ.fin1 Try.results12 rfl ?_
                  first
                    | exact ⟨⟨true, rfl, fun _ => (Isp.may_iff hx hll (fun y hy => hs0.rng y hy)).2 ⟨hk, by unfold Isp.mayC; omega⟩, fun _ => rfl⟩, o0⟩
                    | exact ⟨⟨false, rfl, fun h => absurd h (by decide), fun h => absurd ((Isp.may_iff hx hll (fun y hy => hs0.rng y hy)).1 h) (fun ⟨k1, k2⟩ => by first | (unfold Isp.mayC at k2; omega) | simp_all)⟩, o0⟩
                · intro hg42
                  try simp only [decide_eq_true_eq, decide_eq_false_iff_not, Bool.not_eq_true', Bool.not_eq_false', Bool.and_eq_true, Bool.or_eq_false_iff] at hg42
                  refine KL.op ((by first | exact R.fieldAddr rfl Try.underlying36 rfl rfl sz2 rfl | exact R.fieldAddrP rfl Try.underlying36 rfl rfl sz2 rfl)) rfl rfl rfl ?_
                  refine KL.op (R.load rfl Try.underlying2 rfl rfl (by first | exact cell_of bx rfl | exact cell_of bw rfl | assumption)) rfl rfl rfl ?_
                  refine KL.op (R.gtr rfl rfl rfl) rfl rfl rfl ?_
                  refine KL.op (R.pick rfl rfl rfl) rfl rfl rfl ?_
                  refine KL.op (R.pick rfl rfl rfl) rfl rfl rfl ?_
                  refine KL.op (R.pick rfl rfl rfl) rfl rfl rfl ?_
                  refine KL.nil ?_
                  refine KQ.seq ?_
                  refine KC.iteL rfl ?_ ?_
                  · intro hc48
                    try simp only [decide_eq_true_eq, decide_eq_false_iff_not, Bool.not_eq_true', Bool.not_eq_false', Bool.and_eq_true, Bool.or_eq_false_iff] at hc48
                    refine KC.seq ?_
                    refine KC.region ?_
                    refine KL.op (R.assign rfl rfl) rfl rfl rfl ?_
                    refine KL.nil ?_
                    refine KQ.seq ?_
                    refine KC.ret ?_
                    refine KQ.retThen ?_
                    refine KQ.retThen ?_
                    refine KQ.ofRet ?_
                    refine KQ.fin1 Try.results12 rfl ?_
                    first
                      | exact ⟨⟨true, rfl, fun _ => (Isp.may_iff hx hll (fun y hy => hs0.rng y hy)).2 ⟨hk, by unfold Isp.mayC; omega⟩, fun _ => rfl⟩, o0⟩
                      | exact ⟨⟨false, rfl, fun h => absurd h (by decide), fun h => absurd ((Isp.may_iff hx hll (fun y hy => hs0.rng y hy)).1 h) (fun ⟨k1, k2⟩ => by first | (unfold Isp.mayC at k2; omega) | simp_all)⟩, o0⟩
                  · intro hc48
                    try simp only [decide_eq_true_eq, decide_eq_false_iff_not, Bool.not_eq_true', Bool.not_eq_false', Bool.and_eq_true, Bool.or_eq_false_iff] at hc48
                    refine KC.skip ?_
                    refine KQ.meet () ?_ ?_
                    · exact (Sub.cons (by rfl) (Ext.sub (by repeat (first | exact Ext.refl _ _ | refine Ext.put rfl ?_ | refine Ext.drop rfl ?_))))
                    · exact ⟨rfl, by simp_all, by omega, by omega⟩
              · intro hg38
                try simp only [decide_eq_true_eq, decide_eq_false_iff_not, Bool.not_eq_true', Bool.not_eq_false', Bool.and_eq_true, Bool.or_eq_false_iff] at hg38
                refine KL.skip rfl rfl rfl ?_
                refine KL.skip rfl rfl rfl ?_
                refine KL.skip rfl rfl rfl ?_
                refine KL.skip rfl rfl rfl ?_
                refine KL.skip rfl rfl rfl ?_
                refine KL.skip rfl rfl rfl ?_
                refine KL.skip rfl rfl rfl ?_
                refine KL.skip rfl rfl rfl ?_
                refine KL.op (R.pick rfl rfl rfl) rfl rfl rfl ?_
                refine KL.op (R.pick rfl rfl rfl) rfl rfl rfl ?_
                refine KL.nil ?_
                refine KQ.seq ?_
                refine KC.condF rfl ?_
                refine KC.skip ?_
                refine KQ.meet () ?_ ?_
                · exact (Sub.cons (by rfl) (Ext.sub (by repeat (first | exact Ext.refl _ _ | refine Ext.put rfl ?_ | refine Ext.drop rfl ?_))))
                · exact ⟨rfl, by simp_all, by omega, by omega⟩
          · intro hg29
            try simp only [decide_eq_true_eq, decide_eq_false_iff_not, Bool.not_eq_true', Bool.not_eq_false', Bool.and_eq_true, Bool.or_eq_false_iff] at hg29
            refine KL.skip rfl rfl rfl ?_
            refine KL.skip rfl rfl rfl ?_
            refine KL.skip rfl rfl rfl ?_
            refine KL.op (R.pick rfl rfl rfl) rfl rfl rfl ?_
            refine KL.op (R.pick rfl rfl rfl) rfl rfl rfl ?_
            refine KL.op (R.move rfl rfl) rfl rfl rfl ?_
            refine KL.op (R.move rfl rfl) rfl rfl rfl ?_
            refine KL.op (R.eql rfl rfl rfl) rfl rfl rfl ?_
            refine KL.op (R.move rfl rfl) rfl rfl rfl ?_
            refine KL.case (d := 38) rfl ?_ ?_
            · intro hg38
              try simp only [decide_eq_true_eq, decide_eq_false_iff_not, Bool.not_eq_true', Bool.not_eq_false', Bool.and_eq_true, Bool.or_eq_false_iff] at hg38
              refine KL.op ((by first | exact R.fieldAddr rfl Try.underlying36 rfl rfl sz2 rfl | exact R.fieldAddrP rfl Try.underlying36 rfl rfl sz2 rfl)) rfl rfl rfl ?_
              refine KL.op (R.load rfl Try.underlying2 rfl rfl (by first | exact cell_of bx rfl | exact cell_of bw rfl | assumption)) rfl rfl rfl ?_
              refine KL.op (R.lss rfl rfl rfl) rfl rfl rfl ?_
              refine KL.op (R.move rfl rfl) rfl rfl rfl ?_
              refine KL.case (d := 42) rfl ?_ ?_
              · intro hg42
                try simp only [decide_eq_true_eq, decide_eq_false_iff_not, Bool.not_eq_true', Bool.not_eq_false', Bool.and_eq_true, Bool.or_eq_false_iff] at hg42
                refine KL.skip rfl rfl rfl ?_
                refine KL.skip rfl rfl rfl ?_
                refine KL.skip rfl rfl rfl ?_
                refine KL.op (R.pick rfl rfl rfl) rfl rfl rfl ?_
                refine KL.op (R.pick rfl rfl rfl) rfl rfl rfl ?_
                refine KL.op (R.pick rfl rfl rfl) rfl rfl rfl ?_
                refine KL.nil ?_
                refine KQ.seq ?_
                refine KC.condT rfl ?_
                refine KC.seq ?_
                refine KC.region ?_
                refine KL.op (R.assign rfl rfl) rfl rfl rfl ?_
                refine KL.nil ?_
                refine KQ.seq ?_
                refine KC.ret ?_
                refine KQ.retThen ?_
                refine KQ.retThen ?_
                refine KQ.ofRet ?_
                refine KQ.fin1 Try.results12 rfl ?_
                first
                  | exact ⟨⟨true, rfl, fun _ => (Isp.may_iff hx hll (fun y hy => hs0.rng y hy)).2 ⟨hk, by unfold Isp.mayC; omega⟩, fun _ => rfl⟩, o0⟩
                  | exact ⟨⟨false, rfl, fun h => absurd h (by decide), fun h => absurd ((Isp.may_iff hx hll (fun y hy => hs0.rng y hy)).1 h) (fun ⟨k1, k2⟩ => by first | (unfold Isp.mayC at k2; omega) | simp_all)⟩, o0⟩
              · intro hg42
                try simp only [decide_eq_true_eq, decide_eq_false_iff_not, Bool.not_eq_true', Bool.not_eq_false', Bool.and_eq_true, Bool.or_eq_false_iff] at hg42
                refine KL.op ((by first | exact R.fieldAddr rfl Try.underlying36 rfl rfl sz2 rfl | exact R.fieldAddrP rfl Try.underlying36 rfl rfl sz2 rfl)) rfl rfl rfl ?_
                refine KL.op (R.load rfl Try.underlying2 rfl rfl (by first | exact cell_of bx rfl | exact cell_of bw rfl | assumption)) rfl rfl rfl ?_
                refine KL.op (R.gtr rfl rfl rfl) rfl rfl rfl ?_
                refine KL.op (R.pick rfl rfl rfl) rfl rfl rfl ?_
                refine KL.op (R.pick rfl rfl rfl) rfl rfl rfl ?_
                refine KL.op (R.pick rfl rfl rfl) rfl rfl rfl ?_
                refine KL.nil ?_
                refine KQ.seq ?_
                refine KC.iteL rfl ?_ ?_
                · intro hc48
                  try simp only [decide_eq_true_eq, decide_eq_false_iff_not, Bool.not_eq_true', Bool.not_eq_false', Bool.and_eq_true, Bool.or_eq_false_iff] at hc48
                  refine KC.seq ?_
                  refine KC.region ?_
                  refine KL.op (R.assign rfl rfl) rfl rfl rfl ?_
                  refine KL.nil ?_
                  refine KQ.seq ?_
                  refine KC.ret ?_
                  refine KQ.retThen ?_
                  refine KQ.retThen ?_
                  refine KQ.ofRet ?_
                  refine KQ.fin1 Try.results12 rfl ?_
                  first
                    | exact ⟨⟨true, rfl, fun _ => (Isp.may_iff hx hll (fun y hy => hs0.rng y hy)).2 ⟨hk, by unfold Isp.mayC; omega⟩, fun _ => rfl⟩, o0⟩
                    | exact ⟨⟨false, rfl, fun h => absurd h (by decide), fun h => absurd ((Isp.may_iff hx hll (fun y hy => hs0.rng y hy)).1 h) (fun ⟨k1, k2⟩ => by first | (unfold Isp.mayC at k2; omega) | simp_all)⟩, o0⟩
                · intro hc48
                  try simp only [decide_eq_true_eq, decide_eq_false_iff_not, Bool.not_eq_true', Bool.not_eq_false', Bool.and_eq_true, Bool.or_eq_false_iff] at hc48
                  refine KC.skip ?_
                  refine KQ.meet () ?_ ?_
                  · exact (Sub.cons (by rfl) (Ext.sub (by repeat (first | exact Ext.refl _ _ | refine Ext.put rfl ?_ | refine Ext.drop rfl ?_))))
                  · exact ⟨rfl, by simp_all, by omega, by omega⟩
            · intro hg38
              try simp only [decide_eq_true_eq, decide_eq_false_iff_not, Bool.not_eq_true', Bool.not_eq_false', Bool.and_eq_true, Bool.or_eq_false_iff] at hg38
              refine KL.skip rfl rfl rfl ?_
              refine KL.skip rfl rfl rfl ?_
              refine KL.skip rfl rfl rfl ?_
              refine KL.skip rfl rfl rfl ?_
              refine KL.skip rfl rfl rfl ?_
              refine KL.skip rfl rfl rfl ?_
              refine KL.skip rfl rfl rfl ?_
              refine KL.skip rfl rfl rfl ?_
              refine KL.op (R.pick rfl rfl rfl) rfl rfl rfl ?_
              refine KL.op (R.pick rfl rfl rfl) rfl rfl rfl ?_
              refine KL.nil ?_
              refine KQ.seq ?_
              refine KC.condF rfl ?_
              refine KC.skip ?_
              refine KQ.meet () ?_ ?_
              · exact (Sub.cons (by rfl) (Ext.sub (by repeat (first | exact Ext.refl _ _ | refine Ext.put rfl ?_ | refine Ext.drop rfl ?_))))
              · exact ⟨rfl, by simp_all, by omega, by omega⟩
        · intro hg24
          try simp only [decide_eq_true_eq, decide_eq_false_iff_not, Bool.not_eq_true', Bool.not_eq_false', Bool.and_eq_true, Bool.or_eq_false_iff] at hg24
          refine KL.skip rfl rfl rfl ?_
          refine KL.skip rfl rfl rfl ?_
          refine KL.skip rfl rfl rfl ?_
          refine KL.op (R.pick rfl rfl rfl) rfl rfl rfl ?_
          refine KL.op (R.move rfl rfl) rfl rfl rfl ?_
          refine KL.skip rfl rfl rfl ?_
          refine KL.skip rfl rfl rfl ?_
          refine KL.skip rfl rfl rfl ?_
          refine KL.op (R.pick rfl rfl rfl) rfl rfl rfl ?_
          refine KL.op (R.pick rfl rfl rfl) rfl rfl rfl ?_
          refine KL.op (R.move rfl rfl) rfl rfl rfl ?_
          refine KL.op (R.move rfl rfl) rfl rfl rfl ?_
          refine KL.op (R.eql rfl rfl rfl) rfl rfl rfl ?_
          refine KL.op (R.move rfl rfl) rfl rfl rfl ?_
          refine KL.case (d := 38) rfl ?_ ?_
          · intro hg38
            try simp only [decide_eq_true_eq, decide_eq_false_iff_not, Bool.not_eq_true', Bool.not_eq_false', Bool.and_eq_true, Bool.or_eq_false_iff] at hg38
            refine KL.op ((by first | exact R.fieldAddr rfl Try.underlying36 rfl rfl sz2 rfl | exact R.fieldAddrP rfl Try.underlying36 rfl rfl sz2 rfl)) rfl rfl rfl ?_
            refine KL.op (R.load rfl Try.underlying2 rfl rfl (by first | exact cell_of bx rfl | exact cell_of bw rfl | assumption)) rfl rfl rfl ?_
            refine KL.op (R.lss rfl rfl rfl) rfl rfl rfl ?_
            refine KL.op (R.move rfl rfl) rfl rfl rfl ?_
            refine KL.case (d := 42) rfl ?_ ?_
            · intro hg42
              try simp only [decide_eq_true_eq, decide_eq_false_iff_not, Bool.not_eq_true', Bool.not_eq_false', Bool.and_eq_true, Bool.or_eq_false_iff] at hg42
              refine KL.skip rfl rfl rfl ?_
              refine KL.skip rfl rfl rfl ?_
              refine KL.skip rfl rfl rfl ?_
              refine KL.op (R.pick rfl rfl rfl) rfl rfl rfl ?_
              refine KL.op (R.pick rfl rfl rfl) rfl rfl rfl ?_
              refine KL.op (R.pick rfl rfl rfl) rfl rfl rfl ?_
              refine KL.nil ?_
              refine KQ.seq ?_
              refine KC.condT rfl ?_
              refine KC.seq ?_
              refine KC.region ?_
              refine KL.op (R.assign rfl rfl) rfl rfl rfl ?_
              refine KL.nil ?_
              refine KQ.seq ?_
              refine KC.ret ?_
              refine KQ.retThen ?_
              refine KQ.retThen ?_
              refine KQ.ofRet ?_
              refine KQ.fin1 Try.results12 rfl ?_
              first
                | exact ⟨⟨true, rfl, fun _ => (Isp.may_iff hx hll (fun y hy => hs0.rng y hy)).2 ⟨hk, by unfold Isp.mayC; omega⟩, fun _ => rfl⟩, o0⟩
                | exact ⟨⟨false, rfl, fun h => absurd h (by decide), fun h => absurd ((Isp.may_iff hx hll (fun y hy => hs0.rng y hy)).1 h) (fun ⟨k1, k2⟩ => by first | (unfold Isp.mayC at k2; omega) | simp_all)⟩, o0⟩
            · intro hg42
              try simp only [decide_eq_true_eq, decide_eq_false_iff_not, Bool.not_eq_true', Bool.not_eq_false', Bool.and_eq_true, Bool.or_eq_false_iff] at hg42
              refine KL.op ((by first | exact R.fieldAddr rfl Try.underlying36 rfl rfl sz2 rfl | exact R.fieldAddrP rfl Try.underlying36 rfl rfl sz2 rfl)) rfl rfl rfl ?_
              refine KL.op (R.load rfl Try.underlying2 rfl rfl (by first | exact cell_of bx rfl | exact cell_of bw rfl | assumption)) rfl rfl rfl ?_
              refine KL.op (R.gtr rfl rfl rfl) rfl rfl rfl ?_
              refine KL.op (R.pick rfl rfl rfl) rfl rfl rfl ?_
              refine KL.op (R.pick rfl rfl rfl) rfl rfl rfl ?_
              refine KL.op (R.pick rfl rfl rfl) rfl rfl rfl ?_
              refine KL.nil ?_
              refine KQ.seq ?_
              refine KC.iteL rfl ?_ ?_
              · intro hc48
                try simp only [decide_eq_true_eq, decide_eq_false_iff_not, Bool.not_eq_true', Bool.not_eq_false', Bool.and_eq_true, Bool.or_eq_false_iff] at hc48
                refine KC.seq ?_
                refine KC.region ?_
                refine KL.op (R.assign rfl rfl) rfl rfl rfl ?_
                refine KL.nil ?_
                refine KQ.seq ?_
                refine KC.ret ?_
                refine KQ.retThen ?_
                refine KQ.retThen ?_
                refine KQ.ofRet ?_
                refine KQ.fin1 Try.results12 rfl ?_
                first
                  | exact ⟨⟨true, rfl, fun _ => (Isp.may_iff hx hll (fun y hy => hs0.rng y hy)).2 ⟨hk, by unfold Isp.mayC; omega⟩, fun _ => rfl⟩, o0⟩
                  | exact ⟨⟨false, rfl, fun h => absurd h (by decide), fun h => absurd ((Isp.may_iff hx hll (fun y hy => hs0.rng y hy)).1 h) (fun ⟨k1, k2⟩ => by first | (unfold Isp.mayC at k2; omega) | simp_all)⟩, o0⟩
              · intro hc48
                try simp only [decide_eq_true_eq, decide_eq_false_iff_not, Bool.not_eq_true', Bool.not_eq_false', Bool.and_eq_true, Bool.or_eq_false_iff] at hc48
                refine KC.skip ?_
                refine KQ.meet () ?_ ?_
                · exact (Sub.cons (by rfl) (Ext.sub (by repeat (first | exact Ext.refl _ _ | refine Ext.put rfl ?_ | refine Ext.drop rfl ?_))))
                · exact ⟨rfl, by simp_all, by omega, by omega⟩
          · intro hg38
            try simp only [decide_eq_true_eq, decide_eq_false_iff_not, Bool.not_eq_true', Bool.not_eq_false', Bool.and_eq_true, Bool.or_eq_false_iff] at hg38
            refine KL.skip rfl rfl rfl ?_
            refine KL.skip rfl rfl rfl ?_
            refine KL.skip rfl rfl rfl ?_
            refine KL.skip rfl rfl rfl ?_
            refine KL.skip rfl rfl rfl ?_
            refine KL.skip rfl rfl rfl ?_
            refine KL.skip rfl rfl rfl ?_
            refine KL.skip rfl rfl rfl ?_
            refine KL.op (R.pick rfl rfl rfl) rfl rfl rfl ?_
            refine KL.op (R.pick rfl rfl rfl) rfl rfl rfl ?_
            refine KL.nil ?_
            refine KQ.seq ?_
            refine KC.condF rfl ?_
            refine KC.skip ?_
            refine KQ.meet () ?_ ?_
            · exact (Sub.cons (by rfl) (Ext.sub (by repeat (first | exact Ext.refl _ _ | refine Ext.put rfl ?_ | refine Ext.drop rfl ?_))))
            · exact ⟨rfl, by simp_all, by omega, by omega⟩
      · intro hg19
        try simp only [decide_eq_true_eq, decide_eq_false_iff_not, Bool.not_eq_true', Bool.not_eq_false', Bool.and_eq_true, Bool.or_eq_false_iff] at hg19
        refine KL.skip rfl rfl rfl ?_
        refine KL.skip rfl rfl rfl ?_
        refine KL.skip rfl rfl rfl ?_
        refine KL.op (R.pick rfl rfl rfl) rfl rfl rfl ?_
        refine KL.op (R.move rfl rfl) rfl rfl rfl ?_
        refine KL.skip rfl rfl rfl ?_
        refine KL.skip rfl rfl rfl ?_
        refine KL.skip rfl rfl rfl ?_
        refine KL.op (R.pick rfl rfl rfl) rfl rfl rfl ?_
        refine KL.op (R.move rfl rfl) rfl rfl rfl ?_
        refine KL.skip rfl rfl rfl ?_
        refine KL.skip rfl rfl rfl ?_
        refine KL.skip rfl rfl rfl ?_
        refine KL.op (R.pick rfl rfl rfl) rfl rfl rfl ?_
        refine KL.op (R.pick rfl rfl rfl) rfl rfl rfl ?_
        refine KL.op (R.move rfl rfl) rfl rfl rfl ?_
        refine KL.op (R.move rfl rfl) rfl rfl rfl ?_
        refine KL.op (R.eql rfl rfl rfl) rfl rfl rfl ?_
        refine KL.op (R.move rfl rfl) rfl rfl rfl ?_
        refine KL.case (d := 38) rfl ?_ ?_
        · intro hg38
          try simp only [decide_eq_true_eq, decide_eq_false_iff_not, Bool.not_eq_true', Bool.not_eq_false', Bool.and_eq_true, Bool.or_eq_false_iff] at hg38
          refine KL.op ((by first | exact R.fieldAddr rfl Try.underlying36 rfl rfl sz2 rfl | exact R.fieldAddrP rfl Try.underlying36 rfl rfl sz2 rfl)) rfl rfl rfl ?_
          refine KL.op (R.load rfl Try.underlying2 rfl rfl (by first | exact cell_of bx rfl | exact cell_of bw rfl | assumption)) rfl rfl rfl ?_
          refine KL.op (R.lss rfl rfl rfl) rfl rfl rfl ?_
          refine KL.op (R.move rfl rfl) rfl rfl rfl ?_
          refine KL.case (d := 42) rfl ?_ ?_
          · intro hg42
            try simp only [decide_eq_true_eq, decide_eq_false_iff_not, Bool.not_eq_true', Bool.not_eq_false', Bool.and_eq_true, Bool.or_eq_false_iff] at hg42
            refine KL.skip rfl rfl rfl ?_
            refine KL.skip rfl rfl rfl ?_
            refine KL.skip rfl rfl rfl ?_
            refine KL.op (R.pick rfl rfl rfl) rfl rfl rfl ?_
            refine KL.op (R.pick rfl rfl rfl) rfl rfl rfl ?_
            refine KL.op (R.pick rfl rfl rfl) rfl rfl rfl ?_
            refine KL.nil ?_
            refine KQ.seq ?_
            refine KC.condT rfl ?_
            refine KC.seq ?_
            refine KC.region ?_
            refine KL.op (R.assign rfl rfl) rfl rfl rfl ?_
            refine KL.nil ?_
            refine KQ.seq ?_
            refine KC.ret ?_
            refine KQ.retThen ?_
            refine KQ.retThen ?_
            refine KQ.ofRet ?_
            refine KQ.fin1 Try.results12 rfl ?_
            first
              | exact ⟨⟨true, rfl, fun _ => (Isp.may_iff hx hll (fun y hy => hs0.rng y hy)).2 ⟨hk, by unfold Isp.mayC; omega⟩, fun _ => rfl⟩, o0⟩
              | exact ⟨⟨false, rfl, fun h => absurd h (by decide), fun h => absurd ((Isp.may_iff hx hll (fun y hy => hs0.rng y hy)).1 h) (fun ⟨k1, k2⟩ => by first | (unfold Isp.mayC at k2; omega) | simp_all)⟩, o0⟩
          · intro hg42
            try simp only [decide_eq_true_eq, decide_eq_false_iff_not, Bool.not_eq_true', Bool.not_eq_false', Bool.and_eq_true, Bool.or_eq_false_iff] at hg42
            refine KL.op ((by first | exact R.fieldAddr rfl Try.underlying36 rfl rfl sz2 rfl | exact R.fieldAddrP rfl Try.underlying36 rfl rfl sz2 rfl)) rfl rfl rfl ?_
            refine KL.op (R.load rfl Try.underlying2 rfl rfl (by first | exact cell_of bx rfl | exact cell_of bw rfl | assumption)) rfl rfl rfl ?_
            refine KL.op (R.gtr rfl rfl rfl) rfl rfl rfl ?_
            refine KL.op (R.pick rfl rfl rfl) rfl rfl rfl ?_
            refine KL.op (R.pick rfl rfl rfl) rfl rfl rfl ?_
            refine KL.op (R.pick rfl rfl rfl) rfl rfl rfl ?_
            refine KL.nil ?_
            refine KQ.seq ?_
            refine KC.iteL rfl ?_ ?_
            · intro hc48
              try simp only [decide_eq_true_eq, decide_eq_false_iff_not, Bool.not_eq_true', Bool.not_eq_false', Bool.and_eq_true, Bool.or_eq_false_iff] at hc48
              refine KC.seq ?_
              refine KC.region ?_
              refine KL.op (R.assign rfl rfl) rfl rfl rfl ?_
              refine KL.nil ?_
              refine KQ.seq ?_
              refine KC.ret ?_
              refine KQ.retThen ?_
              refine KQ.retThen ?_
              refine KQ.ofRet ?_
              refine KQ.fin1 Try.results12 rfl ?_
              first
                | exact ⟨⟨true, rfl, fun _ => (Isp.may_iff hx hll (fun y hy => hs0.rng y hy)).2 ⟨hk, by unfold Isp.mayC; omega⟩, fun _ => rfl⟩, o0⟩
                | exact ⟨⟨false, rfl, fun h => absurd h (by decide), fun h => absurd ((Isp.may_iff hx hll (fun y hy => hs0.rng y hy)).1 h) (fun ⟨k1, k2⟩ => by first | (unfold Isp.mayC at k2; omega) | simp_all)⟩, o0⟩
            · intro hc48
              try simp only [decide_eq_true_eq, decide_eq_false_iff_not, Bool.not_eq_true', Bool.not_eq_false', Bool.and_eq_true, Bool.or_eq_false_iff] at hc48
              refine KC.skip ?_
              refine KQ.meet () ?_ ?_
              · exact (Sub.cons (by rfl) (Ext.sub (by repeat (first | exact Ext.refl _ _ | refine Ext.put rfl ?_ | refine Ext.drop rfl ?_))))
              · exact ⟨rfl, by simp_all, by omega, by omega⟩
        · intro hg38
          try simp only [decide_eq_true_eq, decide_eq_false_iff_not, Bool.not_eq_true', Bool.not_eq_false', Bool.and_eq_true, Bool.or_eq_false_iff] at hg38
          refine KL.skip rfl rfl rfl ?_
          refine KL.skip rfl rfl rfl ?_
          refine KL.skip rfl rfl rfl ?_
          refine KL.skip rfl rfl rfl ?_
          refine KL.skip rfl rfl rfl ?_
          refine KL.skip rfl rfl rfl ?_
          refine KL.skip rfl rfl rfl ?_
          refine KL.skip rfl rfl rfl ?_
          refine KL.op (R.pick rfl rfl rfl) rfl rfl rfl ?_
          refine KL.op (R.pick rfl rfl rfl) rfl rfl rfl ?_
          refine KL.nil ?_
          refine KQ.seq ?_
          refine KC.condF rfl ?_
          refine KC.skip ?_
          refine KQ.meet () ?_ ?_
          · exact (Sub.cons (by rfl) (Ext.sub (by repeat (first | exact Ext.refl _ _ | refine Ext.put rfl ?_ | refine Ext.drop rfl ?_))))
          · exact ⟨rfl, by simp_all, by omega, by omega⟩
  · rintro _ _ ⟨rfl, hk, h1, h8⟩
    refine KQ.seq ?_
    refine KC.seq ?_
    refine KC.seq ?_
    refine KC.region ?_
    refine KL.op (R.move rfl rfl) rfl rfl rfl ?_
    refine KL.op (R.eql rfl rfl rfl) rfl rfl rfl ?_
    refine KL.op (R.move rfl rfl) rfl rfl rfl ?_
    refine KL.case (d := 51) rfl ?_ ?_
    · intro hg51
      try simp only [decide_eq_true_eq, decide_eq_false_iff_not, Bool.not_eq_true', Bool.not_eq_false', Bool.and_eq_true, Bool.or_eq_false_iff] at hg51
      refine KL.skip rfl rfl rfl ?_
      refine KL.skip rfl rfl rfl ?_
      refine KL.op (R.pick rfl rfl rfl) rfl rfl rfl ?_
      refine KL.op (R.move rfl rfl) rfl rfl rfl ?_
      refine KL.op ((by first | exact R.fieldAddr rfl Try.underlying36 rfl rfl sz33 rfl | exact R.fieldAddrP rfl Try.underlying36 rfl rfl sz33 rfl)) rfl rfl rfl ?_
      refine KL.op (R.load rfl Try.underlying33 rfl rfl (by first | exact cell_of bx rfl | exact cell_of bw rfl | assumption)) rfl rfl rfl ?_
      refine KL.op (R.neq rfl rfl rfl) rfl rfl rfl ?_
      refine KL.op (R.pick rfl rfl rfl) rfl rfl rfl ?_
      refine KL.op (R.move rfl rfl) rfl rfl rfl ?_
      refine KL.case (d := 60) rfl ?_ ?_
      · intro hg60
        try simp only [decide_eq_true_eq, decide_eq_false_iff_not, Bool.not_eq_true', Bool.not_eq_false', Bool.and_eq_true, Bool.or_eq_false_iff] at hg60
        refine KL.skip rfl rfl rfl ?_
        refine KL.skip rfl rfl rfl ?_
        refine KL.skip rfl rfl rfl ?_
        refine KL.skip rfl rfl rfl ?_
        refine KL.skip rfl rfl rfl ?_
        refine KL.skip rfl rfl rfl ?_
        refine KL.skip rfl rfl rfl ?_
        refine KL.op (R.pick rfl rfl rfl) rfl rfl rfl ?_
        refine KL.op (R.move rfl rfl) rfl rfl rfl ?_
        refine KL.skip rfl rfl rfl ?_
        refine KL.skip rfl rfl rfl ?_
        refine KL.skip rfl rfl rfl ?_
        refine KL.skip rfl rfl rfl ?_
        refine KL.skip rfl rfl rfl ?_
        refine KL.skip rfl rfl rfl ?_
        refine KL.skip rfl rfl rfl ?_
        refine KL.op (R.pick rfl rfl rfl) rfl rfl rfl ?_
        refine KL.op (R.move rfl rfl) rfl rfl rfl ?_
        refine KL.skip rfl rfl rfl ?_
        refine KL.skip rfl rfl rfl ?_
        refine KL.skip rfl rfl rfl ?_
        refine KL.skip rfl rfl rfl ?_
        refine KL.skip rfl rfl rfl ?_
        refine KL.skip rfl rfl rfl ?_
        refine KL.skip rfl rfl rfl ?_
        refine KL.skip rfl rfl rfl ?_
        refine KL.op (R.pick rfl rfl rfl) rfl rfl rfl ?_
        refine KL.nil ?_
        refine KQ.seq ?_
        refine KC.condT rfl ?_
        refine KC.seq ?_
        refine KC.region ?_
        refine KL.op (R.assign rfl rfl) rfl rfl rfl ?_
        refine KL.nil ?_
        refine KQ.seq ?_
        refine KC.ret ?_
        refine KQ.retThen ?_
        refine KQ.ofRet ?_
        refine KQ.fin1 Try.results12 rfl ?_
        first
          | exact ⟨⟨true, rfl, fun _ => (Isp.may_iff hx hll (fun y hy => hs0.rng y hy)).2 ⟨hk, by unfold Isp.mayC; omega⟩, fun _ => rfl⟩, o0⟩
          | exact ⟨⟨false, rfl, fun h => absurd h (by decide), fun h => absurd ((Isp.may_iff hx hll (fun y hy => hs0.rng y hy)).1 h) (fun ⟨k1, k2⟩ => by first | (unfold Isp.mayC at k2; omega) | simp_all)⟩, o0⟩
      · intro hg60
        try simp only [decide_eq_true_eq, decide_eq_false_iff_not, Bool.not_eq_true', Bool.not_eq_false', Bool.and_eq_true, Bool.or_eq_false_iff] at hg60
        refine KL.op (R.move rfl rfl) rfl rfl rfl ?_
        refine KL.op (R.neq rfl rfl rfl) rfl rfl rfl ?_
        refine KL.op (R.move rfl rfl) rfl rfl rfl ?_
        refine KL.case (d := 63) rfl ?_ ?_
        · intro hg63
          try simp only [decide_eq_true_eq, decide_eq_false_iff_not, Bool.not_eq_true', Bool.not_eq_false', Bool.and_eq_true, Bool.or_eq_false_iff] at hg63
          refine KL.op ((by first | exact R.fieldAddr rfl Try.underlying36 rfl rfl sz33 rfl | exact R.fieldAddrP rfl Try.underlying36 rfl rfl sz33 rfl)) rfl rfl rfl ?_
          refine KL.op (R.load rfl Try.underlying33 rfl rfl (by first | exact cell_of bx rfl | exact cell_of bw rfl | assumption)) rfl rfl rfl ?_
          refine KL.op (R.neq rfl rfl rfl) rfl rfl rfl ?_
          refine KL.op (R.pick rfl rfl rfl) rfl rfl rfl ?_
          refine KL.op (R.pick rfl rfl rfl) rfl rfl rfl ?_
          refine KL.op (R.move rfl rfl) rfl rfl rfl ?_
          refine KL.case (d := 69) rfl ?_ ?_
          · intro hg69
            try simp only [decide_eq_true_eq, decide_eq_false_iff_not, Bool.not_eq_true', Bool.not_eq_false', Bool.and_eq_true, Bool.or_eq_false_iff] at hg69
            refine KL.skip rfl rfl rfl ?_
            refine KL.skip rfl rfl rfl ?_
            refine KL.skip rfl rfl rfl ?_
            refine KL.skip rfl rfl rfl ?_
            refine KL.skip rfl rfl rfl ?_
            refine KL.skip rfl rfl rfl ?_
            refine KL.skip rfl rfl rfl ?_
            refine KL.op (R.pick rfl rfl rfl) rfl rfl rfl ?_
            refine KL.op (R.move rfl rfl) rfl rfl rfl ?_
            refine KL.skip rfl rfl rfl ?_
            refine KL.skip rfl rfl rfl ?_
            refine KL.skip rfl rfl rfl ?_
            refine KL.skip rfl rfl rfl ?_
            refine KL.skip rfl rfl rfl ?_
            refine KL.skip rfl rfl rfl ?_
            refine KL.skip rfl rfl rfl ?_
            refine KL.skip rfl rfl rfl ?_
            refine KL.op (R.pick rfl rfl rfl) rfl rfl rfl ?_
            refine KL.nil ?_
            refine KQ.seq ?_
            refine KC.condT rfl ?_
            refine KC.seq ?_
            refine KC.region ?_
            refine KL.op (R.assign rfl rfl) rfl rfl rfl ?_
            refine KL.nil ?_
            refine KQ.seq ?_
            refine KC.ret ?_
            refine KQ.retThen ?_
            refine KQ.ofRet ?_
            refine KQ.fin1 Try.results12 rfl ?_
            first
              | exact ⟨⟨true, rfl, fun _ => (Isp.may_iff hx hll (fun y hy => hs0.rng y hy)).2 ⟨hk, by unfold Isp.mayC; omega⟩, fun _ => rfl⟩, o0⟩
              | exact ⟨⟨false, rfl, fun h => absurd h (by decide), fun h => absurd ((Isp.may_iff hx hll (fun y hy => hs0.rng y hy)).1 h) (fun ⟨k1, k2⟩ => by first | (unfold Isp.mayC at k2; omega) | simp_all)⟩, o0⟩
          · intro hg69
            try simp only [decide_eq_true_eq, decide_eq_false_iff_not, Bool.not_eq_true', Bool.not_eq_false', Bool.and_eq_true, Bool.or_eq_false_iff] at hg69
            refine KL.op (R.move rfl rfl) rfl rfl rfl ?_
            refine KL.op (R.lss rfl rfl rfl) rfl rfl rfl ?_
            refine KL.op (R.move rfl rfl) rfl rfl rfl ?_
            refine KL.case (d := 72) rfl ?_ ?_
            · intro hg72
              try simp only [decide_eq_true_eq, decide_eq_false_iff_not, Bool.not_eq_true', Bool.not_eq_false', Bool.and_eq_true, Bool.or_eq_false_iff] at hg72
              refine KL.op ((by first | exact R.fieldAddr rfl Try.underlying36 rfl rfl sz2 rfl | exact R.fieldAddrP rfl Try.underlying36 rfl rfl sz2 rfl)) rfl rfl rfl ?_
              refine KL.op (R.load rfl Try.underlying2 rfl rfl (by first | exact cell_of bx rfl | exact cell_of bw rfl | assumption)) rfl rfl rfl ?_
              refine KL.op (R.neq rfl rfl rfl) rfl rfl rfl ?_
              refine KL.op (R.pick rfl rfl rfl) rfl rfl rfl ?_
              refine KL.op (R.pick rfl rfl rfl) rfl rfl rfl ?_
              refine KL.op (R.move rfl rfl) rfl rfl rfl ?_
              refine KL.case (d := 78) rfl ?_ ?_
              · intro hg78
                try simp only [decide_eq_true_eq, decide_eq_false_iff_not, Bool.not_eq_true', Bool.not_eq_false', Bool.and_eq_true, Bool.or_eq_false_iff] at hg78
                refine KL.skip rfl rfl rfl ?_
                refine KL.skip rfl rfl rfl ?_
                refine KL.skip rfl rfl rfl ?_
                refine KL.skip rfl rfl rfl ?_
                refine KL.skip rfl rfl rfl ?_
                refine KL.skip rfl rfl rfl ?_
                refine KL.skip rfl rfl rfl ?_
                refine KL.skip rfl rfl rfl ?_
                refine KL.op (R.pick rfl rfl rfl) rfl rfl rfl ?_
                refine KL.nil ?_
                refine KQ.seq ?_
                refine KC.condT rfl ?_
                refine KC.seq ?_
                refine KC.region ?_
                refine KL.op (R.assign rfl rfl) rfl rfl rfl ?_
                refine KL.nil ?_
                refine KQ.seq ?_
                refine KC.ret ?_
                refine KQ.retThen ?_
                refine KQ.ofRet ?_
                refine KQ.fin1 Try.results12 rfl ?_
                first
                  | exact ⟨⟨true, rfl, fun _ => (Isp.may_iff hx hll (fun y hy => hs0.rng y hy)).2 ⟨hk, by unfold Isp.mayC; omega⟩, fun _ => rfl⟩, o0⟩
                  | exact ⟨⟨false, rfl, fun h => absurd h (by decide), fun h => absurd ((Isp.may_iff hx hll (fun y hy => hs0.rng y hy)).1 h) (fun ⟨k1, k2⟩ => by first | (unfold Isp.mayC at k2; omega) | simp_all)⟩, o0⟩
              · intro hg78
                try simp only [decide_eq_true_eq, decide_eq_false_iff_not, Bool.not_eq_true', Bool.not_eq_false', Bool.and_eq_true, Bool.or_eq_false_iff] at hg78
                refine KL.op (R.move rfl rfl) rfl rfl rfl ?_
                refine KL.op (R.neq rfl rfl rfl) rfl rfl rfl ?_
                refine KL.op (R.move rfl rfl) rfl rfl rfl ?_
                refine KL.case (d := 81) rfl ?_ ?_
                · intro hg81
                  try simp only [decide_eq_true_eq, decide_eq_false_iff_not, Bool.not_eq_true', Bool.not_eq_false', Bool.and_eq_true, Bool.or_eq_false_iff] at hg81
                  refine KL.op ((by first | exact R.fieldAddr rfl Try.underlying36 rfl rfl sz34 rfl | exact R.fieldAddrP rfl Try.underlying36 rfl rfl sz34 rfl)) rfl rfl rfl ?_
                  refine KL.op (R.load rfl Try.underlying34 rfl rfl (by first | exact cell_of bx rfl | exact cell_of bw rfl | assumption)) rfl rfl rfl ?_
                  refine KL.op ((by first | exact R.lenS rfl Try.underlying34 rfl (by first | assumption) | exact R.len (ty := 0) rfl Try.underlying34 rfl)) rfl rfl rfl ?_
                  refine KL.op (R.gtr rfl rfl rfl) rfl rfl rfl ?_
                  refine KL.op (R.pick rfl rfl rfl) rfl rfl rfl ?_
                  refine KL.op (R.pick rfl rfl rfl) rfl rfl rfl ?_
                  refine KL.nil ?_
                  refine KQ.seq ?_
                  refine KC.iteL rfl ?_ ?_
                  · intro hc87
                    try simp only [decide_eq_true_eq, decide_eq_false_iff_not, Bool.not_eq_true', Bool.not_eq_false', Bool.and_eq_true, Bool.or_eq_false_iff] at hc87
                    refine KC.seq ?_
                    refine KC.region ?_
                    refine KL.op (R.assign rfl rfl) rfl rfl rfl ?_
                    refine KL.nil ?_
                    refine KQ.seq ?_
                    refine KC.ret ?_
                    refine KQ.retThen ?_
                    refine KQ.ofRet ?_
                    refine KQ.fin1 Try.results12 rfl ?_
                    first
                      | exact ⟨⟨true, rfl, fun _ => (Isp.may_iff hx hll (fun y hy => hs0.rng y hy)).2 ⟨hk, by unfold Isp.mayC; omega⟩, fun _ => rfl⟩, o0⟩
                      | exact ⟨⟨false, rfl, fun h => absurd h (by decide), fun h => absurd ((Isp.may_iff hx hll (fun y hy => hs0.rng y hy)).1 h) (fun ⟨k1, k2⟩ => by first | (unfold Isp.mayC at k2; omega) | simp_all)⟩, o0⟩
                  · intro hc87
                    try simp only [decide_eq_true_eq, decide_eq_false_iff_not, Bool.not_eq_true', Bool.not_eq_false', Bool.and_eq_true, Bool.or_eq_false_iff] at hc87
                    refine KC.skip ?_
                    refine KQ.seq ?_
                    refine KC.seq ?_
                    refine KC.region ?_
                    refine KL.op (R.assign rfl rfl) rfl rfl rfl ?_
                    refine KL.nil ?_
                    refine KQ.seq ?_
                    refine KC.ret ?_
                    refine KQ.ofRet ?_
                    refine KQ.fin1 Try.results12 rfl ?_
                    first
                      | exact ⟨⟨true, rfl, fun _ => (Isp.may_iff hx hll (fun y hy => hs0.rng y hy)).2 ⟨hk, by unfold Isp.mayC; omega⟩, fun _ => rfl⟩, o0⟩
                      | exact ⟨⟨false, rfl, fun h => absurd h (by decide), fun h => absurd ((Isp.may_iff hx hll (fun y hy => hs0.rng y hy)).1 h) (fun ⟨k1, k2⟩ => by first | (unfold Isp.mayC at k2; omega) | simp_all)⟩, o0⟩
                · intro hg81
                  try simp only [decide_eq_true_eq, decide_eq_false_iff_not, Bool.not_eq_true', Bool.not_eq_false', Bool.and_eq_true, Bool.or_eq_false_iff] at hg81
                  refine KL.skip rfl rfl rfl ?_
                  refine KL.skip rfl rfl rfl ?_
                  refine KL.skip rfl rfl rfl ?_
                  refine KL.skip rfl rfl rfl ?_
                  refine KL.op (R.pick rfl rfl rfl) rfl rfl rfl ?_
                  refine KL.op (R.pick rfl rfl rfl) rfl rfl rfl ?_
                  refine KL.nil ?_
                  refine KQ.seq ?_
                  refine KC.condF rfl ?_
                  refine KC.skip ?_
                  refine KQ.seq ?_
                  refine KC.seq ?_
                  refine KC.region ?_
                  refine KL.op (R.assign rfl rfl) rfl rfl rfl ?_
                  refine KL.nil ?_
                  refine KQ.seq ?_
                  refine KC.ret ?_
                  refine KQ.ofRet ?_
                  refine KQ.fin1 Try.results12 rfl ?_
                  first
                    | exact ⟨⟨true, rfl, fun _ => (Isp.may_iff hx hll (fun y hy => hs0.rng y hy)).2 ⟨hk, by unfold Isp.mayC; omega⟩, fun _ => rfl⟩, o0⟩
                    | exact ⟨⟨false, rfl, fun h => absurd h (by decide), fun h => absurd ((Isp.may_iff hx hll (fun y hy => hs0.rng y hy)).1 h) (fun ⟨k1, k2⟩ => by first | (unfold Isp.mayC at k2; omega) | simp_all)⟩, o0⟩
            · intro hg72
              try simp only [decide_eq_true_eq, decide_eq_false_iff_not, Bool.not_eq_true', Bool.not_eq_false', Bool.and_eq_true, Bool.or_eq_false_iff] at hg72
              refine KL.skip rfl rfl rfl ?_
              refine KL.skip rfl rfl rfl ?_
              refine KL.skip rfl rfl rfl ?_
              refine KL.op (R.pick rfl rfl rfl) rfl rfl rfl ?_
              refine KL.op (R.pick rfl rfl rfl) rfl rfl rfl ?_
              refine KL.op (R.move rfl rfl) rfl rfl rfl ?_
              refine KL.op (R.move rfl rfl) rfl rfl rfl ?_
              refine KL.op (R.neq rfl rfl rfl) rfl rfl rfl ?_
              refine KL.op (R.move rfl rfl) rfl rfl rfl ?_
              refine KL.case (d := 81) rfl ?_ ?_
              · intro hg81
                try simp only [decide_eq_true_eq, decide_eq_false_iff_not, Bool.not_eq_true', Bool.not_eq_false', Bool.and_eq_true, Bool.or_eq_false_iff] at hg81
                refine KL.op ((by first | exact R.fieldAddr rfl Try.underlying36 rfl rfl sz34 rfl | exact R.fieldAddrP rfl Try.underlying36 rfl rfl sz34 rfl)) rfl rfl rfl ?_
                refine KL.op (R.load rfl Try.underlying34 rfl rfl (by first | exact cell_of bx rfl | exact cell_of bw rfl | assumption)) rfl rfl rfl ?_
                refine KL.op ((by first | exact R.lenS rfl Try.underlying34 rfl (by first | assumption) | exact R.len (ty := 0) rfl Try.underlying34 rfl)) rfl rfl rfl ?_
                refine KL.op (R.gtr rfl rfl rfl) rfl rfl rfl ?_
                refine KL.op (R.pick rfl rfl rfl) rfl rfl rfl ?_
                refine KL.op (R.pick rfl rfl rfl) rfl rfl rfl ?_
                refine KL.nil ?_
                refine KQ.seq ?_
                refine KC.iteL rfl ?_ ?_
                · intro hc87
                  try simp only [decide_eq_true_eq, decide_eq_false_iff_not, Bool.not_eq_true', Bool.not_eq_false', Bool.and_eq_true, Bool.or_eq_false_iff] at hc87
                  refine KC.seq ?_
                  refine KC.region ?_
                  refine KL.op (R.assign rfl rfl) rfl rfl rfl ?_
                  refine KL.nil ?_
                  refine KQ.seq ?_
                  refine KC.ret ?_
                  refine KQ.retThen ?_
                  refine KQ.ofRet ?_
                  refine KQ.fin1 Try.results12 rfl ?_
                  first
                    | exact ⟨⟨true, rfl, fun _ => (Isp.may_iff hx hll (fun y hy => hs0.rng y hy)).2 ⟨hk, by unfold Isp.mayC; omega⟩, fun _ => rfl⟩, o0⟩
                    | exact ⟨⟨false, rfl, fun h => absurd h (by decide), fun h => absurd ((Isp.may_iff hx hll (fun y hy => hs0.rng y hy)).1 h) (fun ⟨k1, k2⟩ => by first | (unfold Isp.mayC at k2; omega) | simp_all)⟩, o0⟩
                · intro hc87
                  try simp only [decide_eq_true_eq, decide_eq_false_iff_not, Bool.not_eq_true', Bool.not_eq_false', Bool.and_eq_true, Bool.or_eq_false_iff] at hc87
                  refine KC.skip ?_
                  refine KQ.seq ?_
                  refine KC.seq ?_
                  refine KC.region ?_
                  refine KL.op (R.assign rfl rfl) rfl rfl rfl ?_
                  refine KL.nil ?_
                  refine KQ.seq ?_
                  refine KC.ret ?_
                  refine KQ.ofRet ?_
                  refine KQ.fin1 Try.results12 rfl ?_
                  first
                    | exact ⟨⟨true, rfl, fun _ => (Isp.may_iff hx hll (fun y hy => hs0.rng y hy)).2 ⟨hk, by unfold Isp.mayC; omega⟩, fun _ => rfl⟩, o0⟩
                    | exact ⟨⟨false, rfl, fun h => absurd h (by decide), fun h => absurd ((Isp.may_iff hx hll (fun y hy => hs0.rng y hy)).1 h) (fun ⟨k1, k2⟩ => by first | (unfold Isp.mayC at k2; omega) | simp_all)⟩, o0⟩
              · intro hg81
                try simp only [decide_eq_true_eq, decide_eq_false_iff_not, Bool.not_eq_true', Bool.not_eq_false', Bool.and_eq_true, Bool.or_eq_false_iff] at hg81
                refine KL.skip rfl rfl rfl ?_
                refine KL.skip rfl rfl rfl ?_
                refine KL.skip rfl rfl rfl ?_
                refine KL.skip rfl rfl rfl ?_
                refine KL.op (R.pick rfl rfl rfl) rfl rfl rfl ?_
                refine KL.op (R.pick rfl rfl rfl) rfl rfl rfl ?_
                refine KL.nil ?_
                refine KQ.seq ?_
                refine KC.condF rfl ?_
                refine KC.skip ?_
                refine KQ.seq ?_
                refine KC.seq ?_
                refine KC.region ?_
                refine KL.op (R.assign rfl rfl) rfl rfl rfl ?_
                refine KL.nil ?_
                refine KQ.seq ?_
                refine KC.ret ?_
                refine KQ.ofRet ?_
                refine KQ.fin1 Try.results12 rfl ?_
                first
                  | exact ⟨⟨true, rfl, fun _ => (Isp.may_iff hx hll (fun y hy => hs0.rng y hy)).2 ⟨hk, by unfold Isp.mayC; omega⟩, fun _ => rfl⟩, o0⟩
                  | exact ⟨⟨false, rfl, fun h => absurd h (by decide), fun h => absurd ((Isp.may_iff hx hll (fun y hy => hs0.rng y hy)).1 h) (fun ⟨k1, k2⟩ => by first | (unfold Isp.mayC at k2; omega) | simp_all)⟩, o0⟩
        · intro hg63
          try simp only [decide_eq_true_eq, decide_eq_false_iff_not, Bool.not_eq_true', Bool.not_eq_false', Bool.and_eq_true, Bool.or_eq_false_iff] at hg63
          refine KL.skip rfl rfl rfl ?_
          refine KL.skip rfl rfl rfl ?_
          refine KL.skip rfl rfl rfl ?_
          refine KL.op (R.pick rfl rfl rfl) rfl rfl rfl ?_
          refine KL.op (R.pick rfl rfl rfl) rfl rfl rfl ?_
          refine KL.op (R.move rfl rfl) rfl rfl rfl ?_
          refine KL.op (R.move rfl rfl) rfl rfl rfl ?_
          refine KL.op (R.lss rfl rfl rfl) rfl rfl rfl ?_
          refine KL.op (R.move rfl rfl) rfl rfl rfl ?_
          refine KL.case (d := 72) rfl ?_ ?_
          · intro hg72
            try simp only [decide_eq_true_eq, decide_eq_false_iff_not, Bool.not_eq_true', Bool.not_eq_false', Bool.and_eq_true, Bool.or_eq_false_iff] at hg72
            refine KL.op ((by first | exact R.fieldAddr rfl Try.underlying36 rfl rfl sz2 rfl | exact R.fieldAddrP rfl Try.underlying36 rfl rfl sz2 rfl)) rfl rfl rfl ?_
            refine KL.op (R.load rfl Try.underlying2 rfl rfl (by first | exact cell_of bx rfl | exact cell_of bw rfl | assumption)) rfl rfl rfl ?_
            refine KL.op (R.neq rfl rfl rfl) rfl rfl rfl ?_
            refine KL.op (R.pick rfl rfl rfl) rfl rfl rfl ?_
            refine KL.op (R.pick rfl rfl rfl) rfl rfl rfl ?_
            refine KL.op (R.move rfl rfl) rfl rfl rfl ?_
            refine KL.case (d := 78) rfl ?_ ?_
            · intro hg78
              try simp only [decide_eq_true_eq, decide_eq_false_iff_not, Bool.not_eq_true', Bool.not_eq_false', Bool.and_eq_true, Bool.or_eq_false_iff] at hg78
              refine KL.skip rfl rfl rfl ?_
              refine KL.skip rfl rfl rfl ?_
              refine KL.skip rfl rfl rfl ?_
              refine KL.skip rfl rfl rfl ?_
              refine KL.skip rfl rfl rfl ?_
              refine KL.skip rfl rfl rfl ?_
              refine KL.skip rfl rfl rfl ?_
              refine KL.skip rfl rfl rfl ?_
              refine KL.op (R.pick rfl rfl rfl) rfl rfl rfl ?_
              refine KL.nil ?_
              refine KQ.seq ?_
              refine KC.condT rfl ?_
              refine KC.seq ?_
              refine KC.region ?_
              refine KL.op (R.assign rfl rfl) rfl rfl rfl ?_
              refine KL.nil ?_
              refine KQ.seq ?_
              refine KC.ret ?_
              refine KQ.retThen ?_
              refine KQ.ofRet ?_
              refine KQ.fin1 Try.results12 rfl ?_
              first
                | exact ⟨⟨true, rfl, fun _ => (Isp.may_iff hx hll (fun y hy => hs0.rng y hy)).2 ⟨hk, by unfold Isp.mayC; omega⟩, fun _ => rfl⟩, o0⟩
                | exact ⟨⟨false, rfl, fun h => absurd h (by decide), fun h => absurd ((Isp.may_iff hx hll (fun y hy => hs0.rng y hy)).1 h) (fun ⟨k1, k2⟩ => by first | (unfold Isp.mayC at k2; omega) | simp_all)⟩, o0⟩
            · intro hg78
              try simp only [decide_eq_true_eq, decide_eq_false_iff_not, Bool.not_eq_true', Bool.not_eq_false', Bool.and_eq_true, Bool.or_eq_false_iff] at hg78
              refine KL.op (R.move rfl rfl) rfl rfl rfl ?_
              refine KL.op (R.neq rfl rfl rfl) rfl rfl rfl ?_
              refine KL.op (R.move rfl rfl) rfl rfl rfl ?_
              refine KL.case (d := 81) rfl ?_ ?_
              · intro hg81
                try simp only [decide_eq_true_eq, decide_eq_false_iff_not, Bool.not_eq_true', Bool.not_eq_false', Bool.and_eq_true, Bool.or_eq_false_iff] at hg81
                refine KL.op ((by first | exact R.fieldAddr rfl Try.underlying36 rfl rfl sz34 rfl | exact R.fieldAddrP rfl Try.underlying36 rfl rfl sz34 rfl)) rfl rfl rfl ?_
                refine KL.op (R.load rfl Try.underlying34 rfl rfl (by first | exact cell_of bx rfl | exact cell_of bw rfl | assumption)) rfl rfl rfl ?_
                refine KL.op ((by first | exact R.lenS rfl Try.underlying34 rfl (by first | assumption) | exact R.len (ty := 0) rfl Try.underlying34 rfl)) rfl rfl rfl ?_
                refine KL.op (R.gtr rfl rfl rfl) rfl rfl rfl ?_
                refine KL.op (R.pick rfl rfl rfl) rfl rfl rfl ?_
                refine KL.op (R.pick rfl rfl rfl) rfl rfl rfl ?_
                refine KL.nil ?_
                refine KQ.seq ?_
                refine KC.iteL rfl ?_ ?_
                · intro hc87
                  try simp only [decide_eq_true_eq, decide_eq_false_iff_not, Bool.not_eq_true', Bool.not_eq_false', Bool.and_eq_true, Bool.or_eq_false_iff] at hc87
                  refine KC.seq ?_
                  refine KC.region ?_
                  refine KL.op (R.assign rfl rfl) rfl rfl rfl ?_
                  refine KL.nil ?_
                  refine KQ.seq ?_
                  refine KC.ret ?_
                  refine KQ.retThen ?_
                  refine KQ.ofRet ?_
                  refine KQ.fin1 Try.results12 rfl ?_
                  first
                    | exact ⟨⟨true, rfl, fun _ => (Isp.may_iff hx hll (fun y hy => hs0.rng y hy)).2 ⟨hk, by unfold Isp.mayC; omega⟩, fun _ => rfl⟩, o0⟩
                    | exact ⟨⟨false, rfl, fun h => absurd h (by decide), fun h => absurd ((Isp.may_iff hx hll (fun y hy => hs0.rng y hy)).1 h) (fun ⟨k1, k2⟩ => by first | (unfold Isp.mayC at k2; omega) | simp_all)⟩, o0⟩
                · intro hc87
                  try simp only [decide_eq_true_eq, decide_eq_false_iff_not, Bool.not_eq_true', Bool.not_eq_false', Bool.and_eq_true, Bool.or_eq_false_iff] at hc87
                  refine KC.skip ?_
                  refine KQ.seq ?_
                  refine KC.seq ?_
                  refine KC.region ?_
                  refine KL.op (R.assign rfl rfl) rfl rfl rfl ?_
                  refine KL.nil ?_
                  refine KQ.seq ?_
                  refine KC.ret ?_
                  refine KQ.ofRet ?_
                  refine KQ.fin1 Try.results12 rfl ?_
                  first
                    | exact ⟨⟨true, rfl, fun _ => (Isp.may_iff hx hll (fun y hy => hs0.rng y hy)).2 ⟨hk, by unfold Isp.mayC; omega⟩, fun _ => rfl⟩, o0⟩
                    | exact ⟨⟨false, rfl, fun h => absurd h (by decide), fun h => absurd ((Isp.may_iff hx hll (fun y hy => hs0.rng y hy)).1 h) (fun ⟨k1, k2⟩ => by first | (unfold Isp.mayC at k2; omega) | simp_all)⟩, o0⟩
              · intro hg81
                try simp only [decide_eq_true_eq, decide_eq_false_iff_not, Bool.not_eq_true', Bool.not_eq_false', Bool.and_eq_true, Bool.or_eq_false_iff] at hg81
                refine KL.skip rfl rfl rfl ?_
                refine KL.skip rfl rfl rfl ?_
                refine KL.skip rfl rfl rfl ?_
                refine KL.skip rfl rfl rfl ?_
                refine KL.op (R.pick rfl rfl rfl) rfl rfl rfl ?_
                refine KL.op (R.pick rfl rfl rfl) rfl rfl rfl ?_
                refine KL.nil ?_
                refine KQ.seq ?_
                refine KC.condF rfl ?_
                refine KC.skip ?_
                refine KQ.seq ?_
                refine KC.seq ?_
                refine KC.region ?_
                refine KL.op (R.assign rfl rfl) rfl rfl rfl ?_
                refine KL.nil ?_
                refine KQ.seq ?_
                refine KC.ret ?_
                refine KQ.ofRet ?_
                refine KQ.fin1 Try.results12 rfl ?_
                first
                  | exact ⟨⟨true, rfl, fun _ => (Isp.may_iff hx hll (fun y hy => hs0.rng y hy)).2 ⟨hk, by unfold Isp.mayC; omega⟩, fun _ => rfl⟩, o0⟩
                  | exact ⟨⟨false, rfl, fun h => absurd h (by decide), fun h => absurd ((Isp.may_iff hx hll (fun y hy => hs0.rng y hy)).1 h) (fun ⟨k1, k2⟩ => by first | (unfold Isp.mayC at k2; omega) | simp_all)⟩, o0⟩
          · intro hg72
            try simp only [decide_eq_true_eq, decide_eq_false_iff_not, Bool.not_eq_true', Bool.not_eq_false', Bool.and_eq_true, Bool.or_eq_false_iff] at hg72
            refine KL.skip rfl rfl rfl ?_
            refine KL.skip rfl rfl rfl ?_
            refine KL.skip rfl rfl rfl ?_
            refine KL.op (R.pick rfl rfl rfl) rfl rfl rfl ?_
            refine KL.op (R.pick rfl rfl rfl) rfl rfl rfl ?_
            refine KL.op (R.move rfl rfl) rfl rfl rfl ?_
            refine KL.op (R.move rfl rfl) rfl rfl rfl ?_
            refine KL.op (R.neq rfl rfl rfl) rfl rfl rfl ?_
            refine KL.op (R.move rfl rfl) rfl rfl rfl ?_
            refine KL.case (d := 81) rfl ?_ ?_
            · intro hg81
              try simp only [decide_eq_true_eq, decide_eq_false_iff_not, Bool.not_eq_true', Bool.not_eq_false', Bool.and_eq_true, Bool.or_eq_false_iff] at hg81
              refine KL.op ((by first | exact R.fieldAddr rfl Try.underlying36 rfl rfl sz34 rfl | exact R.fieldAddrP rfl Try.underlying36 rfl rfl sz34 rfl)) rfl rfl rfl ?_
              refine KL.op (R.load rfl Try.underlying34 rfl rfl (by first | exact cell_of bx rfl | exact cell_of bw rfl | assumption)) rfl rfl rfl ?_
              refine KL.op ((by first | exact R.lenS rfl Try.underlying34 rfl (by first | assumption) | exact R.len (ty := 0) rfl Try.underlying34 rfl)) rfl rfl rfl ?_
              refine KL.op (R.gtr rfl rfl rfl) rfl rfl rfl ?_
              refine KL.op (R.pick rfl rfl rfl) rfl rfl rfl ?_
              refine KL.op (R.pick rfl rfl rfl) rfl rfl rfl ?_
              refine KL.nil ?_
              refine KQ.seq ?_
              refine KC.iteL rfl ?_ ?_
              · intro hc87
                try simp only [decide_eq_true_eq, decide_eq_false_iff_not, Bool.not_eq_true', Bool.not_eq_false', Bool.and_eq_true, Bool.or_eq_false_iff] at hc87
                refine KC.seq ?_
                refine KC.region ?_
                refine KL.op (R.assign rfl rfl) rfl rfl rfl ?_
                refine KL.nil ?_
                refine KQ.seq ?_
                refine KC.ret ?_
                refine KQ.retThen ?_
                refine KQ.ofRet ?_
                refine KQ.fin1 Try.results12 rfl ?_
                first
                  | exact ⟨⟨true, rfl, fun _ => (Isp.may_iff hx hll (fun y hy => hs0.rng y hy)).2 ⟨hk, by unfold Isp.mayC; omega⟩, fun _ => rfl⟩, o0⟩
                  | exact ⟨⟨false, rfl, fun h => absurd h (by decide), fun h => absurd ((Isp.may_iff hx hll (fun y hy => hs0.rng y hy)).1 h) (fun ⟨k1, k2⟩ => by first | (unfold Isp.mayC at k2; omega) | simp_all)⟩, o0⟩
              · intro hc87
                try simp only [decide_eq_true_eq, decide_eq_false_iff_not, Bool.not_eq_true', Bool.not_eq_false', Bool.and_eq_true, Bool.or_eq_false_iff] at hc87
                refine KC.skip ?_
                refine KQ.seq ?_
                refine KC.seq ?_
                refine KC.region ?_
                refine KL.op (R.assign rfl rfl) rfl rfl rfl ?_
                refine KL.nil ?_
                refine KQ.seq ?_
                refine KC.ret ?_
                refine KQ.ofRet ?_
                refine KQ.fin1 Try.results12 rfl ?_
                first
                  | exact ⟨⟨true, rfl, fun _ => (Isp.may_iff hx hll (fun y hy => hs0.rng y hy)).2 ⟨hk, by unfold Isp.mayC; omega⟩, fun _ => rfl⟩, o0⟩
                  | exact ⟨⟨false, rfl, fun h => absurd h (by decide), fun h => absurd ((Isp.may_iff hx hll (fun y hy => hs0.rng y hy)).1 h) (fun ⟨k1, k2⟩ => by first | (unfold Isp.mayC at k2; omega) | simp_all)⟩, o0⟩
            · intro hg81
              try simp only [decide_eq_true_eq, decide_eq_false_iff_not, Bool.not_eq_true', Bool.not_eq_false', Bool.and_eq_true, Bool.or_eq_false_iff] at hg81
              refine KL.skip rfl rfl rfl ?_
              refine KL.skip rfl rfl rfl ?_
              refine KL.skip rfl rfl rfl ?_
              refine KL.skip rfl rfl rfl ?_
              refine KL.op (R.pick rfl rfl rfl) rfl rfl rfl ?_
              refine KL.op (R.pick rfl rfl rfl) rfl rfl rfl ?_
              refine KL.nil ?_
              refine KQ.seq ?_
              refine KC.condF rfl ?_
              refine KC.skip ?_
              refine KQ.seq ?_
              refine KC.seq ?_
              refine KC.region ?_
              refine KL.op (R.assign rfl rfl) rfl rfl rfl ?_
              refine KL.nil ?_
              refine KQ.seq ?_
              refine KC.ret ?_
              refine KQ.ofRet ?_
              refine KQ.fin1 Try.results12 rfl ?_
              first
                | exact ⟨⟨true, rfl, fun _ => (Isp.may_iff hx hll (fun y hy => hs0.rng y hy)).2 ⟨hk, by unfold Isp.mayC; omega⟩, fun _ => rfl⟩, o0⟩
                | exact ⟨⟨false, rfl, fun h => absurd h (by decide), fun h => absurd ((Isp.may_iff hx hll (fun y hy => hs0.rng y hy)).1 h) (fun ⟨k1, k2⟩ => by first | (unfold Isp.mayC at k2; omega) | simp_all)⟩, o0⟩
    · intro hg51
      try simp only [decide_eq_true_eq, decide_eq_false_iff_not, Bool.not_eq_true', Bool.not_eq_false', Bool.and_eq_true, Bool.or_eq_false_iff] at hg51
      refine KL.op (R.move rfl rfl) rfl rfl rfl ?_
      refine KL.op (R.gtr rfl rfl rfl) rfl rfl rfl ?_
      refine KL.op (R.pick rfl rfl rfl) rfl rfl rfl ?_
      refine KL.op (R.move rfl rfl) rfl rfl rfl ?_
      refine KL.case (d := 55) rfl ?_ ?_
      · intro hg55
        try simp only [decide_eq_true_eq, decide_eq_false_iff_not, Bool.not_eq_true', Bool.not_eq_false', Bool.and_eq_true, Bool.or_eq_false_iff] at hg55
        refine KL.op ((by first | exact R.fieldAddr rfl Try.underlying36 rfl rfl sz33 rfl | exact R.fieldAddrP rfl Try.underlying36 rfl rfl sz33 rfl)) rfl rfl rfl ?_
        refine KL.op (R.load rfl Try.underlying33 rfl rfl (by first | exact cell_of bx rfl | exact cell_of bw rfl | assumption)) rfl rfl rfl ?_
        refine KL.op (R.neq rfl rfl rfl) rfl rfl rfl ?_
        refine KL.op (R.pick rfl rfl rfl) rfl rfl rfl ?_
        refine KL.op (R.move rfl rfl) rfl rfl rfl ?_
        refine KL.case (d := 60) rfl ?_ ?_
        · intro hg60
          try simp only [decide_eq_true_eq, decide_eq_false_iff_not, Bool.not_eq_true', Bool.not_eq_false', Bool.and_eq_true, Bool.or_eq_false_iff] at hg60
          refine KL.skip rfl rfl rfl ?_
          refine KL.skip rfl rfl rfl ?_
          refine KL.skip rfl rfl rfl ?_
          refine KL.skip rfl rfl rfl ?_
          refine KL.skip rfl rfl rfl ?_
          refine KL.skip rfl rfl rfl ?_
          refine KL.skip rfl rfl rfl ?_
          refine KL.op (R.pick rfl rfl rfl) rfl rfl rfl ?_
          refine KL.op (R.move rfl rfl) rfl rfl rfl ?_
          refine KL.skip rfl rfl rfl ?_
          refine KL.skip rfl rfl rfl ?_
          refine KL.skip rfl rfl rfl ?_
          refine KL.skip rfl rfl rfl ?_
          refine KL.skip rfl rfl rfl ?_
          refine KL.skip rfl rfl rfl ?_
          refine KL.skip rfl rfl rfl ?_
          refine KL.op (R.pick rfl rfl rfl) rfl rfl rfl ?_
          refine KL.op (R.move rfl rfl) rfl rfl rfl ?_
          refine KL.skip rfl rfl rfl ?_
          refine KL.skip rfl rfl rfl ?_
          refine KL.skip rfl rfl rfl ?_
          refine KL.skip rfl rfl rfl ?_
          refine KL.skip rfl rfl rfl ?_
          refine KL.skip rfl rfl rfl ?_
          refine KL.skip rfl rfl rfl ?_
          refine KL.skip rfl rfl rfl ?_
          refine KL.op (R.pick rfl rfl rfl) rfl rfl rfl ?_
          refine KL.nil ?_
          refine KQ.seq ?_
          refine KC.condT rfl ?_
          refine KC.seq ?_
          refine KC.region ?_
          refine KL.op (R.assign rfl rfl) rfl rfl rfl ?_
          refine KL.nil ?_
          refine KQ.seq ?_
          refine KC.ret ?_
          refine KQ.retThen ?_
          refine KQ.ofRet ?_
          refine KQ.fin1 Try.results12 rfl ?_
          first
            | exact ⟨⟨true, rfl, fun _ => (Isp.may_iff hx hll (fun y hy => hs0.rng y hy)).2 ⟨hk, by unfold Isp.mayC; omega⟩, fun _ => rfl⟩, o0⟩
            | exact ⟨⟨false, rfl, fun h => absurd h (by decide), fun h => absurd ((Isp.may_iff hx hll (fun y hy => hs0.rng y hy)).1 h) (fun ⟨k1, k2⟩ => by first | (unfold Isp.mayC at k2; omega) | simp_all)⟩, o0⟩
        · intro hg60
          try simp only [decide_eq_true_eq, decide_eq_false_iff_not, Bool.not_eq_true', Bool.not_eq_false', Bool.and_eq_true, Bool.or_eq_false_iff] at hg60
          refine KL.op (R.move rfl rfl) rfl rfl rfl ?_
          refine KL.op (R.neq rfl rfl rfl) rfl rfl rfl ?_
          refine KL.op (R.move rfl rfl) rfl rfl rfl ?_
          refine KL.case (d := 63) rfl ?_ ?_
          · intro hg63
            try simp only [decide_eq_true_eq, decide_eq_false_iff_not, Bool.not_eq_true', Bool.not_eq_false', Bool.and_eq_true, Bool.or_eq_false_iff] at hg63
            refine KL.op ((by first | exact R.fieldAddr rfl Try.underlying36 rfl rfl sz33 rfl | exact R.fieldAddrP rfl Try.underlying36 rfl rfl sz33 rfl)) rfl rfl rfl ?_
            refine KL.op (R.load rfl Try.underlying33 rfl rfl (by first | exact cell_of bx rfl | exact cell_of bw rfl | assumption)) rfl rfl rfl ?_
            refine KL.op (R.neq rfl rfl rfl) rfl rfl rfl ?_
            refine KL.op (R.pick rfl rfl rfl) rfl rfl rfl ?_
            refine KL.op (R.pick rfl rfl rfl) rfl rfl rfl ?_
            refine KL.op (R.move rfl rfl) rfl rfl rfl ?_
            refine KL.case (d := 69) rfl ?_ ?_
            · intro hg69
              try simp only [decide_eq_true_eq, decide_eq_false_iff_not, Bool.not_eq_true', Bool.not_eq_false', Bool.and_eq_true, Bool.or_eq_false_iff] at hg69
              refine KL.skip rfl rfl rfl ?_
              refine KL.skip rfl rfl rfl ?_
              refine KL.skip rfl rfl rfl ?_
              refine KL.skip rfl rfl rfl ?_
              refine KL.skip rfl rfl rfl ?_
              refine KL.skip rfl rfl rfl ?_
              refine KL.skip rfl rfl rfl ?_
              refine KL.op (R.pick rfl rfl rfl) rfl rfl rfl ?_
              refine KL.op (R.move rfl rfl) rfl rfl rfl ?_
              refine KL.skip rfl rfl rfl ?_
              refine KL.skip rfl rfl rfl ?_
              refine KL.skip rfl rfl rfl ?_
              refine KL.skip rfl rfl rfl ?_
              refine KL.skip rfl rfl rfl ?_
              refine KL.skip rfl rfl rfl ?_
              refine KL.skip rfl rfl rfl ?_
              refine KL.skip rfl rfl rfl ?_
              refine KL.op (R.pick rfl rfl rfl) rfl rfl rfl ?_
              refine KL.nil ?_
              refine KQ.seq ?_
              refine KC.condT rfl ?_
              refine KC.seq ?_
              refine KC.region ?_
              refine KL.op (R.assign rfl rfl) rfl rfl rfl ?_
              refine KL.nil ?_
              refine KQ.seq ?_
              refine KC.ret ?_
              refine KQ.retThen ?_
              refine KQ.ofRet ?_
              refine KQ.fin1 Try.results12 rfl ?_
              first
                | exact ⟨⟨true, rfl, fun _ => (Isp.may_iff hx hll (fun y hy => hs0.rng y hy)).2 ⟨hk, by unfold Isp.mayC; omega⟩, fun _ => rfl⟩, o0⟩
                | exact ⟨⟨false, rfl, fun h => absurd h (by decide), fun h => absurd ((Isp.may_iff hx hll (fun y hy => hs0.rng y hy)).1 h) (fun ⟨k1, k2⟩ => by first | (unfold Isp.mayC at k2; omega) | simp_all)⟩, o0⟩
            · intro hg69
              try simp only [decide_eq_true_eq, decide_eq_false_iff_not, Bool.not_eq_true', Bool.not_eq_false', Bool.and_eq_true, Bool.or_eq_false_iff] at hg69
              refine KL.op (R.move rfl rfl) rfl rfl rfl ?_
              refine KL.op (R.lss rfl rfl rfl) rfl rfl rfl ?_
              refine KL.op (R.move rfl rfl) rfl rfl rfl ?_
              refine KL.case (d := 72) rfl ?_ ?_
              · intro hg72
                try simp only [decide_eq_true_eq, decide_eq_false_iff_not, Bool.not_eq_true', Bool.not_eq_false', Bool.and_eq_true, Bool.or_eq_false_iff] at hg72
                refine KL.op ((by first | exact R.fieldAddr rfl Try.underlying36 rfl rfl sz2 rfl | exact R.fieldAddrP rfl Try.underlying36 rfl rfl sz2 rfl)) rfl rfl rfl ?_
                refine KL.op (R.load rfl Try.underlying2 rfl rfl (by first | exact cell_of bx rfl | exact cell_of bw rfl | assumption)) rfl rfl rfl ?_
                refine KL.op (R.neq rfl rfl rfl) rfl rfl rfl ?_
                refine KL.op (R.pick rfl rfl rfl) rfl rfl rfl ?_
                refine KL.op (R.pick rfl rfl rfl) rfl rfl rfl ?_
                refine KL.op (R.move rfl rfl) rfl rfl rfl ?_
                refine KL.case (d := 78) rfl ?_ ?_
                · intro hg78
                  try simp only [decide_eq_true_eq, decide_eq_false_iff_not, Bool.not_eq_true', Bool.not_eq_false', Bool.and_eq_true, Bool.or_eq_false_iff] at hg78
                  refine KL.skip rfl rfl rfl ?_
                  refine KL.skip rfl rfl rfl ?_
                  refine KL.skip rfl rfl rfl ?_
                  refine KL.skip rfl rfl rfl ?_
                  refine KL.skip rfl rfl rfl ?_
                  refine KL.skip rfl rfl rfl ?_
                  refine KL.skip rfl rfl rfl ?_
                  refine KL.skip rfl rfl rfl ?_
                  refine KL.op (R.pick rfl rfl rfl) rfl rfl rfl ?_
                  refine KL.nil ?_
                  refine KQ.seq ?_
                  refine KC.condT rfl ?_
                  refine KC.seq ?_
                  refine KC.region ?_
                  refine KL.op (R.assign rfl rfl) rfl rfl rfl ?_
                  refine KL.nil ?_
                  refine KQ.seq ?_
                  refine KC.ret ?_
                  refine KQ.retThen ?_
                  refine KQ.ofRet ?_
                  refine KQ.fin1 Try.results12 rfl ?_
                  first
                    | exact ⟨⟨true, rfl, fun _ => (Isp.may_iff hx hll (fun y hy => hs0.rng y hy)).2 ⟨hk, by unfold Isp.mayC; omega⟩, fun _ => rfl⟩, o0⟩
                    | exact ⟨⟨false, rfl, fun h => absurd h (by decide), fun h => absurd ((Isp.may_iff hx hll (fun y hy => hs0.rng y hy)).1 h) (fun ⟨k1, k2⟩ => by first | (unfold Isp.mayC at k2; omega) | simp_all)⟩, o0⟩
                · intro hg78
                  try simp only [decide_eq_true_eq, decide_eq_false_iff_not, Bool.not_eq_true', Bool.not_eq_false', Bool.and_eq_true, Bool.or_eq_false_iff] at hg78
                  refine KL.op (R.move rfl rfl) rfl rfl rfl ?_
                  refine KL.op (R.neq rfl rfl rfl) rfl rfl rfl ?_
                  refine KL.op (R.move rfl rfl) rfl rfl rfl ?_
                  refine KL.case (d := 81) rfl ?_ ?_
                  · intro hg81
                    try simp only [decide_eq_true_eq, decide_eq_false_iff_not, Bool.not_eq_true', Bool.not_eq_false', Bool.and_eq_true, Bool.or_eq_false_iff] at hg81
                    refine KL.op ((by first | exact R.fieldAddr rfl Try.underlying36 rfl rfl sz34 rfl | exact R.fieldAddrP rfl Try.underlying36 rfl rfl sz34 rfl)) rfl rfl rfl ?_
                    refine KL.op (R.load rfl Try.underlying34 rfl rfl (by first | exact cell_of bx rfl | exact cell_of bw rfl | assumption)) rfl rfl rfl ?_
                    refine KL.op ((by first | exact R.lenS rfl Try.underlying34 rfl (by first | assumption) | exact R.len (ty := 0) rfl Try.underlying34 rfl)) rfl rfl rfl ?_
                    refine KL.op (R.gtr rfl rfl rfl) rfl rfl rfl ?_
                    refine KL.op (R.pick rfl rfl rfl) rfl rfl rfl ?_
                    refine KL.op (R.pick rfl rfl rfl) rfl rfl rfl ?_
                    refine KL.nil ?_
                    refine KQ.seq ?_
                    refine KC.iteL rfl ?_ ?_
                    · intro hc87
                      try simp only [decide_eq_true_eq, decide_eq_false_iff_not, Bool.not_eq_true', Bool.not_eq_false', Bool.and_eq_true, Bool.or_eq_false_iff] at hc87
                      refine KC.seq ?_
                      refine KC.region ?_
                      refine KL.op (R.assign rfl rfl) rfl rfl rfl ?_
                      refine KL.nil ?_
                      refine KQ.seq ?_
                      refine KC.ret ?_
                      refine KQ.retThen ?_
                      refine KQ.ofRet ?_
                      refine KQ.fin1 Try.results12 rfl ?_
                      first
                        | exact ⟨⟨true, rfl, fun _ => (Isp.may_iff hx hll (fun y hy => hs0.rng y hy)).2 ⟨hk, by unfold Isp.mayC; omega⟩, fun _ => rfl⟩, o0⟩
                        | exact ⟨⟨false, rfl, fun h => absurd h (by decide), fun h => absurd ((Isp.may_iff hx hll (fun y hy => hs0.rng y hy)).1 h) (fun ⟨k1, k2⟩ => by first | (unfold Isp.mayC at k2; omega) | simp_all)⟩, o0⟩
                    · intro hc87
                      try simp only [decide_eq_true_eq, decide_eq_false_iff_not, Bool.not_eq_true', Bool.not_eq_false', Bool.and_eq_true, Bool.or_eq_false_iff] at hc87
                      refine KC.skip ?_
                      refine KQ.seq ?_
                      refine KC.seq ?_
                      refine KC.region ?_
                      refine KL.op (R.assign rfl rfl) rfl rfl rfl ?_
                      refine KL.nil ?_
                      refine KQ.seq ?_
                      refine KC.ret ?_
                      refine KQ.ofRet ?_
                      refine KQ.fin1 Try.results12 rfl ?_
                      first
                        | exact ⟨⟨true, rfl, fun _ => (Isp.may_iff hx hll (fun y hy => hs0.rng y hy)).2 ⟨hk, by unfold Isp.mayC; omega⟩, fun _ => rfl⟩, o0⟩
                        | exact ⟨⟨false, rfl, fun h => absurd h (by decide), fun h => absurd ((Isp.may_iff hx hll (fun y hy => hs0.rng y hy)).1 h) (fun ⟨k1, k2⟩ => by first | (unfold Isp.mayC at k2; omega) | simp_all)⟩, o0⟩
                  · intro hg81
                    try simp only [decide_eq_true_eq, decide_eq_false_iff_not, Bool.not_eq_true', Bool.not_eq_false', Bool.and_eq_true, Bool.or_eq_false_iff] at hg81
                    refine KL.skip rfl rfl rfl ?_
                    refine KL.skip rfl rfl rfl ?_
                    refine KL.skip rfl rfl rfl ?_
                    refine KL.skip rfl rfl rfl ?_
                    refine KL.op (R.pick rfl rfl rfl) rfl rfl rfl ?_
                    refine KL.op (R.pick rfl rfl rfl) rfl rfl rfl ?_
                    refine KL.nil ?_
                    refine KQ.seq ?_
                    refine KC.condF rfl ?_
                    refine KC.skip ?_
                    refine KQ.seq ?_
                    refine KC.seq ?_
                    refine KC.region ?_
                    refine KL.op (R.assign rfl rfl) rfl rfl rfl ?_
                    refine KL.nil ?_
                    refine KQ.seq ?_
                    refine KC.ret ?_
                    refine KQ.ofRet ?_
                    refine KQ.fin1 Try.results12 rfl ?_
                    first
                      | exact ⟨⟨true, rfl, fun _ => (Isp.may_iff hx hll (fun y hy => hs0.rng y hy)).2 ⟨hk, by unfold Isp.mayC; omega⟩, fun _ => rfl⟩, o0⟩
                      | exact ⟨⟨false, rfl, fun h => absurd h (by decide), fun h => absurd ((Isp.may_iff hx hll (fun y hy => hs0.rng y hy)).1 h) (fun ⟨k1, k2⟩ => by first | (unfold Isp.mayC at k2; omega) | simp_all)⟩, o0⟩
              · intro hg72
                try simp only [decide_eq_true_eq, decide_eq_false_iff_not, Bool.not_eq_true', Bool.not_eq_false', Bool.and_eq_true, Bool.or_eq_false_iff] at hg72
                refine KL.skip rfl rfl rfl ?_
                refine KL.skip rfl rfl rfl ?_
                refine KL.skip rfl rfl rfl ?_
                refine KL.op (R.pick rfl rfl rfl) rfl rfl rfl ?_
                refine KL.op (R.pick rfl rfl rfl) rfl rfl rfl ?_
                refine KL.op (R.move rfl rfl) rfl rfl rfl ?_
                refine KL.op (R.move rfl rfl) rfl rfl rfl ?_
                refine KL.op (R.neq rfl rfl rfl) rfl rfl rfl ?_
                refine KL.op (R.move rfl rfl) rfl rfl rfl ?_
                refine KL.case (d := 81) rfl ?_ ?_
                · intro hg81
                  try simp only [decide_eq_true_eq, decide_eq_false_iff_not, Bool.not_eq_true', Bool.not_eq_false', Bool.and_eq_true, Bool.or_eq_false_iff] at hg81
                  refine KL.op ((by first | exact R.fieldAddr rfl Try.underlying36 rfl rfl sz34 rfl | exact R.fieldAddrP rfl Try.underlying36 rfl rfl sz34 rfl)) rfl rfl rfl ?_
                  refine KL.op (R.load rfl Try.underlying34 rfl rfl (by first | exact cell_of bx rfl | exact cell_of bw rfl | assumption)) rfl rfl rfl ?_
                  refine KL.op ((by first | exact R.lenS rfl Try.underlying34 rfl (by first | assumption) | exact R.len (ty := 0) rfl Try.underlying34 rfl)) rfl rfl rfl ?_
                  refine KL.op (R.gtr rfl rfl rfl) rfl rfl rfl ?_
                  refine KL.op (R.pick rfl rfl rfl) rfl rfl rfl ?_
                  refine KL.op (R.pick rfl rfl rfl) rfl rfl rfl ?_
                  refine KL.nil ?_
                  refine KQ.seq ?_
                  refine KC.iteL rfl ?_ ?_
                  · intro hc87
                    try simp only [decide_eq_true_eq, decide_eq_false_iff_not, Bool.not_eq_true', Bool.not_eq_false', Bool.and_eq_true, Bool.or_eq_false_iff] at hc87
                    refine KC.seq ?_
                    refine KC.region ?_
                    refine KL.op (R.assign rfl rfl) rfl rfl rfl ?_
                    refine KL.nil ?_
                    refine KQ.seq ?_
                    refine KC.ret ?_
                    refine KQ.retThen ?_
                    refine KQ.ofRet ?_
                    refine KQ.fin1 Try.results12 rfl ?_
                    first
                      | exact ⟨⟨true, rfl, fun _ => (Isp.may_iff hx hll (fun y hy => hs0.rng y hy)).2 ⟨hk, by unfold Isp.mayC; omega⟩, fun _ => rfl⟩, o0⟩
                      | exact ⟨⟨false, rfl, fun h => absurd h (by decide), fun h => absurd ((Isp.may_iff hx hll (fun y hy => hs0.rng y hy)).1 h) (fun ⟨k1, k2⟩ => by first | (unfold Isp.mayC at k2; omega) | simp_all)⟩, o0⟩
                  · intro hc87
                    try simp only [decide_eq_true_eq, decide_eq_false_iff_not, Bool.not_eq_true', Bool.not_eq_false', Bool.and_eq_true, Bool.or_eq_false_iff] at hc87
                    refine KC.skip ?_
                    refine KQ.seq ?_
                    refine KC.seq ?_
                    refine KC.region ?_
                    refine KL.op (R.assign rfl rfl) rfl rfl rfl ?_
                    refine KL.nil ?_
                    refine KQ.seq ?_
                    refine KC.ret ?_
                    refine KQ.ofRet ?_
                    refine KQ.fin1 Try.results12 rfl ?_
                    first
                      | exact ⟨⟨true, rfl, fun _ => (Isp.may_iff hx hll (fun y hy => hs0.rng y hy)).2 ⟨hk, by unfold Isp.mayC; omega⟩, fun _ => rfl⟩, o0⟩
                      | exact ⟨⟨false, rfl, fun h => absurd h (by decide), fun h => absurd ((Isp.may_iff hx hll (fun y hy => hs0.rng y hy)).1 h) (fun ⟨k1, k2⟩ => by first | (unfold Isp.mayC at k2; omega) | simp_all)⟩, o0⟩
                · intro hg81
                  try simp only [decide_eq_true_eq, decide_eq_false_iff_not, Bool.not_eq_true', Bool.not_eq_false', Bool.and_eq_true, Bool.or_eq_false_iff] at hg81
                  refine KL.skip rfl rfl rfl ?_
                  refine KL.skip rfl rfl rfl ?_
                  refine KL.skip rfl rfl rfl ?_
                  refine KL.skip rfl rfl rfl ?_
                  refine KL.op (R.pick rfl rfl rfl) rfl rfl rfl ?_
                  refine KL.op (R.pick rfl rfl rfl) rfl rfl rfl ?_
                  refine KL.nil ?_
                  refine KQ.seq ?_
                  refine KC.condF rfl ?_
                  refine KC.skip ?_
                  refine KQ.seq ?_
                  refine KC.seq ?_
                  refine KC.region ?_
                  refine KL.op (R.assign rfl rfl) rfl rfl rfl ?_
                  refine KL.nil ?_
                  refine KQ.seq ?_
                  refine KC.ret ?_
                  refine KQ.ofRet ?_
                  refine KQ.fin1 Try.results12 rfl ?_
                  first
                    | exact ⟨⟨true, rfl, fun _ => (Isp.may_iff hx hll (fun y hy => hs0.rng y hy)).2 ⟨hk, by unfold Isp.mayC; omega⟩, fun _ => rfl⟩, o0⟩
                    | exact ⟨⟨false, rfl, fun h => absurd h (by decide), fun h => absurd ((Isp.may_iff hx hll (fun y hy => hs0.rng y hy)).1 h) (fun ⟨k1, k2⟩ => by first | (unfold Isp.mayC at k2; omega) | simp_all)⟩, o0⟩
          · intro hg63
            try simp only [decide_eq_true_eq, decide_eq_false_iff_not, Bool.not_eq_true', Bool.not_eq_false', Bool.and_eq_true, Bool.or_eq_false_iff] at hg63
            refine KL.skip rfl rfl rfl ?_
            refine KL.skip rfl rfl rfl ?_
            refine KL.skip rfl rfl rfl ?_
            refine KL.op (R.pick rfl rfl rfl) rfl rfl rfl ?_
            refine KL.op (R.pick rfl rfl rfl) rfl rfl rfl ?_
            refine KL.op (R.move rfl rfl) rfl rfl rfl ?_
            refine KL.op (R.move rfl rfl) rfl rfl rfl ?_
            refine KL.op (R.lss rfl rfl rfl) rfl rfl rfl ?_
            refine KL.op (R.move rfl rfl) rfl rfl rfl ?_
            refine KL.case (d := 72) rfl ?_ ?_
            · intro hg72
              try simp only [decide_eq_true_eq, decide_eq_false_iff_not, Bool.not_eq_true', Bool.not_eq_false', Bool.and_eq_true, Bool.or_eq_false_iff] at hg72
              refine KL.op ((by first | exact R.fieldAddr rfl Try.underlying36 rfl rfl sz2 rfl | exact R.fieldAddrP rfl Try.underlying36 rfl rfl sz2 rfl)) rfl rfl rfl ?_
              refine KL.op (R.load rfl Try.underlying2 rfl rfl (by first | exact cell_of bx rfl | exact cell_of bw rfl | assumption)) rfl rfl rfl ?_
              refine KL.op (R.neq rfl rfl rfl) rfl rfl rfl ?_
              refine KL.op (R.pick rfl rfl rfl) rfl rfl rfl ?_
              refine KL.op (R.pick rfl rfl rfl) rfl rfl rfl ?_
              refine KL.op (R.move rfl rfl) rfl rfl rfl ?_
              refine KL.case (d := 78) rfl ?_ ?_
              · intro hg78
                try simp only [decide_eq_true_eq, decide_eq_false_iff_not, Bool.not_eq_true', Bool.not_eq_false', Bool.and_eq_true, Bool.or_eq_false_iff] at hg78
                refine KL.skip rfl rfl rfl ?_
                refine KL.skip rfl rfl rfl ?_
                refine KL.skip rfl rfl rfl ?_
                refine KL.skip rfl rfl rfl ?_
                refine KL.skip rfl rfl rfl ?_
                refine KL.skip rfl rfl rfl ?_
                refine KL.skip rfl rfl rfl ?_
                refine KL.skip rfl rfl rfl ?_
                refine KL.op (R.pick rfl rfl rfl) rfl rfl rfl ?_
                refine KL.nil ?_
                refine KQ.seq ?_
                refine KC.condT rfl ?_
                refine KC.seq ?_
                refine KC.region ?_
                refine KL.op (R.assign rfl rfl) rfl rfl rfl ?_
                refine KL.nil ?_
                refine KQ.seq ?_
                refine KC.ret ?_
                refine KQ.retThen ?_
                refine KQ.ofRet ?_
                refine KQ.fin1 Try.results12 rfl ?_
                first
                  | exact ⟨⟨true, rfl, fun _ => (Isp.may_iff hx hll (fun y hy => hs0.rng y hy)).2 ⟨hk, by unfold Isp.mayC; omega⟩, fun _ => rfl⟩, o0⟩
                  | exact ⟨⟨false, rfl, fun h => absurd h (by decide), fun h => absurd ((Isp.may_iff hx hll (fun y hy => hs0.rng y hy)).1 h) (fun ⟨k1, k2⟩ => by first | (unfold Isp.mayC at k2; omega) | simp_all)⟩, o0⟩
              · intro hg78
                try simp only [decide_eq_true_eq, decide_eq_false_iff_not, Bool.not_eq_true', Bool.not_eq_false', Bool.and_eq_true, Bool.or_eq_false_iff] at hg78
                refine KL.op (R.move rfl rfl) rfl rfl rfl ?_
                refine KL.op (R.neq rfl rfl rfl) rfl rfl rfl ?_
                refine KL.op (R.move rfl rfl) rfl rfl rfl ?_
                refine KL.case (d := 81) rfl ?_ ?_
                · intro hg81
                  try simp only [decide_eq_true_eq, decide_eq_false_iff_not, Bool.not_eq_true', Bool.not_eq_false', Bool.and_eq_true, Bool.or_eq_false_iff] at hg81
                  refine KL.op ((by first | exact R.fieldAddr rfl Try.underlying36 rfl rfl sz34 rfl | exact R.fieldAddrP rfl Try.underlying36 rfl rfl sz34 rfl)) rfl rfl rfl ?_
                  refine KL.op (R.load rfl Try.underlying34 rfl rfl (by first | exact cell_of bx rfl | exact cell_of bw rfl | assumption)) rfl rfl rfl ?_
                  refine KL.op ((by first | exact R.lenS rfl Try.underlying34 rfl (by first | assumption) | exact R.len (ty := 0) rfl Try.underlying34 rfl)) rfl rfl rfl ?_
                  refine KL.op (R.gtr rfl rfl rfl) rfl rfl rfl ?_
                  refine KL.op (R.pick rfl rfl rfl) rfl rfl rfl ?_
                  refine KL.op (R.pick rfl rfl rfl) rfl rfl rfl ?_
                  refine KL.nil ?_
                  refine KQ.seq ?_
                  refine KC.iteL rfl ?_ ?_
                  · intro hc87
                    try simp only [decide_eq_true_eq, decide_eq_false_iff_not, Bool.not_eq_true', Bool.not_eq_false', Bool.and_eq_true, Bool.or_eq_false_iff] at hc87
                    refine KC.seq ?_
                    refine KC.region ?_
                    refine KL.op (R.assign rfl rfl) rfl rfl rfl ?_
                    refine KL.nil ?_
                    refine KQ.seq ?_
                    refine KC.ret ?_
                    refine KQ.retThen ?_
                    refine KQ.ofRet ?_
                    refine KQ.fin1 Try.results12 rfl ?_
                    first
                      | exact ⟨⟨true, rfl, fun _ => (Isp.may_iff hx hll (fun y hy => hs0.rng y hy)).2 ⟨hk, by unfold Isp.mayC; omega⟩, fun _ => rfl⟩, o0⟩
                      | exact ⟨⟨false, rfl, fun h => absurd h (by decide), fun h => absurd ((Isp.may_iff hx hll (fun y hy => hs0.rng y hy)).1 h) (fun ⟨k1, k2⟩ => by first | (unfold Isp.mayC at k2; omega) | simp_all)⟩, o0⟩
                  · intro hc87
                    try simp only [decide_eq_true_eq, decide_eq_false_iff_not, Bool.not_eq_true', Bool.not_eq_false', Bool.and_eq_true, Bool.or_eq_false_iff] at hc87
                    refine KC.skip ?_
                    refine KQ.seq ?_
                    refine KC.seq ?_
                    refine KC.region ?_
                    refine KL.op (R.assign rfl rfl) rfl rfl rfl ?_
                    refine KL.nil ?_
                    refine KQ.seq ?_
                    refine KC.ret ?_
                    refine KQ.ofRet ?_
                    refine KQ.fin1 Try.results12 rfl ?_
                    first
                      | exact ⟨⟨true, rfl, fun _ => (Isp.may_iff hx hll (fun y hy => hs0.rng y hy)).2 ⟨hk, by unfold Isp.mayC; omega⟩, fun _ => rfl⟩, o0⟩
                      | exact ⟨⟨false, rfl, fun h => absurd h (by decide), fun h => absurd ((Isp.may_iff hx hll (fun y hy => hs0.rng y hy)).1 h) (fun ⟨k1, k2⟩ => by first | (unfold Isp.mayC at k2; omega) | simp_all)⟩, o0⟩
                · intro hg81
                  try simp only [decide_eq_true_eq, decide_eq_false_iff_not, Bool.not_eq_true', Bool.not_eq_false', Bool.and_eq_true, Bool.or_eq_false_iff] at hg81
                  refine KL.skip rfl rfl rfl ?_
                  refine KL.skip rfl rfl rfl ?_
                  refine KL.skip rfl rfl rfl ?_
                  refine KL.skip rfl rfl rfl ?_
                  refine KL.op (R.pick rfl rfl rfl) rfl rfl rfl ?_
                  refine KL.op (R.pick rfl rfl rfl) rfl rfl rfl ?_
                  refine KL.nil ?_
                  refine KQ.seq ?_
                  refine KC.condF rfl ?_
                  refine KC.skip ?_
                  refine KQ.seq ?_
                  refine KC.seq ?_
                  refine KC.region ?_
                  refine KL.op (R.assign rfl rfl) rfl rfl rfl ?_
                  refine KL.nil ?_
                  refine KQ.seq ?_
                  refine KC.ret ?_
                  refine KQ.ofRet ?_
                  refine KQ.fin1 Try.results12 rfl ?_
                  first
                    | exact ⟨⟨true, rfl, fun _ => (Isp.may_iff hx hll (fun y hy => hs0.rng y hy)).2 ⟨hk, by unfold Isp.mayC; omega⟩, fun _ => rfl⟩, o0⟩
                    | exact ⟨⟨false, rfl, fun h => absurd h (by decide), fun h => absurd ((Isp.may_iff hx hll (fun y hy => hs0.rng y hy)).1 h) (fun ⟨k1, k2⟩ => by first | (unfold Isp.mayC at k2; omega) | simp_all)⟩, o0⟩
            · intro hg72
              try simp only [decide_eq_true_eq, decide_eq_false_iff_not, Bool.not_eq_true', Bool.not_eq_false', Bool.and_eq_true, Bool.or_eq_false_iff] at hg72
              refine KL.skip rfl rfl rfl ?_
              refine KL.skip rfl rfl rfl ?_
              refine KL.skip rfl rfl rfl ?_
              refine KL.op (R.pick rfl rfl rfl) rfl rfl rfl ?_
              refine KL.op (R.pick rfl rfl rfl) rfl rfl rfl ?_
              refine KL.op (R.move rfl rfl) rfl rfl rfl ?_
              refine KL.op (R.move rfl rfl) rfl rfl rfl ?_
              refine KL.op (R.neq rfl rfl rfl) rfl rfl rfl ?_
              refine KL.op (R.move rfl rfl) rfl rfl rfl ?_
              refine KL.case (d := 81) rfl ?_ ?_
              · intro hg81
                try simp only [decide_eq_true_eq, decide_eq_false_iff_not, Bool.not_eq_true', Bool.not_eq_false', Bool.and_eq_true, Bool.or_eq_false_iff] at hg81
                refine KL.op ((by first | exact R.fieldAddr rfl Try.underlying36 rfl rfl sz34 rfl | exact R.fieldAddrP rfl Try.underlying36 rfl rfl sz34 rfl)) rfl rfl rfl ?_
                refine KL.op (R.load rfl Try.underlying34 rfl rfl (by first | exact cell_of bx rfl | exact cell_of bw rfl | assumption)) rfl rfl rfl ?_
                refine KL.op ((by first | exact R.lenS rfl Try.underlying34 rfl (by first | assumption) | exact R.len (ty := 0) rfl Try.underlying34 rfl)) rfl rfl rfl ?_
                refine KL.op (R.gtr rfl rfl rfl) rfl rfl rfl ?_
                refine KL.op (R.pick rfl rfl rfl) rfl rfl rfl ?_
                refine KL.op (R.pick rfl rfl rfl) rfl rfl rfl ?_
                refine KL.nil ?_
                refine KQ.seq ?_
                refine KC.iteL rfl ?_ ?_
                · intro hc87
                  try simp only [decide_eq_true_eq, decide_eq_false_iff_not, Bool.not_eq_true', Bool.not_eq_false', Bool.and_eq_true, Bool.or_eq_false_iff] at hc87
                  refine KC.seq ?_
                  refine KC.region ?_
                  refine KL.op (R.assign rfl rfl) rfl rfl rfl ?_
                  refine KL.nil ?_
                  refine KQ.seq ?_
                  refine KC.ret ?_
                  refine KQ.retThen ?_
                  refine KQ.ofRet ?_
                  refine KQ.fin1 Try.results12 rfl ?_
                  first
                    | exact ⟨⟨true, rfl, fun _ => (Isp.may_iff hx hll (fun y hy => hs0.rng y hy)).2 ⟨hk, by unfold Isp.mayC; omega⟩, fun _ => rfl⟩, o0⟩
                    | exact ⟨⟨false, rfl, fun h => absurd h (by decide), fun h => absurd ((Isp.may_iff hx hll (fun y hy => hs0.rng y hy)).1 h) (fun ⟨k1, k2⟩ => by first | (unfold Isp.mayC at k2; omega) | simp_all)⟩, o0⟩
                · intro hc87
                  try simp only [decide_eq_true_eq, decide_eq_false_iff_not, Bool.not_eq_true', Bool.not_eq_false', Bool.and_eq_true, Bool.or_eq_false_iff] at hc87
                  refine KC.skip ?_
                  refine KQ.seq ?_
                  refine KC.seq ?_
                  refine KC.region ?_
                  refine KL.op (R.assign rfl rfl) rfl rfl rfl ?_
                  refine KL.nil ?_
                  refine KQ.seq ?_
                  refine KC.ret ?_
                  refine KQ.ofRet ?_
                  refine KQ.fin1 Try.results12 rfl ?_
                  first
                    | exact ⟨⟨true, rfl, fun _ => (Isp.may_iff hx hll (fun y hy => hs0.rng y hy)).2 ⟨hk, by unfold Isp.mayC; omega⟩, fun _ => rfl⟩, o0⟩
                    | exact ⟨⟨false, rfl, fun h => absurd h (by decide), fun h => absurd ((Isp.may_iff hx hll (fun y hy => hs0.rng y hy)).1 h) (fun ⟨k1, k2⟩ => by first | (unfold Isp.mayC at k2; omega) | simp_all)⟩, o0⟩
              · intro hg81
                try simp only [decide_eq_true_eq, decide_eq_false_iff_not, Bool.not_eq_true', Bool.not_eq_false', Bool.and_eq_true, Bool.or_eq_false_iff] at hg81
                refine KL.skip rfl rfl rfl ?_
                refine KL.skip rfl rfl rfl ?_
                refine KL.skip rfl rfl rfl ?_
                refine KL.skip rfl rfl rfl ?_
                refine KL.op (R.pick rfl rfl rfl) rfl rfl rfl ?_
                refine KL.op (R.pick rfl rfl rfl) rfl rfl rfl ?_
                refine KL.nil ?_
                refine KQ.seq ?_
                refine KC.condF rfl ?_
                refine KC.skip ?_
                refine KQ.seq ?_
                refine KC.seq ?_
                refine KC.region ?_
                refine KL.op (R.assign rfl rfl) rfl rfl rfl ?_
                refine KL.nil ?_
                refine KQ.seq ?_
                refine KC.ret ?_
                refine KQ.ofRet ?_
                refine KQ.fin1 Try.results12 rfl ?_
                first
                  | exact ⟨⟨true, rfl, fun _ => (Isp.may_iff hx hll (fun y hy => hs0.rng y hy)).2 ⟨hk, by unfold Isp.mayC; omega⟩, fun _ => rfl⟩, o0⟩
                  | exact ⟨⟨false, rfl, fun h => absurd h (by decide), fun h => absurd ((Isp.may_iff hx hll (fun y hy => hs0.rng y hy)).1 h) (fun ⟨k1, k2⟩ => by first | (unfold Isp.mayC at k2; omega) | simp_all)⟩, o0⟩
      · intro hg55
        try simp only [decide_eq_true_eq, decide_eq_false_iff_not, Bool.not_eq_true', Bool.not_eq_false', Bool.and_eq_true, Bool.or_eq_false_iff] at hg55
        refine KL.skip rfl rfl rfl ?_
        refine KL.skip rfl rfl rfl ?_
        refine KL.skip rfl rfl rfl ?_
        refine KL.op (R.pick rfl rfl rfl) rfl rfl rfl ?_
        refine KL.op (R.move rfl rfl) rfl rfl rfl ?_
        refine KL.op (R.move rfl rfl) rfl rfl rfl ?_
        refine KL.op (R.neq rfl rfl rfl) rfl rfl rfl ?_
        refine KL.op (R.move rfl rfl) rfl rfl rfl ?_
        refine KL.case (d := 63) rfl ?_ ?_
        · intro hg63
          try simp only [decide_eq_true_eq, decide_eq_false_iff_not, Bool.not_eq_true', Bool.not_eq_false', Bool.and_eq_true, Bool.or_eq_false_iff] at hg63
          refine KL.op ((by first | exact R.fieldAddr rfl Try.underlying36 rfl rfl sz33 rfl | exact R.fieldAddrP rfl Try.underlying36 rfl rfl sz33 rfl)) rfl rfl rfl ?_
          refine KL.op (R.load rfl Try.underlying33 rfl rfl (by first | exact cell_of bx rfl | exact cell_of bw rfl | assumption)) rfl rfl rfl ?_
          refine KL.op (R.neq rfl rfl rfl) rfl rfl rfl ?_
          refine KL.op (R.pick rfl rfl rfl) rfl rfl rfl ?_
          refine KL.op (R.pick rfl rfl rfl) rfl rfl rfl ?_
          refine KL.op (R.move rfl rfl) rfl rfl rfl ?_
          refine KL.case (d := 69) rfl ?_ ?_
          · intro hg69
            try simp only [decide_eq_true_eq, decide_eq_false_iff_not, Bool.not_eq_true', Bool.not_eq_false', Bool.and_eq_true, Bool.or_eq_false_iff] at hg69
            refine KL.skip rfl rfl rfl ?_
            refine KL.skip rfl rfl rfl ?_
            refine KL.skip rfl rfl rfl ?_
            refine KL.skip rfl rfl rfl ?_
            refine KL.skip rfl rfl rfl ?_
            refine KL.skip rfl rfl rfl ?_
            refine KL.skip rfl rfl rfl ?_
            refine KL.op (R.pick rfl rfl rfl) rfl rfl rfl ?_
            refine KL.op (R.move rfl rfl) rfl rfl rfl ?_
            refine KL.skip rfl rfl rfl ?_
            refine KL.skip rfl rfl rfl ?_
            refine KL.skip rfl rfl rfl ?_
            refine KL.skip rfl rfl rfl ?_
            refine KL.skip rfl rfl rfl ?_
            refine KL.skip rfl rfl rfl ?_
            refine KL.skip rfl rfl rfl ?_
            refine KL.skip rfl rfl rfl ?_
            refine KL.op (R.pick rfl rfl rfl) rfl rfl rfl ?_
            refine KL.nil ?_
            refine KQ.seq ?_
            refine KC.condT rfl ?_
            refine KC.seq ?_
            refine KC.region ?_
            refine KL.op (R.assign rfl rfl) rfl rfl rfl ?_
            refine KL.nil ?_
            refine KQ.seq ?_
            refine KC.ret ?_
            refine KQ.retThen ?_
            refine KQ.ofRet ?_
            refine KQ.fin1 Try.results12 rfl ?_
            first
              | exact ⟨⟨true, rfl, fun _ => (Isp.may_iff hx hll (fun y hy => hs0.rng y hy)).2 ⟨hk, by unfold Isp.mayC; omega⟩, fun _ => rfl⟩, o0⟩
              | exact ⟨⟨false, rfl, fun h => absurd h (by decide), fun h => absurd ((Isp.may_iff hx hll (fun y hy => hs0.rng y hy)).1 h) (fun ⟨k1, k2⟩ => by first | (unfold Isp.mayC at k2; omega) | simp_all)⟩, o0⟩
          · intro hg69
            try simp only [decide_eq_true_eq, decide_eq_false_iff_not, Bool.not_eq_true', Bool.not_eq_false', Bool.and_eq_true, Bool.or_eq_false_iff] at hg69
            refine KL.op (R.move rfl rfl) rfl rfl rfl ?_
            refine KL.op (R.lss rfl rfl rfl) rfl rfl rfl ?_
            refine KL.op (R.move rfl rfl) rfl rfl rfl ?_
            refine KL.case (d := 72) rfl ?_ ?_
            · intro hg72
              try simp only [decide_eq_true_eq, decide_eq_false_iff_not, Bool.not_eq_true', Bool.not_eq_false', Bool.and_eq_true, Bool.or_eq_false_iff] at hg72
              refine KL.op ((by first | exact R.fieldAddr rfl Try.underlying36 rfl rfl sz2 rfl | exact R.fieldAddrP rfl Try.underlying36 rfl rfl sz2 rfl)) rfl rfl rfl ?_
              refine KL.op (R.load rfl Try.underlying2 rfl rfl (by first | exact cell_of bx rfl | exact cell_of bw rfl | assumption)) rfl rfl rfl ?_
              refine KL.op (R.neq rfl rfl rfl) rfl rfl rfl ?_
              refine KL.op (R.pick rfl rfl rfl) rfl rfl rfl ?_
              refine KL.op (R.pick rfl rfl rfl) rfl rfl rfl ?_
              refine KL.op (R.move rfl rfl) rfl rfl rfl ?_
              refine KL.case (d := 78) rfl ?_ ?_
              · intro hg78
                try simp only [decide_eq_true_eq, decide_eq_false_iff_not, Bool.not_eq_true', Bool.not_eq_false', Bool.and_eq_true, Bool.or_eq_false_iff] at hg78
                refine KL.skip rfl rfl rfl ?_
                refine KL.skip rfl rfl rfl ?_
                refine KL.skip rfl rfl rfl ?_
                refine KL.skip rfl rfl rfl ?_
                refine KL.skip rfl rfl rfl ?_
                refine KL.skip rfl rfl rfl ?_
                refine KL.skip rfl rfl rfl ?_
                refine KL.skip rfl rfl rfl ?_
                refine KL.op (R.pick rfl rfl rfl) rfl rfl rfl ?_
                refine KL.nil ?_
                refine KQ.seq ?_
                refine KC.condT rfl ?_
                refine KC.seq ?_
                refine KC.region ?_
                refine KL.op (R.assign rfl rfl) rfl rfl rfl ?_
                refine KL.nil ?_
                refine KQ.seq ?_
                refine KC.ret ?_
                refine KQ.retThen ?_
                refine KQ.ofRet ?_
                refine KQ.fin1 Try.results12 rfl ?_
                first
                  | exact ⟨⟨true, rfl, fun _ => (Isp.may_iff hx hll (fun y hy => hs0.rng y hy)).2 ⟨hk, by unfold Isp.mayC; omega⟩, fun _ => rfl⟩, o0⟩
                  | exact ⟨⟨false, rfl, fun h => absurd h (by decide), fun h => absurd ((Isp.may_iff hx hll (fun y hy => hs0.rng y hy)).1 h) (fun ⟨k1, k2⟩ => by first | (unfold Isp.mayC at k2; omega) | simp_all)⟩, o0⟩
              · intro hg78
                try simp only [decide_eq_true_eq, decide_eq_false_iff_not, Bool.not_eq_true', Bool.not_eq_false', Bool.and_eq_true, Bool.or_eq_false_iff] at hg78
                refine KL.op (R.move rfl rfl) rfl rfl rfl ?_
                refine KL.op (R.neq rfl rfl rfl) rfl rfl rfl ?_
                refine KL.op (R.move rfl rfl) rfl rfl rfl ?_
                refine KL.case (d := 81) rfl ?_ ?_
                · intro hg81
                  try simp only [decide_eq_true_eq, decide_eq_false_iff_not, Bool.not_eq_true', Bool.not_eq_false', Bool.and_eq_true, Bool.or_eq_false_iff] at hg81
                  refine KL.op ((by first | exact R.fieldAddr rfl Try.underlying36 rfl rfl sz34 rfl | exact R.fieldAddrP rfl Try.underlying36 rfl rfl sz34 rfl)) rfl rfl rfl ?_
                  refine KL.op (R.load rfl Try.underlying34 rfl rfl (by first | exact cell_of bx rfl | exact cell_of bw rfl | assumption)) rfl rfl rfl ?_
                  refine KL.op ((by first | exact R.lenS rfl Try.underlying34 rfl (by first | assumption) | exact R.len (ty := 0) rfl Try.underlying34 rfl)) rfl rfl rfl ?_
                  refine KL.op (R.gtr rfl rfl rfl) rfl rfl rfl ?_
                  refine KL.op (R.pick rfl rfl rfl) rfl rfl rfl ?_
                  refine KL.op (R.pick rfl rfl rfl) rfl rfl rfl ?_
                  refine KL.nil ?_
                  refine KQ.seq ?_
                  refine KC.iteL rfl ?_ ?_
                  · intro hc87
                    try simp only [decide_eq_true_eq, decide_eq_false_iff_not, Bool.not_eq_true', Bool.not_eq_false', Bool.and_eq_true, Bool.or_eq_false_iff] at hc87
                    refine KC.seq ?_
                    refine KC.region ?_
                    refine KL.op (R.assign rfl rfl) rfl rfl rfl ?_
                    refine KL.nil ?_
                    refine KQ.seq ?_
                    refine KC.ret ?_
                    refine KQ.retThen ?_
                    refine KQ.ofRet ?_
                    refine KQ.fin1 Try.results12 rfl ?_
                    first
                      | exact ⟨⟨true, rfl, fun _ => (Isp.may_iff hx hll (fun y hy => hs0.rng y hy)).2 ⟨hk, by unfold Isp.mayC; omega⟩, fun _ => rfl⟩, o0⟩
                      | exact ⟨⟨false, rfl, fun h => absurd h (by decide), fun h => absurd ((Isp.may_iff hx hll (fun y hy => hs0.rng y hy)).1 h) (fun ⟨k1, k2⟩ => by first | (unfold Isp.mayC at k2; omega) | simp_all)⟩, o0⟩
                  · intro hc87
                    try simp only [decide_eq_true_eq, decide_eq_false_iff_not, Bool.not_eq_true', Bool.not_eq_false', Bool.and_eq_true, Bool.or_eq_false_iff] at hc87
                    refine KC.skip ?_
                    refine KQ.seq ?_
                    refine KC.seq ?_
                    refine KC.region ?_
                    refine KL.op (R.assign rfl rfl) rfl rfl rfl ?_
                    refine KL.nil ?_
                    refine KQ.seq ?_
                    refine KC.ret ?_
                    refine KQ.ofRet ?_
                    refine KQ.fin1 Try.results12 rfl ?_
                    first
                      | exact ⟨⟨true, rfl, fun _ => (Isp.may_iff hx hll (fun y hy => hs0.rng y hy)).2 ⟨hk, by unfold Isp.mayC; omega⟩, fun _ => rfl⟩, o0⟩
                      | exact ⟨⟨false, rfl, fun h => absurd h (by decide), fun h => absurd ((Isp.may_iff hx hll (fun y hy => hs0.rng y hy)).1 h) (fun ⟨k1, k2⟩ => by first | (unfold Isp.mayC at k2; omega) | simp_all)⟩, o0⟩
                · intro hg81
                  try simp only [decide_eq_true_eq, decide_eq_false_iff_not, Bool.not_eq_true', Bool.not_eq_false', Bool.and_eq_true, Bool.or_eq_false_iff] at hg81
                  refine KL.skip rfl rfl rfl ?_
                  refine KL.skip rfl rfl rfl ?_
                  refine KL.skip rfl rfl rfl ?_
                  refine KL.skip rfl rfl rfl ?_
                  refine KL.op (R.pick rfl rfl rfl) rfl rfl rfl ?_
                  refine KL.op (R.pick rfl rfl rfl) rfl rfl rfl ?_
                  refine KL.nil ?_
                  refine KQ.seq ?_
                  refine KC.condF rfl ?_
                  refine KC.skip ?_
                  refine KQ.seq ?_
                  refine KC.seq ?_
                  refine KC.region ?_
                  refine KL.op (R.assign rfl rfl) rfl rfl rfl ?_
                  refine KL.nil ?_
                  refine KQ.seq ?_
                  refine KC.ret ?_
                  refine KQ.ofRet ?_
                  refine KQ.fin1 Try.results12 rfl ?_
                  first
                    | exact ⟨⟨true, rfl, fun _ => (Isp.may_iff hx hll (fun y hy => hs0.rng y hy)).2 ⟨hk, by unfold Isp.mayC; omega⟩, fun _ => rfl⟩, o0⟩
                    | exact ⟨⟨false, rfl, fun h => absurd h (by decide), fun h => absurd ((Isp.may_iff hx hll (fun y hy => hs0.rng y hy)).1 h) (fun ⟨k1, k2⟩ => by first | (unfold Isp.mayC at k2; omega) | simp_all)⟩, o0⟩
            · intro hg72
              try simp only [decide_eq_true_eq, decide_eq_false_iff_not, Bool.not_eq_true', Bool.not_eq_false', Bool.and_eq_true, Bool.or_eq_false_iff] at hg72
              refine KL.skip rfl rfl rfl ?_
              refine KL.skip rfl rfl rfl ?_
              refine KL.skip rfl rfl rfl ?_
              refine KL.op (R.pick rfl rfl rfl) rfl rfl rfl ?_
              refine KL.op (R.pick rfl rfl rfl) rfl rfl rfl ?_
              refine KL.op (R.move rfl rfl) rfl rfl rfl ?_
              refine KL.op (R.move rfl rfl) rfl rfl rfl ?_
              refine KL.op (R.neq rfl rfl rfl) rfl rfl rfl ?_
              refine KL.op (R.move rfl rfl) rfl rfl rfl ?_
              refine KL.case (d := 81) rfl ?_ ?_
              · intro hg81
                try simp only [decide_eq_true_eq, decide_eq_false_iff_not, Bool.not_eq_true', Bool.not_eq_false', Bool.and_eq_true, Bool.or_eq_false_iff] at hg81
                refine KL.op ((by first | exact R.fieldAddr rfl Try.underlying36 rfl rfl sz34 rfl | exact R.fieldAddrP rfl Try.underlying36 rfl rfl sz34 rfl)) rfl rfl rfl ?_
                refine KL.op (R.load rfl Try.underlying34 rfl rfl (by first | exact cell_of bx rfl | exact cell_of bw rfl | assumption)) rfl rfl rfl ?_
                refine KL.op ((by first | exact R.lenS rfl Try.underlying34 rfl (by first | assumption) | exact R.len (ty := 0) rfl Try.underlying34 rfl)) rfl rfl rfl ?_
                refine KL.op (R.gtr rfl rfl rfl) rfl rfl rfl ?_
                refine KL.op (R.pick rfl rfl rfl) rfl rfl rfl ?_
                refine KL.op (R.pick rfl rfl rfl) rfl rfl rfl ?_
                refine KL.nil ?_
                refine KQ.seq ?_
                refine KC.iteL rfl ?_ ?_
                · intro hc87
                  try simp only [decide_eq_true_eq, decide_eq_false_iff_not, Bool.not_eq_true', Bool.not_eq_false', Bool.and_eq_true, Bool.or_eq_false_iff] at hc87
                  refine KC.seq ?_
                  refine KC.region ?_
                  refine KL.op (R.assign rfl rfl) rfl rfl rfl ?_
                  refine KL.nil ?_
                  refine KQ.seq ?_
                  refine KC.ret ?_
                  refine KQ.retThen ?_
                  refine KQ.ofRet ?_
                  refine KQ.fin1 Try.results12 rfl ?_
                  first
                    | exact ⟨⟨true, rfl, fun _ => (Isp.may_iff hx hll (fun y hy => hs0.rng y hy)).2 ⟨hk, by unfold Isp.mayC; omega⟩, fun _ => rfl⟩, o0⟩
                    | exact ⟨⟨false, rfl, fun h => absurd h (by decide), fun h => absurd ((Isp.may_iff hx hll (fun y hy => hs0.rng y hy)).1 h) (fun ⟨k1, k2⟩ => by first | (unfold Isp.mayC at k2; omega) | simp_all)⟩, o0⟩
                · intro hc87
                  try simp only [decide_eq_true_eq, decide_eq_false_iff_not, Bool.not_eq_true', Bool.not_eq_false', Bool.and_eq_true, Bool.or_eq_false_iff] at hc87
                  refine KC.skip ?_
                  refine KQ.seq ?_
                  refine KC.seq ?_
                  refine KC.region ?_
                  refine KL.op (R.assign rfl rfl) rfl rfl rfl ?_
                  refine KL.nil ?_
                  refine KQ.seq ?_
                  refine KC.ret ?_
                  refine KQ.ofRet ?_
                  refine KQ.fin1 Try.results12 rfl ?_
                  first
                    | exact ⟨⟨true, rfl, fun _ => (Isp.may_iff hx hll (fun y hy => hs0.rng y hy)).2 ⟨hk, by unfold Isp.mayC; omega⟩, fun _ => rfl⟩, o0⟩
                    | exact ⟨⟨false, rfl, fun h => absurd h (by decide), fun h => absurd ((Isp.may_iff hx hll (fun y hy => hs0.rng y hy)).1 h) (fun ⟨k1, k2⟩ => by first | (unfold Isp.mayC at k2; omega) | simp_all)⟩, o0⟩
              · intro hg81
                try simp only [decide_eq_true_eq, decide_eq_false_iff_not, Bool.not_eq_true', Bool.not_eq_false', Bool.and_eq_true, Bool.or_eq_false_iff] at hg81
                refine KL.skip rfl rfl rfl ?_
                refine KL.skip rfl rfl rfl ?_
                refine KL.skip rfl rfl rfl ?_
                refine KL.skip rfl rfl rfl ?_
                refine KL.op (R.pick rfl rfl rfl) rfl rfl rfl ?_
                refine KL.op (R.pick rfl rfl rfl) rfl rfl rfl ?_
                refine KL.nil ?_
                refine KQ.seq ?_
                refine KC.condF rfl ?_
                refine KC.skip ?_
                refine KQ.seq ?_
                refine KC.seq ?_
                refine KC.region ?_
                refine KL.op (R.assign rfl rfl) rfl rfl rfl ?_
                refine KL.nil ?_
                refine KQ.seq ?_
                refine KC.ret ?_
                refine KQ.ofRet ?_
                refine KQ.fin1 Try.results12 rfl ?_
                first
                  | exact ⟨⟨true, rfl, fun _ => (Isp.may_iff hx hll (fun y hy => hs0.rng y hy)).2 ⟨hk, by unfold Isp.mayC; omega⟩, fun _ => rfl⟩, o0⟩
                  | exact ⟨⟨false, rfl, fun h => absurd h (by decide), fun h => absurd ((Isp.may_iff hx hll (fun y hy => hs0.rng y hy)).1 h) (fun ⟨k1, k2⟩ => by first | (unfold Isp.mayC at k2; omega) | simp_all)⟩, o0⟩
        · intro hg63
          try simp only [decide_eq_true_eq, decide_eq_false_iff_not, Bool.not_eq_true', Bool.not_eq_false', Bool.and_eq_true, Bool.or_eq_false_iff] at hg63
          refine KL.skip rfl rfl rfl ?_
          refine KL.skip rfl rfl rfl ?_
          refine KL.skip rfl rfl rfl ?_
          refine KL.op (R.pick rfl rfl rfl) rfl rfl rfl ?_
          refine KL.op (R.pick rfl rfl rfl) rfl rfl rfl ?_
          refine KL.op (R.move rfl rfl) rfl rfl rfl ?_
          refine KL.op (R.move rfl rfl) rfl rfl rfl ?_
          refine KL.op (R.lss rfl rfl rfl) rfl rfl rfl ?_
          refine KL.op (R.move rfl rfl) rfl rfl rfl ?_
          refine KL.case (d := 72) rfl ?_ ?_
          · intro hg72
            try simp only [decide_eq_true_eq, decide_eq_false_iff_not, Bool.not_eq_true', Bool.not_eq_false', Bool.and_eq_true, Bool.or_eq_false_iff] at hg72
            refine KL.op ((by first | exact R.fieldAddr rfl Try.underlying36 rfl rfl sz2 rfl | exact R.fieldAddrP rfl Try.underlying36 rfl rfl sz2 rfl)) rfl rfl rfl ?_
            refine KL.op (R.load rfl Try.underlying2 rfl rfl (by first | exact cell_of bx rfl | exact cell_of bw rfl | assumption)) rfl rfl rfl ?_
            refine KL.op (R.neq rfl rfl rfl) rfl rfl rfl ?_
            refine KL.op (R.pick rfl rfl rfl) rfl rfl rfl ?_
            refine KL.op (R.pick rfl rfl rfl) rfl rfl rfl ?_
            refine KL.op (R.move rfl rfl) rfl rfl rfl ?_
            refine KL.case (d := 78) rfl ?_ ?_
            · intro hg78
              try simp only [decide_eq_true_eq, decide_eq_false_iff_not, Bool.not_eq_true', Bool.not_eq_false', Bool.and_eq_true, Bool.or_eq_false_iff] at hg78
              refine KL.skip rfl rfl rfl ?_
              refine KL.skip rfl rfl rfl ?_
              refine KL.skip rfl rfl rfl ?_
              refine KL.skip rfl rfl rfl ?_
              refine KL.skip rfl rfl rfl ?_
              refine KL.skip rfl rfl rfl ?_
              refine KL.skip rfl rfl rfl ?_
              refine KL.skip rfl rfl rfl ?_
              refine KL.op (R.pick rfl rfl rfl) rfl rfl rfl ?_
              refine KL.nil ?_
              refine KQ.seq ?_
              refine KC.condT rfl ?_
              refine KC.seq ?_
              refine KC.region ?_
              refine KL.op (R.assign rfl rfl) rfl rfl rfl ?_
              refine KL.nil ?_
              refine KQ.seq ?_
              refine KC.ret ?_
              refine KQ.retThen ?_
              refine KQ.ofRet ?_
              refine KQ.fin1 Try.results12 rfl ?_
              first
                | exact ⟨⟨true, rfl, fun _ => (Isp.may_iff hx hll (fun y hy => hs0.rng y hy)).2 ⟨hk, by unfold Isp.mayC; omega⟩, fun _ => rfl⟩, o0⟩
                | exact ⟨⟨false, rfl, fun h => absurd h (by decide), fun h => absurd ((Isp.may_iff hx hll (fun y hy => hs0.rng y hy)).1 h) (fun ⟨k1, k2⟩ => by first | (unfold Isp.mayC at k2; omega) | simp_all)⟩, o0⟩
            · intro hg78
              try simp only [decide_eq_true_eq, decide_eq_false_iff_not, Bool.not_eq_true', Bool.not_eq_false', Bool.and_eq_true, Bool.or_eq_false_iff] at hg78
              refine KL.op (R.move rfl rfl) rfl rfl rfl ?_
              refine KL.op (R.neq rfl rfl rfl) rfl rfl rfl ?_
              refine KL.op (R.move rfl rfl) rfl rfl rfl ?_
              refine KL.case (d := 81) rfl ?_ ?_
              · intro hg81
                try simp only [decide_eq_true_eq, decide_eq_false_iff_not, Bool.not_eq_true', Bool.not_eq_false', Bool.and_eq_true, Bool.or_eq_false_iff] at hg81
                refine KL.op ((by first | exact R.fieldAddr rfl Try.underlying36 rfl rfl sz34 rfl | exact R.fieldAddrP rfl Try.underlying36 rfl rfl sz34 rfl)) rfl rfl rfl ?_
                refine KL.op (R.load rfl Try.underlying34 rfl rfl (by first | exact cell_of bx rfl | exact cell_of bw rfl | assumption)) rfl rfl rfl ?_
                refine KL.op ((by first | exact R.lenS rfl Try.underlying34 rfl (by first | assumption) | exact R.len (ty := 0) rfl Try.underlying34 rfl)) rfl rfl rfl ?_
                refine KL.op (R.gtr rfl rfl rfl) rfl rfl rfl ?_
                refine KL.op (R.pick rfl rfl rfl) rfl rfl rfl ?_
                refine KL.op (R.pick rfl rfl rfl) rfl rfl rfl ?_
                refine KL.nil ?_
                refine KQ.seq ?_
                refine KC.iteL rfl ?_ ?_
                · intro hc87
                  try simp only [decide_eq_true_eq, decide_eq_false_iff_not, Bool.not_eq_true', Bool.not_eq_false', Bool.and_eq_true, Bool.or_eq_false_iff] at hc87
                  refine KC.seq ?_
                  refine KC.region ?_
                  refine KL.op (R.assign rfl rfl) rfl rfl rfl ?_
                  refine KL.nil ?_
                  refine KQ.seq ?_
                  refine KC.ret ?_
                  refine KQ.retThen ?_
                  refine KQ.ofRet ?_
                  refine KQ.fin1 Try.results12 rfl ?_
                  first
                    | exact ⟨⟨true, rfl, fun _ => (Isp.may_iff hx hll (fun y hy => hs0.rng y hy)).2 ⟨hk, by unfold Isp.mayC; omega⟩, fun _ => rfl⟩, o0⟩
                    | exact ⟨⟨false, rfl, fun h => absurd h (by decide), fun h => absurd ((Isp.may_iff hx hll (fun y hy => hs0.rng y hy)).1 h) (fun ⟨k1, k2⟩ => by first | (unfold Isp.mayC at k2; omega) | simp_all)⟩, o0⟩
                · intro hc87
                  try simp only [decide_eq_true_eq, decide_eq_false_iff_not, Bool.not_eq_true', Bool.not_eq_false', Bool.and_eq_true, Bool.or_eq_false_iff] at hc87
                  refine KC.skip ?_
                  refine KQ.seq ?_
                  refine KC.seq ?_
                  refine KC.region ?_
                  refine KL.op (R.assign rfl rfl) rfl rfl rfl ?_
                  refine KL.nil ?_
                  refine KQ.seq ?_
                  refine KC.ret ?_
                  refine KQ.ofRet ?_
                  refine KQ.fin1 Try.results12 rfl ?_
                  first
                    | exact ⟨⟨true, rfl, fun _ => (Isp.may_iff hx hll (fun y hy => hs0.rng y hy)).2 ⟨hk, by unfold Isp.mayC; omega⟩, fun _ => rfl⟩, o0⟩
                    | exact ⟨⟨false, rfl, fun h => absurd h (by decide), fun h => absurd ((Isp.may_iff hx hll (fun y hy => hs0.rng y hy)).1 h) (fun ⟨k1, k2⟩ => by first | (unfold Isp.mayC at k2; omega) | simp_all)⟩, o0⟩
              · intro hg81
                try simp only [decide_eq_true_eq, decide_eq_false_iff_not, Bool.not_eq_true', Bool.not_eq_false', Bool.and_eq_true, Bool.or_eq_false_iff] at hg81
                refine KL.skip rfl rfl rfl ?_
                refine KL.skip rfl rfl rfl ?_
                refine KL.skip rfl rfl rfl ?_
                refine KL.skip rfl rfl rfl ?_
                refine KL.op (R.pick rfl rfl rfl) rfl rfl rfl ?_
                refine KL.op (R.pick rfl rfl rfl) rfl rfl rfl ?_
                refine KL.nil ?_
                refine KQ.seq ?_
                refine KC.condF rfl ?_
                refine KC.skip ?_
                refine KQ.seq ?_
                refine KC.seq ?_
                refine KC.region ?_
                refine KL.op (R.assign rfl rfl) rfl rfl rfl ?_
                refine KL.nil ?_
                refine KQ.seq ?_
                refine KC.ret ?_
                refine KQ.ofRet ?_
                refine KQ.fin1 Try.results12 rfl ?_
                first
                  | exact ⟨⟨true, rfl, fun _ => (Isp.may_iff hx hll (fun y hy => hs0.rng y hy)).2 ⟨hk, by unfold Isp.mayC; omega⟩, fun _ => rfl⟩, o0⟩
                  | exact ⟨⟨false, rfl, fun h => absurd h (by decide), fun h => absurd ((Isp.may_iff hx hll (fun y hy => hs0.rng y hy)).1 h) (fun ⟨k1, k2⟩ => by first | (unfold Isp.mayC at k2; omega) | simp_all)⟩, o0⟩
          · intro hg72
            try simp only [decide_eq_true_eq, decide_eq_false_iff_not, Bool.not_eq_true', Bool.not_eq_false', Bool.and_eq_true, Bool.or_eq_false_iff] at hg72
            refine KL.skip rfl rfl rfl ?_
            refine KL.skip rfl rfl rfl ?_
            refine KL.skip rfl rfl rfl ?_
            refine KL.op (R.pick rfl rfl rfl) rfl rfl rfl ?_
            refine KL.op (R.pick rfl rfl rfl) rfl rfl rfl ?_
            refine KL.op (R.move rfl rfl) rfl rfl rfl ?_
            refine KL.op (R.move rfl rfl) rfl rfl rfl ?_
            refine KL.op (R.neq rfl rfl rfl) rfl rfl rfl ?_
            refine KL.op (R.move rfl rfl) rfl rfl rfl ?_
            refine KL.case (d := 81) rfl ?_ ?_
            · intro hg81
              try simp only [decide_eq_true_eq, decide_eq_false_iff_not, Bool.not_eq_true', Bool.not_eq_false', Bool.and_eq_true, Bool.or_eq_false_iff] at hg81
              refine KL.op ((by first | exact R.fieldAddr rfl Try.underlying36 rfl rfl sz34 rfl | exact R.fieldAddrP rfl Try.underlying36 rfl rfl sz34 rfl)) rfl rfl rfl ?_
              refine KL.op (R.load rfl Try.underlying34 rfl rfl (by first | exact cell_of bx rfl | exact cell_of bw rfl | assumption)) rfl rfl rfl ?_
              refine KL.op ((by first | exact R.lenS rfl Try.underlying34 rfl (by first | assumption) | exact R.len (ty := 0) rfl Try.underlying34 rfl)) rfl rfl rfl ?_
              refine KL.op (R.gtr rfl rfl rfl) rfl rfl rfl ?_
              refine KL.op (R.pick rfl rfl rfl) rfl rfl rfl ?_
              refine KL.op (R.pick rfl rfl rfl) rfl rfl rfl ?_
              refine KL.nil ?_
              refine KQ.seq ?_
              refine KC.iteL rfl ?_ ?_
              · intro hc87
                try simp only [decide_eq_true_eq, decide_eq_false_iff_not, Bool.not_eq_true', Bool.not_eq_false', Bool.and_eq_true, Bool.or_eq_false_iff] at hc87
                refine KC.seq ?_
                refine KC.region ?_
                refine KL.op (R.assign rfl rfl) rfl rfl rfl ?_
                refine KL.nil ?_
                refine KQ.seq ?_
                refine KC.ret ?_
                refine KQ.retThen ?_
                refine KQ.ofRet ?_
                refine KQ.fin1 Try.results12 rfl ?_
                first
                  | exact ⟨⟨true, rfl, fun _ => (Isp.may_iff hx hll (fun y hy => hs0.rng y hy)).2 ⟨hk, by unfold Isp.mayC; omega⟩, fun _ => rfl⟩, o0⟩
                  | exact ⟨⟨false, rfl, fun h => absurd h (by decide), fun h => absurd ((Isp.may_iff hx hll (fun y hy => hs0.rng y hy)).1 h) (fun ⟨k1, k2⟩ => by first | (unfold Isp.mayC at k2; omega) | simp_all)⟩, o0⟩
              · intro hc87
                try simp only [decide_eq_true_eq, decide_eq_false_iff_not, Bool.not_eq_true', Bool.not_eq_false', Bool.and_eq_true, Bool.or_eq_false_iff] at hc87
                refine KC.skip ?_
                refine KQ.seq ?_
                refine KC.seq ?_
                refine KC.region ?_
                refine KL.op (R.assign rfl rfl) rfl rfl rfl ?_
                refine KL.nil ?_
                refine KQ.seq ?_
                refine KC.ret ?_
                refine KQ.ofRet ?_
                refine KQ.fin1 Try.results12 rfl ?_
                first
                  | exact ⟨⟨true, rfl, fun _ => (Isp.may_iff hx hll (fun y hy => hs0.rng y hy)).2 ⟨hk, by unfold Isp.mayC; omega⟩, fun _ => rfl⟩, o0⟩
                  | exact ⟨⟨false, rfl, fun h => absurd h (by decide), fun h => absurd ((Isp.may_iff hx hll (fun y hy => hs0.rng y hy)).1 h) (fun ⟨k1, k2⟩ => by first | (unfold Isp.mayC at k2; omega) | simp_all)⟩, o0⟩
            · intro hg81
              try simp only [decide_eq_true_eq, decide_eq_false_iff_not, Bool.not_eq_true', Bool.not_eq_false', Bool.and_eq_true, Bool.or_eq_false_iff] at hg81
              refine KL.skip rfl rfl rfl ?_
              refine KL.skip rfl rfl rfl ?_
              refine KL.skip rfl rfl rfl ?_
              refine KL.skip rfl rfl rfl ?_
              refine KL.op (R.pick rfl rfl rfl) rfl rfl rfl ?_
              refine KL.op (R.pick rfl rfl rfl) rfl rfl rfl ?_
              refine KL.nil ?_
              refine KQ.seq ?_
              refine KC.condF rfl ?_
              refine KC.skip ?_
              refine KQ.seq ?_
              refine KC.seq ?_
              refine KC.region ?_
              refine KL.op (R.assign rfl rfl) rfl rfl rfl ?_
              refine KL.nil ?_
              refine KQ.seq ?_
              refine KC.ret ?_
              refine KQ.ofRet ?_
              refine KQ.fin1 Try.results12 rfl ?_
              first
                | exact ⟨⟨true, rfl, fun _ => (Isp.may_iff hx hll (fun y hy => hs0.rng y hy)).2 ⟨hk, by unfold Isp.mayC; omega⟩, fun _ => rfl⟩, o0⟩
                | exact ⟨⟨false, rfl, fun h => absurd h (by decide), fun h => absurd ((Isp.may_iff hx hll (fun y hy => hs0.rng y hy)).1 h) (fun ⟨k1, k2⟩ => by first | (unfold Isp.mayC at k2; omega) | simp_all)⟩, o0⟩

end Go.Proofs.Ytnjodpgahbpiaaa
