/- Which instructions may be written. No condition but those stated. -/
import Derived.Test.YtnjodpgahbpiaaaInsL
namespace Go.Proofs.Ytnjodpgahbpiaaa
open Go Go.RowKit
set_option linter.unusedVariables false
set_option linter.unusedSimpArgs false
set_option linter.unnecessarySimpa false
theorem wrap32 {c : Int} : IntKind.i32.wrap c = c ↔ (-2147483648 ≤ c ∧ c ≤ 2147483647) := by
  constructor
  · intro h; have := inR_wrap .i32 c; rw [h] at this; dsimp only [InR] at this; omega
  · intro h; exact wrap_in (k := .i32) (by dsimp only [InR]; omega)

set_option maxRecDepth 100000 in
set_option maxHeartbeats 4000000 in
theorem may_no {H : Heap} {x : Ins} {vl : Value} (hx : InsR x) (hll : x.l.length < 4294967296) (hs : Sl 1 (EInt .u32) H vl x.l) (hk : Opc.known x.op = false) : Ct Try.prog 18 [insV x vl] H (fun u H' => (∃ b, u = .bool b ∧ (b = true ↔ Isp.May x)) ∧ Old H H') := by
  refine Ct.mk Try.func18 rfl Try.ntmps18 rfl ?_
  intro W0 hW0
  have o0 : Old H H := Old.refl H
  unfold insV
  refine KC.seq ?_
  refine KC.region ?_
  refine KL.opM (M.box rfl rfl rfl) rfl rfl rfl ?_
  rintro _ H1 ⟨rfl, n1⟩
  have z1 := n1.2.1
  have o0 := o0.trans n1.1
  have hs := hs.old n1.1
  have b1 := n1.2.2
  have bx := b1
  refine KL.op (R.assign rfl rfl) rfl rfl rfl ?_
  refine KL.nil ?_
  refine KQ.seq ?_
  refine KC.seq ?_
  refine KC.seq ?_
  refine KC.region ?_
  refine KL.op ((by first | exact R.fieldAddr rfl Try.underlying36 rfl rfl sz5 rfl | exact R.fieldAddrP rfl Try.underlying36 rfl rfl sz5 rfl)) rfl rfl rfl ?_
  refine KL.op (R.load rfl Try.underlying5 rfl rfl (by first | exact cell_of bx rfl | assumption)) rfl rfl rfl ?_
  refine KL.call rfl rfl rfl rfl Try.call28 rfl rfl rfl (Known_k _) ?_
  rintro _ _ ⟨rfl, rfl⟩
  refine KL.op (R.not rfl rfl) rfl rfl rfl ?_
  refine KL.nil ?_
  refine KQ.seq ?_
  refine KC.condIs true rfl (by rw [hk]; rfl) ?_
  refine KC.seq ?_
  refine KC.region ?_
  refine KL.op (R.assign rfl rfl) rfl rfl rfl ?_
  refine KL.nil ?_
  refine KQ.seq ?_
  refine KC.ret ?_
  refine KQ.retThen ?_
  refine KQ.ofRet ?_
  refine KQ.fin1 Try.results18 rfl ?_
  exact ⟨⟨false, rfl, fun h => absurd h (by decide), fun h => by have := h.1; rw [hk] at this; cases this⟩, o0⟩

set_option maxRecDepth 100000 in
set_option maxHeartbeats 4000000 in
theorem may0 {H : Heap} {x : Ins} {vl : Value} (hx : InsR x) (hll : x.l.length < 4294967296) (hs : Sl 1 (EInt .u32) H vl x.l) (hk : Opc.known x.op = true) (hf : Opc.form x.op = 0) : Ct Try.prog 18 [insV x vl] H (fun u H' => (∃ b, u = .bool b ∧ (b = true ↔ Isp.May x)) ∧ Old H H') := by
  refine Ct.mk Try.func18 rfl Try.ntmps18 rfl ?_
  intro W0 hW0
  have o0 : Old H H := Old.refl H
  have hs0 := hs
  unfold insV
  refine KC.seq ?_
  refine KC.region ?_
  refine KL.opM (M.box rfl rfl rfl) rfl rfl rfl ?_
  rintro _ H1 ⟨rfl, n1⟩
  have z1 := n1.2.1
  have o0 := o0.trans n1.1
  have hs := hs.old n1.1
  have b1 := n1.2.2
  have bx := b1
  refine KL.op (R.assign rfl rfl) rfl rfl rfl ?_
  refine KL.nil ?_
  refine KQ.seq ?_
  refine KC.seq ?_
  refine KC.seq ?_
  refine KC.region ?_
  refine KL.op ((by first | exact R.fieldAddr rfl Try.underlying36 rfl rfl sz5 rfl | exact R.fieldAddrP rfl Try.underlying36 rfl rfl sz5 rfl)) rfl rfl rfl ?_
  refine KL.op (R.load rfl Try.underlying5 rfl rfl (by first | exact cell_of bx rfl | assumption)) rfl rfl rfl ?_
  refine KL.call rfl rfl rfl rfl Try.call28 rfl rfl rfl (Known_k _) ?_
  rintro _ _ ⟨rfl, rfl⟩
  refine KL.op (R.not rfl rfl) rfl rfl rfl ?_
  refine KL.nil ?_
  refine KQ.seq ?_
  refine KC.condIs false rfl (by rw [hk]; rfl) ?_
  refine KC.skip ?_
  refine KQ.seq ?_
  refine KC.seq ?_
  refine KC.region ?_
  refine KL.op (R.buildArr (cs := #[(.bool false), (.bool false), (.bool false), (.bool false)]) rfl Try.underlying71 zr71 sz4 rfl (by kernel_rfl)) rfl rfl rfl ?_
  refine KL.opM (M.alloc rfl zr71 rfl) rfl rfl rfl ?_
  rintro _ H2 ⟨rfl, n2⟩
  have z2 := n2.2.1
  have o0 := o0.trans n2.1
  have hs := hs.old n2.1
  have bx := (n2.1).blk bx
  have b2 := n2.2.2
  have bq := b2
  refine KL.opS (S.storeAgg rfl sz71 rfl rfl (rfl) (by intro u hu; simp only [List.mem_cons, List.not_mem_nil, or_false] at hu; rcases hu with rfl | rfl | rfl | rfl <;> rfl) bq (by simp)) rfl rfl ?_
  rintro H3 ⟨u3, b3⟩
  have o0 := o0.upd u3 (by omega)
  have zu3 := u3.1
  have bx := ((u3).2 _ (by omega)).trans bx
  have bq := b3
  rw [over_all (by rfl)] at bq
  refine KL.nil ?_
  refine KQ.seq ?_
  refine KC.seq ?_
  refine KC.seq ?_
  refine KC.region ?_
  refine KL.op ((by first | exact R.fieldAddr rfl Try.underlying36 rfl rfl sz5 rfl | exact R.fieldAddrP rfl Try.underlying36 rfl rfl sz5 rfl)) rfl rfl rfl ?_
  refine KL.op (R.load rfl Try.underlying5 rfl rfl (by first | exact cell_of bx rfl | exact cell_of bq rfl | assumption)) rfl rfl rfl ?_
  refine KL.call rfl rfl rfl rfl Try.call29 rfl rfl rfl (Form_k _) ?_
  rintro _ _ ⟨rfl, rfl⟩
  rw [hf]
  refine KL.nil ?_
  refine KQ.seq ?_
  refine KC.block ?_
  refine KC.seq ?_
  refine KC.region ?_
  refine KL.op ((R.eql rfl rfl rfl).val (congrArg Value.bool (decide_eq_false (by decide)))) rfl rfl rfl ?_
  refine KL.op (R.assign rfl rfl) rfl rfl rfl ?_
  refine KL.nil ?_
  refine KQ.seq ?_
  refine KC.condF rfl ?_
  refine KC.seq ?_
  refine KC.seq ?_
  refine KC.region ?_
  refine KL.op ((R.eql rfl rfl rfl).val (congrArg Value.bool (decide_eq_false (by decide)))) rfl rfl rfl ?_
  refine KL.op (R.assign rfl rfl) rfl rfl rfl ?_
  refine KL.nil ?_
  refine KQ.seq ?_
  refine KC.condF rfl ?_
  refine KC.seq ?_
  refine KC.region ?_
  refine KL.op ((R.eql rfl rfl rfl).val (congrArg Value.bool (decide_eq_false (by decide)))) rfl rfl rfl ?_
  refine KL.op (R.assign rfl rfl) rfl rfl rfl ?_
  refine KL.nil ?_
  refine KQ.seq ?_
  refine KC.condF rfl ?_
  refine KC.region ?_
  refine KL.op ((R.eql rfl rfl rfl).val (congrArg Value.bool (decide_eq_false (by decide)))) rfl rfl rfl ?_
  refine KL.op (R.assign rfl rfl) rfl rfl rfl ?_
  refine KL.nil ?_
  refine KQ.seq ?_
  refine KC.condF rfl ?_
  refine KC.seq ?_
  refine KC.region ?_
  refine KL.op ((R.eql rfl rfl rfl).val (congrArg Value.bool (decide_eq_false (by decide)))) rfl rfl rfl ?_
  refine KL.op (R.assign rfl rfl) rfl rfl rfl ?_
  refine KL.nil ?_
  refine KQ.seq ?_
  refine KC.condF rfl ?_
  refine KC.seq ?_
  refine KC.region ?_
  refine KL.op ((R.eql rfl rfl rfl).val (congrArg Value.bool (decide_eq_false (by decide)))) rfl rfl rfl ?_
  refine KL.op (R.assign rfl rfl) rfl rfl rfl ?_
  refine KL.nil ?_
  refine KQ.seq ?_
  refine KC.condF rfl ?_
  refine KC.seq ?_
  refine KC.region ?_
  refine KL.op ((R.eql rfl rfl rfl).val (congrArg Value.bool (decide_eq_false (by decide)))) rfl rfl rfl ?_
  refine KL.op (R.assign rfl rfl) rfl rfl rfl ?_
  refine KL.nil ?_
  refine KQ.seq ?_
  refine KC.condF rfl ?_
  refine KC.seq ?_
  refine KC.region ?_
  refine KL.op ((R.eql rfl rfl rfl).val (congrArg Value.bool (decide_eq_false (by decide)))) rfl rfl rfl ?_
  refine KL.op (R.assign rfl rfl) rfl rfl rfl ?_
  refine KL.nil ?_
  refine KQ.seq ?_
  refine KC.condF rfl ?_
  refine KC.skip ?_
  refine KQ.normBlock ?_
  refine KQ.seq ?_
  refine KC.seq ?_
  refine KC.region ?_
  refine KL.op (R.indexAddrArr (j := 0) rfl Try.underlying71 sz4 rfl rfl (by first | rfl | omega) (by omega)) rfl rfl rfl ?_
  refine KL.op (R.load rfl Try.underlying4 rfl rfl (by first | exact cell_of bx rfl | exact cell_of bq rfl | assumption)) rfl rfl rfl ?_
  refine KL.op (R.move rfl rfl) rfl rfl rfl ?_
  refine KL.op ((by first | exact R.fieldAddr rfl Try.underlying36 rfl rfl sz33 rfl | exact R.fieldAddrP rfl Try.underlying36 rfl rfl sz33 rfl)) rfl rfl rfl ?_
  refine KL.op (R.load rfl Try.underlying33 rfl rfl (by first | exact cell_of bx rfl | exact cell_of bq rfl | assumption)) rfl rfl rfl ?_
  refine KL.op (R.eql rfl rfl rfl) rfl rfl rfl ?_
  refine KL.op (R.pick rfl rfl rfl) rfl rfl rfl ?_
  refine KL.op (R.move rfl rfl) rfl rfl rfl ?_
  refine KL.case (d := 61) rfl ?_ ?_
  · intro hg61
    try simp only [decide_eq_true_eq, decide_eq_false_iff_not, Bool.not_eq_true', Bool.not_eq_false', Bool.and_eq_true, Bool.or_eq_false_iff] at hg61
    refine KL.op (R.indexAddrArr (j := 1) rfl Try.underlying71 sz4 rfl rfl (by first | rfl | omega) (by omega)) rfl rfl rfl ?_
    refine KL.op (R.load rfl Try.underlying4 rfl rfl (by first | exact cell_of bx rfl | exact cell_of bq rfl | assumption)) rfl rfl rfl ?_
    refine KL.op (R.move rfl rfl) rfl rfl rfl ?_
    refine KL.op ((by first | exact R.fieldAddr rfl Try.underlying36 rfl rfl sz33 rfl | exact R.fieldAddrP rfl Try.underlying36 rfl rfl sz33 rfl)) rfl rfl rfl ?_
    refine KL.op (R.load rfl Try.underlying33 rfl rfl (by first | exact cell_of bx rfl | exact cell_of bq rfl | assumption)) rfl rfl rfl ?_
    refine KL.op (R.eql rfl rfl rfl) rfl rfl rfl ?_
    refine KL.op (R.pick rfl rfl rfl) rfl rfl rfl ?_
    refine KL.op (R.pick rfl rfl rfl) rfl rfl rfl ?_
    refine KL.op (R.move rfl rfl) rfl rfl rfl ?_
    refine KL.case (d := 70) rfl ?_ ?_
    · intro hg70
      try simp only [decide_eq_true_eq, decide_eq_false_iff_not, Bool.not_eq_true', Bool.not_eq_false', Bool.and_eq_true, Bool.or_eq_false_iff] at hg70
      refine KL.op (R.indexAddrArr (j := 2) rfl Try.underlying71 sz4 rfl rfl (by first | rfl | omega) (by omega)) rfl rfl rfl ?_
      refine KL.op (R.load rfl Try.underlying4 rfl rfl (by first | exact cell_of bx rfl | exact cell_of bq rfl | assumption)) rfl rfl rfl ?_
      refine KL.op (R.move rfl rfl) rfl rfl rfl ?_
      refine KL.op ((by first | exact R.fieldAddr rfl Try.underlying36 rfl rfl sz2 rfl | exact R.fieldAddrP rfl Try.underlying36 rfl rfl sz2 rfl)) rfl rfl rfl ?_
      refine KL.op (R.load rfl Try.underlying2 rfl rfl (by first | exact cell_of bx rfl | exact cell_of bq rfl | assumption)) rfl rfl rfl ?_
      refine KL.op (R.eql rfl rfl rfl) rfl rfl rfl ?_
      refine KL.op (R.pick rfl rfl rfl) rfl rfl rfl ?_
      refine KL.op (R.pick rfl rfl rfl) rfl rfl rfl ?_
      refine KL.op (R.move rfl rfl) rfl rfl rfl ?_
      refine KL.case (d := 79) rfl ?_ ?_
      · intro hg79
        try simp only [decide_eq_true_eq, decide_eq_false_iff_not, Bool.not_eq_true', Bool.not_eq_false', Bool.and_eq_true, Bool.or_eq_false_iff] at hg79
        refine KL.op (R.indexAddrArr (j := 3) rfl Try.underlying71 sz4 rfl rfl (by first | rfl | omega) (by omega)) rfl rfl rfl ?_
        refine KL.op (R.load rfl Try.underlying4 rfl rfl (by first | exact cell_of bx rfl | exact cell_of bq rfl | assumption)) rfl rfl rfl ?_
        refine KL.op (R.move rfl rfl) rfl rfl rfl ?_
        refine KL.op ((by first | exact R.fieldAddr rfl Try.underlying36 rfl rfl sz34 rfl | exact R.fieldAddrP rfl Try.underlying36 rfl rfl sz34 rfl)) rfl rfl rfl ?_
        refine KL.op (R.load rfl Try.underlying34 rfl rfl (by first | exact cell_of bx rfl | exact cell_of bq rfl | assumption)) rfl rfl rfl ?_
        refine KL.op (R.lenS rfl Try.underlying34 rfl hs) rfl rfl rfl ?_
        refine KL.op (R.eql rfl rfl rfl) rfl rfl rfl ?_
        refine KL.op (R.pick rfl rfl rfl) rfl rfl rfl ?_
        refine KL.op (R.pick rfl rfl rfl) rfl rfl rfl ?_
        refine KL.op (R.assign rfl rfl) rfl rfl rfl ?_
        refine KL.nil ?_
        refine KQ.seq ?_
        refine KC.ret ?_
        refine KQ.ofRet ?_
        refine KQ.fin1 Try.results18 rfl ?_
        first
          | exact ⟨⟨true, rfl, fun _ => (Isp.may_iff hx hll (fun y hy => hs0.rng y hy)).2 ⟨hk, by rw [hf]; unfold Isp.mayC; omega⟩, fun _ => rfl⟩, o0⟩
          | exact ⟨⟨false, rfl, fun h => absurd h (by decide), fun h => absurd ((Isp.may_iff hx hll (fun y hy => hs0.rng y hy)).1 h) (fun ⟨k1, k2⟩ => by rw [hf] at k2; unfold Isp.mayC at k2; omega)⟩, o0⟩
          | exact ⟨⟨_, rfl, fun h => (Isp.may_iff hx hll (fun y hy => hs0.rng y hy)).2 ⟨hk, by rw [hf]; unfold Isp.mayC; have := of_decide_eq_true h; omega⟩, fun h => by have k2 := ((Isp.may_iff hx hll (fun y hy => hs0.rng y hy)).1 h).2; rw [hf] at k2; unfold Isp.mayC at k2; exact decide_eq_true (by omega)⟩, o0⟩
      · intro hg79
        try simp only [decide_eq_true_eq, decide_eq_false_iff_not, Bool.not_eq_true', Bool.not_eq_false', Bool.and_eq_true, Bool.or_eq_false_iff] at hg79
        refine KL.skip rfl rfl rfl ?_
        refine KL.skip rfl rfl rfl ?_
        refine KL.skip rfl rfl rfl ?_
        refine KL.skip rfl rfl rfl ?_
        refine KL.skip rfl rfl rfl ?_
        refine KL.skip rfl rfl rfl ?_
        refine KL.skip rfl rfl rfl ?_
        refine KL.skip rfl rfl rfl ?_
        refine KL.op (R.pick rfl rfl rfl) rfl rfl rfl ?_
        refine KL.op (R.assign rfl rfl) rfl rfl rfl ?_
        refine KL.nil ?_
        refine KQ.seq ?_
        refine KC.ret ?_
        refine KQ.ofRet ?_
        refine KQ.fin1 Try.results18 rfl ?_
        first
          | exact ⟨⟨true, rfl, fun _ => (Isp.may_iff hx hll (fun y hy => hs0.rng y hy)).2 ⟨hk, by rw [hf]; unfold Isp.mayC; omega⟩, fun _ => rfl⟩, o0⟩
          | exact ⟨⟨false, rfl, fun h => absurd h (by decide), fun h => absurd ((Isp.may_iff hx hll (fun y hy => hs0.rng y hy)).1 h) (fun ⟨k1, k2⟩ => by rw [hf] at k2; unfold Isp.mayC at k2; omega)⟩, o0⟩
          | exact ⟨⟨_, rfl, fun h => (Isp.may_iff hx hll (fun y hy => hs0.rng y hy)).2 ⟨hk, by rw [hf]; unfold Isp.mayC; have := of_decide_eq_true h; omega⟩, fun h => by have k2 := ((Isp.may_iff hx hll (fun y hy => hs0.rng y hy)).1 h).2; rw [hf] at k2; unfold Isp.mayC at k2; exact decide_eq_true (by omega)⟩, o0⟩
    · intro hg70
      try simp only [decide_eq_true_eq, decide_eq_false_iff_not, Bool.not_eq_true', Bool.not_eq_false', Bool.and_eq_true, Bool.or_eq_false_iff] at hg70
      refine KL.skip rfl rfl rfl ?_
      refine KL.skip rfl rfl rfl ?_
      refine KL.skip rfl rfl rfl ?_
      refine KL.skip rfl rfl rfl ?_
      refine KL.skip rfl rfl rfl ?_
      refine KL.skip rfl rfl rfl ?_
      refine KL.skip rfl rfl rfl ?_
      refine KL.op (R.pick rfl rfl rfl) rfl rfl rfl ?_
      refine KL.op (R.move rfl rfl) rfl rfl rfl ?_
      refine KL.skip rfl rfl rfl ?_
      refine KL.skip rfl rfl rfl ?_
      refine KL.skip rfl rfl rfl ?_
      refine KL.skip rfl rfl rfl ?_
      refine KL.skip rfl rfl rfl ?_
      refine KL.skip rfl rfl rfl ?_
      refine KL.skip rfl rfl rfl ?_
      refine KL.skip rfl rfl rfl ?_
      refine KL.op (R.pick rfl rfl rfl) rfl rfl rfl ?_
      refine KL.op (R.assign rfl rfl) rfl rfl rfl ?_
      refine KL.nil ?_
      refine KQ.seq ?_
      refine KC.ret ?_
      refine KQ.ofRet ?_
      refine KQ.fin1 Try.results18 rfl ?_
      first
        | exact ⟨⟨true, rfl, fun _ => (Isp.may_iff hx hll (fun y hy => hs0.rng y hy)).2 ⟨hk, by rw [hf]; unfold Isp.mayC; omega⟩, fun _ => rfl⟩, o0⟩
        | exact ⟨⟨false, rfl, fun h => absurd h (by decide), fun h => absurd ((Isp.may_iff hx hll (fun y hy => hs0.rng y hy)).1 h) (fun ⟨k1, k2⟩ => by rw [hf] at k2; unfold Isp.mayC at k2; omega)⟩, o0⟩
        | exact ⟨⟨_, rfl, fun h => (Isp.may_iff hx hll (fun y hy => hs0.rng y hy)).2 ⟨hk, by rw [hf]; unfold Isp.mayC; have := of_decide_eq_true h; omega⟩, fun h => by have k2 := ((Isp.may_iff hx hll (fun y hy => hs0.rng y hy)).1 h).2; rw [hf] at k2; unfold Isp.mayC at k2; exact decide_eq_true (by omega)⟩, o0⟩
  · intro hg61
    try simp only [decide_eq_true_eq, decide_eq_false_iff_not, Bool.not_eq_true', Bool.not_eq_false', Bool.and_eq_true, Bool.or_eq_false_iff] at hg61
    refine KL.skip rfl rfl rfl ?_
    refine KL.skip rfl rfl rfl ?_
    refine KL.skip rfl rfl rfl ?_
    refine KL.skip rfl rfl rfl ?_
    refine KL.skip rfl rfl rfl ?_
    refine KL.skip rfl rfl rfl ?_
    refine KL.skip rfl rfl rfl ?_
    refine KL.op (R.pick rfl rfl rfl) rfl rfl rfl ?_
    refine KL.op (R.move rfl rfl) rfl rfl rfl ?_
    refine KL.skip rfl rfl rfl ?_
    refine KL.skip rfl rfl rfl ?_
    refine KL.skip rfl rfl rfl ?_
    refine KL.skip rfl rfl rfl ?_
    refine KL.skip rfl rfl rfl ?_
    refine KL.skip rfl rfl rfl ?_
    refine KL.skip rfl rfl rfl ?_
    refine KL.op (R.pick rfl rfl rfl) rfl rfl rfl ?_
    refine KL.op (R.move rfl rfl) rfl rfl rfl ?_
    refine KL.skip rfl rfl rfl ?_
    refine KL.skip rfl rfl rfl ?_
    refine KL.skip rfl rfl rfl ?_
    refine KL.skip rfl rfl rfl ?_
    refine KL.skip rfl rfl rfl ?_
    refine KL.skip rfl rfl rfl ?_
    refine KL.skip rfl rfl rfl ?_
    refine KL.skip rfl rfl rfl ?_
    refine KL.op (R.pick rfl rfl rfl) rfl rfl rfl ?_
    refine KL.op (R.assign rfl rfl) rfl rfl rfl ?_
    refine KL.nil ?_
    refine KQ.seq ?_
    refine KC.ret ?_
    refine KQ.ofRet ?_
    refine KQ.fin1 Try.results18 rfl ?_
    first
      | exact ⟨⟨true, rfl, fun _ => (Isp.may_iff hx hll (fun y hy => hs0.rng y hy)).2 ⟨hk, by rw [hf]; unfold Isp.mayC; omega⟩, fun _ => rfl⟩, o0⟩
      | exact ⟨⟨false, rfl, fun h => absurd h (by decide), fun h => absurd ((Isp.may_iff hx hll (fun y hy => hs0.rng y hy)).1 h) (fun ⟨k1, k2⟩ => by rw [hf] at k2; unfold Isp.mayC at k2; omega)⟩, o0⟩
      | exact ⟨⟨_, rfl, fun h => (Isp.may_iff hx hll (fun y hy => hs0.rng y hy)).2 ⟨hk, by rw [hf]; unfold Isp.mayC; have := of_decide_eq_true h; omega⟩, fun h => by have k2 := ((Isp.may_iff hx hll (fun y hy => hs0.rng y hy)).1 h).2; rw [hf] at k2; unfold Isp.mayC at k2; exact decide_eq_true (by omega)⟩, o0⟩

set_option maxRecDepth 100000 in
set_option maxHeartbeats 4000000 in
theorem may1 {H : Heap} {x : Ins} {vl : Value} (hx : InsR x) (hll : x.l.length < 4294967296) (hs : Sl 1 (EInt .u32) H vl x.l) (hk : Opc.known x.op = true) (hf : Opc.form x.op = 1) : Ct Try.prog 18 [insV x vl] H (fun u H' => (∃ b, u = .bool b ∧ (b = true ↔ Isp.May x)) ∧ Old H H') := by
  refine Ct.mk Try.func18 rfl Try.ntmps18 rfl ?_
  intro W0 hW0
  have o0 : Old H H := Old.refl H
  have hs0 := hs
  unfold insV
  refine KC.seq ?_
  refine KC.region ?_
  refine KL.opM (M.box rfl rfl rfl) rfl rfl rfl ?_
  rintro _ H1 ⟨rfl, n1⟩
  have z1 := n1.2.1
  have o0 := o0.trans n1.1
  have hs := hs.old n1.1
  have b1 := n1.2.2
  have bx := b1
  refine KL.op (R.assign rfl rfl) rfl rfl rfl ?_
  refine KL.nil ?_
  refine KQ.seq ?_
  refine KC.seq ?_
  refine KC.seq ?_
  refine KC.region ?_
  refine KL.op ((by first | exact R.fieldAddr rfl Try.underlying36 rfl rfl sz5 rfl | exact R.fieldAddrP rfl Try.underlying36 rfl rfl sz5 rfl)) rfl rfl rfl ?_
  refine KL.op (R.load rfl Try.underlying5 rfl rfl (by first | exact cell_of bx rfl | assumption)) rfl rfl rfl ?_
  refine KL.call rfl rfl rfl rfl Try.call28 rfl rfl rfl (Known_k _) ?_
  rintro _ _ ⟨rfl, rfl⟩
  refine KL.op (R.not rfl rfl) rfl rfl rfl ?_
  refine KL.nil ?_
  refine KQ.seq ?_
  refine KC.condIs false rfl (by rw [hk]; rfl) ?_
  refine KC.skip ?_
  refine KQ.seq ?_
  refine KC.seq ?_
  refine KC.region ?_
  refine KL.op (R.buildArr (cs := #[(.bool false), (.bool false), (.bool false), (.bool false)]) rfl Try.underlying71 zr71 sz4 rfl (by kernel_rfl)) rfl rfl rfl ?_
  refine KL.opM (M.alloc rfl zr71 rfl) rfl rfl rfl ?_
  rintro _ H2 ⟨rfl, n2⟩
  have z2 := n2.2.1
  have o0 := o0.trans n2.1
  have hs := hs.old n2.1
  have bx := (n2.1).blk bx
  have b2 := n2.2.2
  have bq := b2
  refine KL.opS (S.storeAgg rfl sz71 rfl rfl (rfl) (by intro u hu; simp only [List.mem_cons, List.not_mem_nil, or_false] at hu; rcases hu with rfl | rfl | rfl | rfl <;> rfl) bq (by simp)) rfl rfl ?_
  rintro H3 ⟨u3, b3⟩
  have o0 := o0.upd u3 (by omega)
  have zu3 := u3.1
  have bx := ((u3).2 _ (by omega)).trans bx
  have bq := b3
  rw [over_all (by rfl)] at bq
  refine KL.nil ?_
  refine KQ.seq ?_
  refine KC.seq ?_
  refine KC.seq ?_
  refine KC.region ?_
  refine KL.op ((by first | exact R.fieldAddr rfl Try.underlying36 rfl rfl sz5 rfl | exact R.fieldAddrP rfl Try.underlying36 rfl rfl sz5 rfl)) rfl rfl rfl ?_
  refine KL.op (R.load rfl Try.underlying5 rfl rfl (by first | exact cell_of bx rfl | exact cell_of bq rfl | assumption)) rfl rfl rfl ?_
  refine KL.call rfl rfl rfl rfl Try.call29 rfl rfl rfl (Form_k _) ?_
  rintro _ _ ⟨rfl, rfl⟩
  rw [hf]
  refine KL.nil ?_
  refine KQ.seq ?_
  refine KC.block ?_
  refine KC.seq ?_
  refine KC.region ?_
  refine KL.op ((R.eql rfl rfl rfl).val (congrArg Value.bool (decide_eq_true (by decide)))) rfl rfl rfl ?_
  refine KL.op (R.assign rfl rfl) rfl rfl rfl ?_
  refine KL.nil ?_
  refine KQ.seq ?_
  refine KC.condT rfl ?_
  refine KC.seq ?_
  refine KC.seq ?_
  refine KC.region ?_
  refine KL.op ((by first | exact R.fieldAddr rfl Try.underlying36 rfl rfl sz33 rfl | exact R.fieldAddrP rfl Try.underlying36 rfl rfl sz33 rfl)) rfl rfl rfl ?_
  refine KL.op (R.load rfl Try.underlying33 rfl rfl (by first | exact cell_of bx rfl | exact cell_of bq rfl | assumption)) rfl rfl rfl ?_
  refine KL.op (R.assign rfl rfl) rfl rfl rfl ?_
  refine KL.nil ?_
  refine KQ.seq ?_
  refine KC.seq ?_
  refine KC.region ?_
  refine KL.op (R.move rfl rfl) rfl rfl rfl ?_
  refine KL.op (R.neq rfl rfl rfl) rfl rfl rfl ?_
  refine KL.op (R.move rfl rfl) rfl rfl rfl ?_
  refine KL.case (d := 19) rfl ?_ ?_
  · intro hg19
    try simp only [decide_eq_true_eq, decide_eq_false_iff_not, Bool.not_eq_true', Bool.not_eq_false', Bool.and_eq_true, Bool.or_eq_false_iff] at hg19
    refine KL.op (R.move rfl rfl) rfl rfl rfl ?_
    refine KL.op (R.neq rfl rfl rfl) rfl rfl rfl ?_
    refine KL.op (R.pick rfl rfl rfl) rfl rfl rfl ?_
    refine KL.op (R.move rfl rfl) rfl rfl rfl ?_
    refine KL.case (d := 23) rfl ?_ ?_
    · intro hg23
      try simp only [decide_eq_true_eq, decide_eq_false_iff_not, Bool.not_eq_true', Bool.not_eq_false', Bool.and_eq_true, Bool.or_eq_false_iff] at hg23
      refine KL.op (R.move rfl rfl) rfl rfl rfl ?_
      refine KL.op (R.neq rfl rfl rfl) rfl rfl rfl ?_
      refine KL.op (R.pick rfl rfl rfl) rfl rfl rfl ?_
      refine KL.nil ?_
      refine KQ.seq ?_
      refine KC.iteL rfl ?_ ?_
      · intro hc26
        try simp only [decide_eq_true_eq, decide_eq_false_iff_not, Bool.not_eq_true', Bool.not_eq_false', Bool.and_eq_true, Bool.or_eq_false_iff] at hc26
        refine KC.seq ?_
        refine KC.region ?_
        refine KL.op (R.assign rfl rfl) rfl rfl rfl ?_
        refine KL.nil ?_
        refine KQ.seq ?_
        refine KC.ret ?_
        refine KQ.retThen ?_
        refine KQ.retBlock ?_
        refine KQ.retThen ?_
        refine KQ.ofRet ?_
        refine KQ.fin1 Try.results18 rfl ?_
        first
          | exact ⟨⟨true, rfl, fun _ => (Isp.may_iff hx hll (fun y hy => hs0.rng y hy)).2 ⟨hk, by rw [hf]; unfold Isp.mayC; omega⟩, fun _ => rfl⟩, o0⟩
          | exact ⟨⟨false, rfl, fun h => absurd h (by decide), fun h => absurd ((Isp.may_iff hx hll (fun y hy => hs0.rng y hy)).1 h) (fun ⟨k1, k2⟩ => by rw [hf] at k2; unfold Isp.mayC at k2; omega)⟩, o0⟩
          | exact ⟨⟨_, rfl, fun h => (Isp.may_iff hx hll (fun y hy => hs0.rng y hy)).2 ⟨hk, by rw [hf]; unfold Isp.mayC; have := of_decide_eq_true h; omega⟩, fun h => by have k2 := ((Isp.may_iff hx hll (fun y hy => hs0.rng y hy)).1 h).2; rw [hf] at k2; unfold Isp.mayC at k2; exact decide_eq_true (by omega)⟩, o0⟩
      · intro hc26
        try simp only [decide_eq_true_eq, decide_eq_false_iff_not, Bool.not_eq_true', Bool.not_eq_false', Bool.and_eq_true, Bool.or_eq_false_iff] at hc26
        refine KC.skip ?_
        refine KQ.seq ?_
        refine KC.region ?_
        refine KL.op (R.indexAddrArr (j := 0) rfl Try.underlying71 sz4 rfl rfl (by first | rfl | omega) (by omega)) rfl rfl rfl ?_
        refine KL.opS (S.store rfl sz4 rfl rfl rfl rfl bq (by simp)) rfl rfl ?_
        rintro H4 ⟨u4, b4⟩
        try dsimp only at u4
        try dsimp only at b4
        have o0 := o0.upd u4 (by omega)
        have zu4 := u4.1
        have bx := ((u4).2 _ (by omega)).trans bx
        have bq := b4
        refine KL.nil ?_
        refine KQ.normBlock ?_
        refine KQ.seq ?_
        refine KC.seq ?_
        refine KC.region ?_
        refine KL.op (R.indexAddrArr (j := 0) rfl Try.underlying71 sz4 rfl rfl (by first | rfl | omega) (by omega)) rfl rfl rfl ?_
        refine KL.op (R.load rfl Try.underlying4 rfl rfl (by first | exact cell_of bx rfl | exact cell_of bq rfl | assumption)) rfl rfl rfl ?_
        refine KL.op (R.move rfl rfl) rfl rfl rfl ?_
        refine KL.skip rfl rfl rfl ?_
        refine KL.skip rfl rfl rfl ?_
        refine KL.skip rfl rfl rfl ?_
        refine KL.op (R.pick rfl rfl rfl) rfl rfl rfl ?_
        refine KL.op (R.move rfl rfl) rfl rfl rfl ?_
        refine KL.op (R.indexAddrArr (j := 1) rfl Try.underlying71 sz4 rfl rfl (by first | rfl | omega) (by omega)) rfl rfl rfl ?_
        refine KL.op (R.load rfl Try.underlying4 rfl rfl (by first | exact cell_of bx rfl | exact cell_of bq rfl | assumption)) rfl rfl rfl ?_
        refine KL.op (R.move rfl rfl) rfl rfl rfl ?_
        refine KL.op ((by first | exact R.fieldAddr rfl Try.underlying36 rfl rfl sz33 rfl | exact R.fieldAddrP rfl Try.underlying36 rfl rfl sz33 rfl)) rfl rfl rfl ?_
        refine KL.op (R.load rfl Try.underlying33 rfl rfl (by first | exact cell_of bx rfl | exact cell_of bq rfl | assumption)) rfl rfl rfl ?_
        refine KL.op (R.eql rfl rfl rfl) rfl rfl rfl ?_
        refine KL.op (R.pick rfl rfl rfl) rfl rfl rfl ?_
        refine KL.op (R.pick rfl rfl rfl) rfl rfl rfl ?_
        refine KL.op (R.move rfl rfl) rfl rfl rfl ?_
        refine KL.case (d := 70) rfl ?_ ?_
        · intro hg70
          try simp only [decide_eq_true_eq, decide_eq_false_iff_not, Bool.not_eq_true', Bool.not_eq_false', Bool.and_eq_true, Bool.or_eq_false_iff] at hg70
          refine KL.op (R.indexAddrArr (j := 2) rfl Try.underlying71 sz4 rfl rfl (by first | rfl | omega) (by omega)) rfl rfl rfl ?_
          refine KL.op (R.load rfl Try.underlying4 rfl rfl (by first | exact cell_of bx rfl | exact cell_of bq rfl | assumption)) rfl rfl rfl ?_
          refine KL.op (R.move rfl rfl) rfl rfl rfl ?_
          refine KL.op ((by first | exact R.fieldAddr rfl Try.underlying36 rfl rfl sz2 rfl | exact R.fieldAddrP rfl Try.underlying36 rfl rfl sz2 rfl)) rfl rfl rfl ?_
          refine KL.op (R.load rfl Try.underlying2 rfl rfl (by first | exact cell_of bx rfl | exact cell_of bq rfl | assumption)) rfl rfl rfl ?_
          refine KL.op (R.eql rfl rfl rfl) rfl rfl rfl ?_
          refine KL.op (R.pick rfl rfl rfl) rfl rfl rfl ?_
          refine KL.op (R.pick rfl rfl rfl) rfl rfl rfl ?_
          refine KL.op (R.move rfl rfl) rfl rfl rfl ?_
          refine KL.case (d := 79) rfl ?_ ?_
          · intro hg79
            try simp only [decide_eq_true_eq, decide_eq_false_iff_not, Bool.not_eq_true', Bool.not_eq_false', Bool.and_eq_true, Bool.or_eq_false_iff] at hg79
            refine KL.op (R.indexAddrArr (j := 3) rfl Try.underlying71 sz4 rfl rfl (by first | rfl | omega) (by omega)) rfl rfl rfl ?_
            refine KL.op (R.load rfl Try.underlying4 rfl rfl (by first | exact cell_of bx rfl | exact cell_of bq rfl | assumption)) rfl rfl rfl ?_
            refine KL.op (R.move rfl rfl) rfl rfl rfl ?_
            refine KL.op ((by first | exact R.fieldAddr rfl Try.underlying36 rfl rfl sz34 rfl | exact R.fieldAddrP rfl Try.underlying36 rfl rfl sz34 rfl)) rfl rfl rfl ?_
            refine KL.op (R.load rfl Try.underlying34 rfl rfl (by first | exact cell_of bx rfl | exact cell_of bq rfl | assumption)) rfl rfl rfl ?_
            refine KL.op (R.lenS rfl Try.underlying34 rfl hs) rfl rfl rfl ?_
            refine KL.op (R.eql rfl rfl rfl) rfl rfl rfl ?_
            refine KL.op (R.pick rfl rfl rfl) rfl rfl rfl ?_
            refine KL.op (R.pick rfl rfl rfl) rfl rfl rfl ?_
            refine KL.op (R.assign rfl rfl) rfl rfl rfl ?_
            refine KL.nil ?_
            refine KQ.seq ?_
            refine KC.ret ?_
            refine KQ.ofRet ?_
            refine KQ.fin1 Try.results18 rfl ?_
            first
              | exact ⟨⟨true, rfl, fun _ => (Isp.may_iff hx hll (fun y hy => hs0.rng y hy)).2 ⟨hk, by rw [hf]; unfold Isp.mayC; omega⟩, fun _ => rfl⟩, o0⟩
              | exact ⟨⟨false, rfl, fun h => absurd h (by decide), fun h => absurd ((Isp.may_iff hx hll (fun y hy => hs0.rng y hy)).1 h) (fun ⟨k1, k2⟩ => by rw [hf] at k2; unfold Isp.mayC at k2; omega)⟩, o0⟩
              | exact ⟨⟨_, rfl, fun h => (Isp.may_iff hx hll (fun y hy => hs0.rng y hy)).2 ⟨hk, by rw [hf]; unfold Isp.mayC; have := of_decide_eq_true h; omega⟩, fun h => by have k2 := ((Isp.may_iff hx hll (fun y hy => hs0.rng y hy)).1 h).2; rw [hf] at k2; unfold Isp.mayC at k2; exact decide_eq_true (by omega)⟩, o0⟩
          · intro hg79
            try simp only [decide_eq_true_eq, decide_eq_false_iff_not, Bool.not_eq_true', Bool.not_eq_false', Bool.and_eq_true, Bool.or_eq_false_iff] at hg79
            refine KL.skip rfl rfl rfl ?_
            refine KL.skip rfl rfl rfl ?_
            refine KL.skip rfl rfl rfl ?_
            refine KL.skip rfl rfl rfl ?_
            refine KL.skip rfl rfl rfl ?_
            refine KL.skip rfl rfl rfl ?_
            refine KL.skip rfl rfl rfl ?_
            refine KL.skip rfl rfl rfl ?_
            refine KL.op (R.pick rfl rfl rfl) rfl rfl rfl ?_
            refine KL.op (R.assign rfl rfl) rfl rfl rfl ?_
            refine KL.nil ?_
            refine KQ.seq ?_
            refine KC.ret ?_
            refine KQ.ofRet ?_
            refine KQ.fin1 Try.results18 rfl ?_
            first
              | exact ⟨⟨true, rfl, fun _ => (Isp.may_iff hx hll (fun y hy => hs0.rng y hy)).2 ⟨hk, by rw [hf]; unfold Isp.mayC; omega⟩, fun _ => rfl⟩, o0⟩
              | exact ⟨⟨false, rfl, fun h => absurd h (by decide), fun h => absurd ((Isp.may_iff hx hll (fun y hy => hs0.rng y hy)).1 h) (fun ⟨k1, k2⟩ => by rw [hf] at k2; unfold Isp.mayC at k2; omega)⟩, o0⟩
              | exact ⟨⟨_, rfl, fun h => (Isp.may_iff hx hll (fun y hy => hs0.rng y hy)).2 ⟨hk, by rw [hf]; unfold Isp.mayC; have := of_decide_eq_true h; omega⟩, fun h => by have k2 := ((Isp.may_iff hx hll (fun y hy => hs0.rng y hy)).1 h).2; rw [hf] at k2; unfold Isp.mayC at k2; exact decide_eq_true (by omega)⟩, o0⟩
        · intro hg70
          try simp only [decide_eq_true_eq, decide_eq_false_iff_not, Bool.not_eq_true', Bool.not_eq_false', Bool.and_eq_true, Bool.or_eq_false_iff] at hg70
          refine KL.skip rfl rfl rfl ?_
          refine KL.skip rfl rfl rfl ?_
          refine KL.skip rfl rfl rfl ?_
          refine KL.skip rfl rfl rfl ?_
          refine KL.skip rfl rfl rfl ?_
          refine KL.skip rfl rfl rfl ?_
          refine KL.skip rfl rfl rfl ?_
          refine KL.op (R.pick rfl rfl rfl) rfl rfl rfl ?_
          refine KL.op (R.move rfl rfl) rfl rfl rfl ?_
          refine KL.skip rfl rfl rfl ?_
          refine KL.skip rfl rfl rfl ?_
          refine KL.skip rfl rfl rfl ?_
          refine KL.skip rfl rfl rfl ?_
          refine KL.skip rfl rfl rfl ?_
          refine KL.skip rfl rfl rfl ?_
          refine KL.skip rfl rfl rfl ?_
          refine KL.skip rfl rfl rfl ?_
          refine KL.op (R.pick rfl rfl rfl) rfl rfl rfl ?_
          refine KL.op (R.assign rfl rfl) rfl rfl rfl ?_
          refine KL.nil ?_
          refine KQ.seq ?_
          refine KC.ret ?_
          refine KQ.ofRet ?_
          refine KQ.fin1 Try.results18 rfl ?_
          first
            | exact ⟨⟨true, rfl, fun _ => (Isp.may_iff hx hll (fun y hy => hs0.rng y hy)).2 ⟨hk, by rw [hf]; unfold Isp.mayC; omega⟩, fun _ => rfl⟩, o0⟩
            | exact ⟨⟨false, rfl, fun h => absurd h (by decide), fun h => absurd ((Isp.may_iff hx hll (fun y hy => hs0.rng y hy)).1 h) (fun ⟨k1, k2⟩ => by rw [hf] at k2; unfold Isp.mayC at k2; omega)⟩, o0⟩
            | exact ⟨⟨_, rfl, fun h => (Isp.may_iff hx hll (fun y hy => hs0.rng y hy)).2 ⟨hk, by rw [hf]; unfold Isp.mayC; have := of_decide_eq_true h; omega⟩, fun h => by have k2 := ((Isp.may_iff hx hll (fun y hy => hs0.rng y hy)).1 h).2; rw [hf] at k2; unfold Isp.mayC at k2; exact decide_eq_true (by omega)⟩, o0⟩
    · intro hg23
      try simp only [decide_eq_true_eq, decide_eq_false_iff_not, Bool.not_eq_true', Bool.not_eq_false', Bool.and_eq_true, Bool.or_eq_false_iff] at hg23
      refine KL.skip rfl rfl rfl ?_
      refine KL.skip rfl rfl rfl ?_
      refine KL.op (R.pick rfl rfl rfl) rfl rfl rfl ?_
      refine KL.nil ?_
      refine KQ.seq ?_
      refine KC.condF rfl ?_
      refine KC.skip ?_
      refine KQ.seq ?_
      refine KC.region ?_
      refine KL.op (R.indexAddrArr (j := 0) rfl Try.underlying71 sz4 rfl rfl (by first | rfl | omega) (by omega)) rfl rfl rfl ?_
      refine KL.opS (S.store rfl sz4 rfl rfl rfl rfl bq (by simp)) rfl rfl ?_
      rintro H5 ⟨u5, b5⟩
      try dsimp only at u5
      try dsimp only at b5
      have o0 := o0.upd u5 (by omega)
      have zu5 := u5.1
      have bx := ((u5).2 _ (by omega)).trans bx
      have bq := b5
      refine KL.nil ?_
      refine KQ.normBlock ?_
      refine KQ.seq ?_
      refine KC.seq ?_
      refine KC.region ?_
      refine KL.op (R.indexAddrArr (j := 0) rfl Try.underlying71 sz4 rfl rfl (by first | rfl | omega) (by omega)) rfl rfl rfl ?_
      refine KL.op (R.load rfl Try.underlying4 rfl rfl (by first | exact cell_of bx rfl | exact cell_of bq rfl | assumption)) rfl rfl rfl ?_
      refine KL.op (R.move rfl rfl) rfl rfl rfl ?_
      refine KL.skip rfl rfl rfl ?_
      refine KL.skip rfl rfl rfl ?_
      refine KL.skip rfl rfl rfl ?_
      refine KL.op (R.pick rfl rfl rfl) rfl rfl rfl ?_
      refine KL.op (R.move rfl rfl) rfl rfl rfl ?_
      refine KL.op (R.indexAddrArr (j := 1) rfl Try.underlying71 sz4 rfl rfl (by first | rfl | omega) (by omega)) rfl rfl rfl ?_
      refine KL.op (R.load rfl Try.underlying4 rfl rfl (by first | exact cell_of bx rfl | exact cell_of bq rfl | assumption)) rfl rfl rfl ?_
      refine KL.op (R.move rfl rfl) rfl rfl rfl ?_
      refine KL.op ((by first | exact R.fieldAddr rfl Try.underlying36 rfl rfl sz33 rfl | exact R.fieldAddrP rfl Try.underlying36 rfl rfl sz33 rfl)) rfl rfl rfl ?_
      refine KL.op (R.load rfl Try.underlying33 rfl rfl (by first | exact cell_of bx rfl | exact cell_of bq rfl | assumption)) rfl rfl rfl ?_
      refine KL.op (R.eql rfl rfl rfl) rfl rfl rfl ?_
      refine KL.op (R.pick rfl rfl rfl) rfl rfl rfl ?_
      refine KL.op (R.pick rfl rfl rfl) rfl rfl rfl ?_
      refine KL.op (R.move rfl rfl) rfl rfl rfl ?_
      refine KL.case (d := 70) rfl ?_ ?_
      · intro hg70
        try simp only [decide_eq_true_eq, decide_eq_false_iff_not, Bool.not_eq_true', Bool.not_eq_false', Bool.and_eq_true, Bool.or_eq_false_iff] at hg70
        refine KL.op (R.indexAddrArr (j := 2) rfl Try.underlying71 sz4 rfl rfl (by first | rfl | omega) (by omega)) rfl rfl rfl ?_
        refine KL.op (R.load rfl Try.underlying4 rfl rfl (by first | exact cell_of bx rfl | exact cell_of bq rfl | assumption)) rfl rfl rfl ?_
        refine KL.op (R.move rfl rfl) rfl rfl rfl ?_
        refine KL.op ((by first | exact R.fieldAddr rfl Try.underlying36 rfl rfl sz2 rfl | exact R.fieldAddrP rfl Try.underlying36 rfl rfl sz2 rfl)) rfl rfl rfl ?_
        refine KL.op (R.load rfl Try.underlying2 rfl rfl (by first | exact cell_of bx rfl | exact cell_of bq rfl | assumption)) rfl rfl rfl ?_
        refine KL.op (R.eql rfl rfl rfl) rfl rfl rfl ?_
        refine KL.op (R.pick rfl rfl rfl) rfl rfl rfl ?_
        refine KL.op (R.pick rfl rfl rfl) rfl rfl rfl ?_
        refine KL.op (R.move rfl rfl) rfl rfl rfl ?_
        refine KL.case (d := 79) rfl ?_ ?_
        · intro hg79
          try simp only [decide_eq_true_eq, decide_eq_false_iff_not, Bool.not_eq_true', Bool.not_eq_false', Bool.and_eq_true, Bool.or_eq_false_iff] at hg79
          refine KL.op (R.indexAddrArr (j := 3) rfl Try.underlying71 sz4 rfl rfl (by first | rfl | omega) (by omega)) rfl rfl rfl ?_
          refine KL.op (R.load rfl Try.underlying4 rfl rfl (by first | exact cell_of bx rfl | exact cell_of bq rfl | assumption)) rfl rfl rfl ?_
          refine KL.op (R.move rfl rfl) rfl rfl rfl ?_
          refine KL.op ((by first | exact R.fieldAddr rfl Try.underlying36 rfl rfl sz34 rfl | exact R.fieldAddrP rfl Try.underlying36 rfl rfl sz34 rfl)) rfl rfl rfl ?_
          refine KL.op (R.load rfl Try.underlying34 rfl rfl (by first | exact cell_of bx rfl | exact cell_of bq rfl | assumption)) rfl rfl rfl ?_
          refine KL.op (R.lenS rfl Try.underlying34 rfl hs) rfl rfl rfl ?_
          refine KL.op (R.eql rfl rfl rfl) rfl rfl rfl ?_
          refine KL.op (R.pick rfl rfl rfl) rfl rfl rfl ?_
          refine KL.op (R.pick rfl rfl rfl) rfl rfl rfl ?_
          refine KL.op (R.assign rfl rfl) rfl rfl rfl ?_
          refine KL.nil ?_
          refine KQ.seq ?_
          refine KC.ret ?_
          refine KQ.ofRet ?_
          refine KQ.fin1 Try.results18 rfl ?_
          first
            | exact ⟨⟨true, rfl, fun _ => (Isp.may_iff hx hll (fun y hy => hs0.rng y hy)).2 ⟨hk, by rw [hf]; unfold Isp.mayC; omega⟩, fun _ => rfl⟩, o0⟩
            | exact ⟨⟨false, rfl, fun h => absurd h (by decide), fun h => absurd ((Isp.may_iff hx hll (fun y hy => hs0.rng y hy)).1 h) (fun ⟨k1, k2⟩ => by rw [hf] at k2; unfold Isp.mayC at k2; omega)⟩, o0⟩
            | exact ⟨⟨_, rfl, fun h => (Isp.may_iff hx hll (fun y hy => hs0.rng y hy)).2 ⟨hk, by rw [hf]; unfold Isp.mayC; have := of_decide_eq_true h; omega⟩, fun h => by have k2 := ((Isp.may_iff hx hll (fun y hy => hs0.rng y hy)).1 h).2; rw [hf] at k2; unfold Isp.mayC at k2; exact decide_eq_true (by omega)⟩, o0⟩
        · intro hg79
          try simp only [decide_eq_true_eq, decide_eq_false_iff_not, Bool.not_eq_true', Bool.not_eq_false', Bool.and_eq_true, Bool.or_eq_false_iff] at hg79
          refine KL.skip rfl rfl rfl ?_
          refine KL.skip rfl rfl rfl ?_
          refine KL.skip rfl rfl rfl ?_
          refine KL.skip rfl rfl rfl ?_
          refine KL.skip rfl rfl rfl ?_
          refine KL.skip rfl rfl rfl ?_
          refine KL.skip rfl rfl rfl ?_
          refine KL.skip rfl rfl rfl ?_
          refine KL.op (R.pick rfl rfl rfl) rfl rfl rfl ?_
          refine KL.op (R.assign rfl rfl) rfl rfl rfl ?_
          refine KL.nil ?_
          refine KQ.seq ?_
          refine KC.ret ?_
          refine KQ.ofRet ?_
          refine KQ.fin1 Try.results18 rfl ?_
          first
            | exact ⟨⟨true, rfl, fun _ => (Isp.may_iff hx hll (fun y hy => hs0.rng y hy)).2 ⟨hk, by rw [hf]; unfold Isp.mayC; omega⟩, fun _ => rfl⟩, o0⟩
            | exact ⟨⟨false, rfl, fun h => absurd h (by decide), fun h => absurd ((Isp.may_iff hx hll (fun y hy => hs0.rng y hy)).1 h) (fun ⟨k1, k2⟩ => by rw [hf] at k2; unfold Isp.mayC at k2; omega)⟩, o0⟩
            | exact ⟨⟨_, rfl, fun h => (Isp.may_iff hx hll (fun y hy => hs0.rng y hy)).2 ⟨hk, by rw [hf]; unfold Isp.mayC; have := of_decide_eq_true h; omega⟩, fun h => by have k2 := ((Isp.may_iff hx hll (fun y hy => hs0.rng y hy)).1 h).2; rw [hf] at k2; unfold Isp.mayC at k2; exact decide_eq_true (by omega)⟩, o0⟩
      · intro hg70
        try simp only [decide_eq_true_eq, decide_eq_false_iff_not, Bool.not_eq_true', Bool.not_eq_false', Bool.and_eq_true, Bool.or_eq_false_iff] at hg70
        refine KL.skip rfl rfl rfl ?_
        refine KL.skip rfl rfl rfl ?_
        refine KL.skip rfl rfl rfl ?_
        refine KL.skip rfl rfl rfl ?_
        refine KL.skip rfl rfl rfl ?_
        refine KL.skip rfl rfl rfl ?_
        refine KL.skip rfl rfl rfl ?_
        refine KL.op (R.pick rfl rfl rfl) rfl rfl rfl ?_
        refine KL.op (R.move rfl rfl) rfl rfl rfl ?_
        refine KL.skip rfl rfl rfl ?_
        refine KL.skip rfl rfl rfl ?_
        refine KL.skip rfl rfl rfl ?_
        refine KL.skip rfl rfl rfl ?_
        refine KL.skip rfl rfl rfl ?_
        refine KL.skip rfl rfl rfl ?_
        refine KL.skip rfl rfl rfl ?_
        refine KL.skip rfl rfl rfl ?_
        refine KL.op (R.pick rfl rfl rfl) rfl rfl rfl ?_
        refine KL.op (R.assign rfl rfl) rfl rfl rfl ?_
        refine KL.nil ?_
        refine KQ.seq ?_
        refine KC.ret ?_
        refine KQ.ofRet ?_
        refine KQ.fin1 Try.results18 rfl ?_
        first
          | exact ⟨⟨true, rfl, fun _ => (Isp.may_iff hx hll (fun y hy => hs0.rng y hy)).2 ⟨hk, by rw [hf]; unfold Isp.mayC; omega⟩, fun _ => rfl⟩, o0⟩
          | exact ⟨⟨false, rfl, fun h => absurd h (by decide), fun h => absurd ((Isp.may_iff hx hll (fun y hy => hs0.rng y hy)).1 h) (fun ⟨k1, k2⟩ => by rw [hf] at k2; unfold Isp.mayC at k2; omega)⟩, o0⟩
          | exact ⟨⟨_, rfl, fun h => (Isp.may_iff hx hll (fun y hy => hs0.rng y hy)).2 ⟨hk, by rw [hf]; unfold Isp.mayC; have := of_decide_eq_true h; omega⟩, fun h => by have k2 := ((Isp.may_iff hx hll (fun y hy => hs0.rng y hy)).1 h).2; rw [hf] at k2; unfold Isp.mayC at k2; exact decide_eq_true (by omega)⟩, o0⟩
  · intro hg19
    try simp only [decide_eq_true_eq, decide_eq_false_iff_not, Bool.not_eq_true', Bool.not_eq_false', Bool.and_eq_true, Bool.or_eq_false_iff] at hg19
    refine KL.skip rfl rfl rfl ?_
    refine KL.skip rfl rfl rfl ?_
    refine KL.op (R.pick rfl rfl rfl) rfl rfl rfl ?_
    refine KL.op (R.move rfl rfl) rfl rfl rfl ?_
    refine KL.skip rfl rfl rfl ?_
    refine KL.skip rfl rfl rfl ?_
    refine KL.op (R.pick rfl rfl rfl) rfl rfl rfl ?_
    refine KL.nil ?_
    refine KQ.seq ?_
    refine KC.condF rfl ?_
    refine KC.skip ?_
    refine KQ.seq ?_
    refine KC.region ?_
    refine KL.op (R.indexAddrArr (j := 0) rfl Try.underlying71 sz4 rfl rfl (by first | rfl | omega) (by omega)) rfl rfl rfl ?_
    refine KL.opS (S.store rfl sz4 rfl rfl rfl rfl bq (by simp)) rfl rfl ?_
    rintro H6 ⟨u6, b6⟩
    try dsimp only at u6
    try dsimp only at b6
    have o0 := o0.upd u6 (by omega)
    have zu6 := u6.1
    have bx := ((u6).2 _ (by omega)).trans bx
    have bq := b6
    refine KL.nil ?_
    refine KQ.normBlock ?_
    refine KQ.seq ?_
    refine KC.seq ?_
    refine KC.region ?_
    refine KL.op (R.indexAddrArr (j := 0) rfl Try.underlying71 sz4 rfl rfl (by first | rfl | omega) (by omega)) rfl rfl rfl ?_
    refine KL.op (R.load rfl Try.underlying4 rfl rfl (by first | exact cell_of bx rfl | exact cell_of bq rfl | assumption)) rfl rfl rfl ?_
    refine KL.op (R.move rfl rfl) rfl rfl rfl ?_
    refine KL.skip rfl rfl rfl ?_
    refine KL.skip rfl rfl rfl ?_
    refine KL.skip rfl rfl rfl ?_
    refine KL.op (R.pick rfl rfl rfl) rfl rfl rfl ?_
    refine KL.op (R.move rfl rfl) rfl rfl rfl ?_
    refine KL.op (R.indexAddrArr (j := 1) rfl Try.underlying71 sz4 rfl rfl (by first | rfl | omega) (by omega)) rfl rfl rfl ?_
    refine KL.op (R.load rfl Try.underlying4 rfl rfl (by first | exact cell_of bx rfl | exact cell_of bq rfl | assumption)) rfl rfl rfl ?_
    refine KL.op (R.move rfl rfl) rfl rfl rfl ?_
    refine KL.op ((by first | exact R.fieldAddr rfl Try.underlying36 rfl rfl sz33 rfl | exact R.fieldAddrP rfl Try.underlying36 rfl rfl sz33 rfl)) rfl rfl rfl ?_
    refine KL.op (R.load rfl Try.underlying33 rfl rfl (by first | exact cell_of bx rfl | exact cell_of bq rfl | assumption)) rfl rfl rfl ?_
    refine KL.op (R.eql rfl rfl rfl) rfl rfl rfl ?_
    refine KL.op (R.pick rfl rfl rfl) rfl rfl rfl ?_
    refine KL.op (R.pick rfl rfl rfl) rfl rfl rfl ?_
    refine KL.op (R.move rfl rfl) rfl rfl rfl ?_
    refine KL.case (d := 70) rfl ?_ ?_
    · intro hg70
      try simp only [decide_eq_true_eq, decide_eq_false_iff_not, Bool.not_eq_true', Bool.not_eq_false', Bool.and_eq_true, Bool.or_eq_false_iff] at hg70
      refine KL.op (R.indexAddrArr (j := 2) rfl Try.underlying71 sz4 rfl rfl (by first | rfl | omega) (by omega)) rfl rfl rfl ?_
      refine KL.op (R.load rfl Try.underlying4 rfl rfl (by first | exact cell_of bx rfl | exact cell_of bq rfl | assumption)) rfl rfl rfl ?_
      refine KL.op (R.move rfl rfl) rfl rfl rfl ?_
      refine KL.op ((by first | exact R.fieldAddr rfl Try.underlying36 rfl rfl sz2 rfl | exact R.fieldAddrP rfl Try.underlying36 rfl rfl sz2 rfl)) rfl rfl rfl ?_
      refine KL.op (R.load rfl Try.underlying2 rfl rfl (by first | exact cell_of bx rfl | exact cell_of bq rfl | assumption)) rfl rfl rfl ?_
      refine KL.op (R.eql rfl rfl rfl) rfl rfl rfl ?_
      refine KL.op (R.pick rfl rfl rfl) rfl rfl rfl ?_
      refine KL.op (R.pick rfl rfl rfl) rfl rfl rfl ?_
      refine KL.op (R.move rfl rfl) rfl rfl rfl ?_
      refine KL.case (d := 79) rfl ?_ ?_
      · intro hg79
        try simp only [decide_eq_true_eq, decide_eq_false_iff_not, Bool.not_eq_true', Bool.not_eq_false', Bool.and_eq_true, Bool.or_eq_false_iff] at hg79
        refine KL.op (R.indexAddrArr (j := 3) rfl Try.underlying71 sz4 rfl rfl (by first | rfl | omega) (by omega)) rfl rfl rfl ?_
        refine KL.op (R.load rfl Try.underlying4 rfl rfl (by first | exact cell_of bx rfl | exact cell_of bq rfl | assumption)) rfl rfl rfl ?_
        refine KL.op (R.move rfl rfl) rfl rfl rfl ?_
        refine KL.op ((by first | exact R.fieldAddr rfl Try.underlying36 rfl rfl sz34 rfl | exact R.fieldAddrP rfl Try.underlying36 rfl rfl sz34 rfl)) rfl rfl rfl ?_
        refine KL.op (R.load rfl Try.underlying34 rfl rfl (by first | exact cell_of bx rfl | exact cell_of bq rfl | assumption)) rfl rfl rfl ?_
        refine KL.op (R.lenS rfl Try.underlying34 rfl hs) rfl rfl rfl ?_
        refine KL.op (R.eql rfl rfl rfl) rfl rfl rfl ?_
        refine KL.op (R.pick rfl rfl rfl) rfl rfl rfl ?_
        refine KL.op (R.pick rfl rfl rfl) rfl rfl rfl ?_
        refine KL.op (R.assign rfl rfl) rfl rfl rfl ?_
        refine KL.nil ?_
        refine KQ.seq ?_
        refine KC.ret ?_
        refine KQ.ofRet ?_
        refine KQ.fin1 Try.results18 rfl ?_
        first
          | exact ⟨⟨true, rfl, fun _ => (Isp.may_iff hx hll (fun y hy => hs0.rng y hy)).2 ⟨hk, by rw [hf]; unfold Isp.mayC; omega⟩, fun _ => rfl⟩, o0⟩
          | exact ⟨⟨false, rfl, fun h => absurd h (by decide), fun h => absurd ((Isp.may_iff hx hll (fun y hy => hs0.rng y hy)).1 h) (fun ⟨k1, k2⟩ => by rw [hf] at k2; unfold Isp.mayC at k2; omega)⟩, o0⟩
          | exact ⟨⟨_, rfl, fun h => (Isp.may_iff hx hll (fun y hy => hs0.rng y hy)).2 ⟨hk, by rw [hf]; unfold Isp.mayC; have := of_decide_eq_true h; omega⟩, fun h => by have k2 := ((Isp.may_iff hx hll (fun y hy => hs0.rng y hy)).1 h).2; rw [hf] at k2; unfold Isp.mayC at k2; exact decide_eq_true (by omega)⟩, o0⟩
      · intro hg79
        try simp only [decide_eq_true_eq, decide_eq_false_iff_not, Bool.not_eq_true', Bool.not_eq_false', Bool.and_eq_true, Bool.or_eq_false_iff] at hg79
        refine KL.skip rfl rfl rfl ?_
        refine KL.skip rfl rfl rfl ?_
        refine KL.skip rfl rfl rfl ?_
        refine KL.skip rfl rfl rfl ?_
        refine KL.skip rfl rfl rfl ?_
        refine KL.skip rfl rfl rfl ?_
        refine KL.skip rfl rfl rfl ?_
        refine KL.skip rfl rfl rfl ?_
        refine KL.op (R.pick rfl rfl rfl) rfl rfl rfl ?_
        refine KL.op (R.assign rfl rfl) rfl rfl rfl ?_
        refine KL.nil ?_
        refine KQ.seq ?_
        refine KC.ret ?_
        refine KQ.ofRet ?_
        refine KQ.fin1 Try.results18 rfl ?_
        first
          | exact ⟨⟨true, rfl, fun _ => (Isp.may_iff hx hll (fun y hy => hs0.rng y hy)).2 ⟨hk, by rw [hf]; unfold Isp.mayC; omega⟩, fun _ => rfl⟩, o0⟩
          | exact ⟨⟨false, rfl, fun h => absurd h (by decide), fun h => absurd ((Isp.may_iff hx hll (fun y hy => hs0.rng y hy)).1 h) (fun ⟨k1, k2⟩ => by rw [hf] at k2; unfold Isp.mayC at k2; omega)⟩, o0⟩
          | exact ⟨⟨_, rfl, fun h => (Isp.may_iff hx hll (fun y hy => hs0.rng y hy)).2 ⟨hk, by rw [hf]; unfold Isp.mayC; have := of_decide_eq_true h; omega⟩, fun h => by have k2 := ((Isp.may_iff hx hll (fun y hy => hs0.rng y hy)).1 h).2; rw [hf] at k2; unfold Isp.mayC at k2; exact decide_eq_true (by omega)⟩, o0⟩
    · intro hg70
      try simp only [decide_eq_true_eq, decide_eq_false_iff_not, Bool.not_eq_true', Bool.not_eq_false', Bool.and_eq_true, Bool.or_eq_false_iff] at hg70
      refine KL.skip rfl rfl rfl ?_
      refine KL.skip rfl rfl rfl ?_
      refine KL.skip rfl rfl rfl ?_
      refine KL.skip rfl rfl rfl ?_
      refine KL.skip rfl rfl rfl ?_
      refine KL.skip rfl rfl rfl ?_
      refine KL.skip rfl rfl rfl ?_
      refine KL.op (R.pick rfl rfl rfl) rfl rfl rfl ?_
      refine KL.op (R.move rfl rfl) rfl rfl rfl ?_
      refine KL.skip rfl rfl rfl ?_
      refine KL.skip rfl rfl rfl ?_
      refine KL.skip rfl rfl rfl ?_
      refine KL.skip rfl rfl rfl ?_
      refine KL.skip rfl rfl rfl ?_
      refine KL.skip rfl rfl rfl ?_
      refine KL.skip rfl rfl rfl ?_
      refine KL.skip rfl rfl rfl ?_
      refine KL.op (R.pick rfl rfl rfl) rfl rfl rfl ?_
      refine KL.op (R.assign rfl rfl) rfl rfl rfl ?_
      refine KL.nil ?_
      refine KQ.seq ?_
      refine KC.ret ?_
      refine KQ.ofRet ?_
      refine KQ.fin1 Try.results18 rfl ?_
      first
        | exact ⟨⟨true, rfl, fun _ => (Isp.may_iff hx hll (fun y hy => hs0.rng y hy)).2 ⟨hk, by rw [hf]; unfold Isp.mayC; omega⟩, fun _ => rfl⟩, o0⟩
        | exact ⟨⟨false, rfl, fun h => absurd h (by decide), fun h => absurd ((Isp.may_iff hx hll (fun y hy => hs0.rng y hy)).1 h) (fun ⟨k1, k2⟩ => by rw [hf] at k2; unfold Isp.mayC at k2; omega)⟩, o0⟩
        | exact ⟨⟨_, rfl, fun h => (Isp.may_iff hx hll (fun y hy => hs0.rng y hy)).2 ⟨hk, by rw [hf]; unfold Isp.mayC; have := of_decide_eq_true h; omega⟩, fun h => by have k2 := ((Isp.may_iff hx hll (fun y hy => hs0.rng y hy)).1 h).2; rw [hf] at k2; unfold Isp.mayC at k2; exact decide_eq_true (by omega)⟩, o0⟩

set_option maxRecDepth 100000 in
set_option maxHeartbeats 4000000 in
theorem may2 {H : Heap} {x : Ins} {vl : Value} (hx : InsR x) (hll : x.l.length < 4294967296) (hs : Sl 1 (EInt .u32) H vl x.l) (hk : Opc.known x.op = true) (hf : Opc.form x.op = 2) : Ct Try.prog 18 [insV x vl] H (fun u H' => (∃ b, u = .bool b ∧ (b = true ↔ Isp.May x)) ∧ Old H H') := by
  refine Ct.mk Try.func18 rfl Try.ntmps18 rfl ?_
  intro W0 hW0
  have o0 : Old H H := Old.refl H
  have hs0 := hs
  unfold insV
  refine KC.seq ?_
  refine KC.region ?_
  refine KL.opM (M.box rfl rfl rfl) rfl rfl rfl ?_
  rintro _ H1 ⟨rfl, n1⟩
  have z1 := n1.2.1
  have o0 := o0.trans n1.1
  have hs := hs.old n1.1
  have b1 := n1.2.2
  have bx := b1
  refine KL.op (R.assign rfl rfl) rfl rfl rfl ?_
  refine KL.nil ?_
  refine KQ.seq ?_
  refine KC.seq ?_
  refine KC.seq ?_
  refine KC.region ?_
  refine KL.op ((by first | exact R.fieldAddr rfl Try.underlying36 rfl rfl sz5 rfl | exact R.fieldAddrP rfl Try.underlying36 rfl rfl sz5 rfl)) rfl rfl rfl ?_
  refine KL.op (R.load rfl Try.underlying5 rfl rfl (by first | exact cell_of bx rfl | assumption)) rfl rfl rfl ?_
  refine KL.call rfl rfl rfl rfl Try.call28 rfl rfl rfl (Known_k _) ?_
  rintro _ _ ⟨rfl, rfl⟩
  refine KL.op (R.not rfl rfl) rfl rfl rfl ?_
  refine KL.nil ?_
  refine KQ.seq ?_
  refine KC.condIs false rfl (by rw [hk]; rfl) ?_
  refine KC.skip ?_
  refine KQ.seq ?_
  refine KC.seq ?_
  refine KC.region ?_
  refine KL.op (R.buildArr (cs := #[(.bool false), (.bool false), (.bool false), (.bool false)]) rfl Try.underlying71 zr71 sz4 rfl (by kernel_rfl)) rfl rfl rfl ?_
  refine KL.opM (M.alloc rfl zr71 rfl) rfl rfl rfl ?_
  rintro _ H2 ⟨rfl, n2⟩
  have z2 := n2.2.1
  have o0 := o0.trans n2.1
  have hs := hs.old n2.1
  have bx := (n2.1).blk bx
  have b2 := n2.2.2
  have bq := b2
  refine KL.opS (S.storeAgg rfl sz71 rfl rfl (rfl) (by intro u hu; simp only [List.mem_cons, List.not_mem_nil, or_false] at hu; rcases hu with rfl | rfl | rfl | rfl <;> rfl) bq (by simp)) rfl rfl ?_
  rintro H3 ⟨u3, b3⟩
  have o0 := o0.upd u3 (by omega)
  have zu3 := u3.1
  have bx := ((u3).2 _ (by omega)).trans bx
  have bq := b3
  rw [over_all (by rfl)] at bq
  refine KL.nil ?_
  refine KQ.seq ?_
  refine KC.seq ?_
  refine KC.seq ?_
  refine KC.region ?_
  refine KL.op ((by first | exact R.fieldAddr rfl Try.underlying36 rfl rfl sz5 rfl | exact R.fieldAddrP rfl Try.underlying36 rfl rfl sz5 rfl)) rfl rfl rfl ?_
  refine KL.op (R.load rfl Try.underlying5 rfl rfl (by first | exact cell_of bx rfl | exact cell_of bq rfl | assumption)) rfl rfl rfl ?_
  refine KL.call rfl rfl rfl rfl Try.call29 rfl rfl rfl (Form_k _) ?_
  rintro _ _ ⟨rfl, rfl⟩
  rw [hf]
  refine KL.nil ?_
  refine KQ.seq ?_
  refine KC.block ?_
  refine KC.seq ?_
  refine KC.region ?_
  refine KL.op ((R.eql rfl rfl rfl).val (congrArg Value.bool (decide_eq_false (by decide)))) rfl rfl rfl ?_
  refine KL.op (R.assign rfl rfl) rfl rfl rfl ?_
  refine KL.nil ?_
  refine KQ.seq ?_
  refine KC.condF rfl ?_
  refine KC.seq ?_
  refine KC.seq ?_
  refine KC.region ?_
  refine KL.op ((R.eql rfl rfl rfl).val (congrArg Value.bool (decide_eq_true (by decide)))) rfl rfl rfl ?_
  refine KL.op (R.assign rfl rfl) rfl rfl rfl ?_
  refine KL.nil ?_
  refine KQ.seq ?_
  refine KC.condT rfl ?_
  refine KC.skip ?_
  refine KQ.seq ?_
  refine KC.condT rfl ?_
  refine KC.region ?_
  refine KL.op (R.indexAddrArr (j := 0) rfl Try.underlying71 sz4 rfl rfl (by first | rfl | omega) (by omega)) rfl rfl rfl ?_
  refine KL.opS (S.store rfl sz4 rfl rfl rfl rfl bq (by simp)) rfl rfl ?_
  rintro H4 ⟨u4, b4⟩
  try dsimp only at u4
  try dsimp only at b4
  have o0 := o0.upd u4 (by omega)
  have zu4 := u4.1
  have bx := ((u4).2 _ (by omega)).trans bx
  have bq := b4
  refine KL.nil ?_
  refine KQ.normBlock ?_
  refine KQ.seq ?_
  refine KC.seq ?_
  refine KC.region ?_
  refine KL.op (R.indexAddrArr (j := 0) rfl Try.underlying71 sz4 rfl rfl (by first | rfl | omega) (by omega)) rfl rfl rfl ?_
  refine KL.op (R.load rfl Try.underlying4 rfl rfl (by first | exact cell_of bx rfl | exact cell_of bq rfl | assumption)) rfl rfl rfl ?_
  refine KL.op (R.move rfl rfl) rfl rfl rfl ?_
  refine KL.skip rfl rfl rfl ?_
  refine KL.skip rfl rfl rfl ?_
  refine KL.skip rfl rfl rfl ?_
  refine KL.op (R.pick rfl rfl rfl) rfl rfl rfl ?_
  refine KL.op (R.move rfl rfl) rfl rfl rfl ?_
  refine KL.op (R.indexAddrArr (j := 1) rfl Try.underlying71 sz4 rfl rfl (by first | rfl | omega) (by omega)) rfl rfl rfl ?_
  refine KL.op (R.load rfl Try.underlying4 rfl rfl (by first | exact cell_of bx rfl | exact cell_of bq rfl | assumption)) rfl rfl rfl ?_
  refine KL.op (R.move rfl rfl) rfl rfl rfl ?_
  refine KL.op ((by first | exact R.fieldAddr rfl Try.underlying36 rfl rfl sz33 rfl | exact R.fieldAddrP rfl Try.underlying36 rfl rfl sz33 rfl)) rfl rfl rfl ?_
  refine KL.op (R.load rfl Try.underlying33 rfl rfl (by first | exact cell_of bx rfl | exact cell_of bq rfl | assumption)) rfl rfl rfl ?_
  refine KL.op (R.eql rfl rfl rfl) rfl rfl rfl ?_
  refine KL.op (R.pick rfl rfl rfl) rfl rfl rfl ?_
  refine KL.op (R.pick rfl rfl rfl) rfl rfl rfl ?_
  refine KL.op (R.move rfl rfl) rfl rfl rfl ?_
  refine KL.case (d := 70) rfl ?_ ?_
  · intro hg70
    try simp only [decide_eq_true_eq, decide_eq_false_iff_not, Bool.not_eq_true', Bool.not_eq_false', Bool.and_eq_true, Bool.or_eq_false_iff] at hg70
    refine KL.op (R.indexAddrArr (j := 2) rfl Try.underlying71 sz4 rfl rfl (by first | rfl | omega) (by omega)) rfl rfl rfl ?_
    refine KL.op (R.load rfl Try.underlying4 rfl rfl (by first | exact cell_of bx rfl | exact cell_of bq rfl | assumption)) rfl rfl rfl ?_
    refine KL.op (R.move rfl rfl) rfl rfl rfl ?_
    refine KL.op ((by first | exact R.fieldAddr rfl Try.underlying36 rfl rfl sz2 rfl | exact R.fieldAddrP rfl Try.underlying36 rfl rfl sz2 rfl)) rfl rfl rfl ?_
    refine KL.op (R.load rfl Try.underlying2 rfl rfl (by first | exact cell_of bx rfl | exact cell_of bq rfl | assumption)) rfl rfl rfl ?_
    refine KL.op (R.eql rfl rfl rfl) rfl rfl rfl ?_
    refine KL.op (R.pick rfl rfl rfl) rfl rfl rfl ?_
    refine KL.op (R.pick rfl rfl rfl) rfl rfl rfl ?_
    refine KL.op (R.move rfl rfl) rfl rfl rfl ?_
    refine KL.case (d := 79) rfl ?_ ?_
    · intro hg79
      try simp only [decide_eq_true_eq, decide_eq_false_iff_not, Bool.not_eq_true', Bool.not_eq_false', Bool.and_eq_true, Bool.or_eq_false_iff] at hg79
      refine KL.op (R.indexAddrArr (j := 3) rfl Try.underlying71 sz4 rfl rfl (by first | rfl | omega) (by omega)) rfl rfl rfl ?_
      refine KL.op (R.load rfl Try.underlying4 rfl rfl (by first | exact cell_of bx rfl | exact cell_of bq rfl | assumption)) rfl rfl rfl ?_
      refine KL.op (R.move rfl rfl) rfl rfl rfl ?_
      refine KL.op ((by first | exact R.fieldAddr rfl Try.underlying36 rfl rfl sz34 rfl | exact R.fieldAddrP rfl Try.underlying36 rfl rfl sz34 rfl)) rfl rfl rfl ?_
      refine KL.op (R.load rfl Try.underlying34 rfl rfl (by first | exact cell_of bx rfl | exact cell_of bq rfl | assumption)) rfl rfl rfl ?_
      refine KL.op (R.lenS rfl Try.underlying34 rfl hs) rfl rfl rfl ?_
      refine KL.op (R.eql rfl rfl rfl) rfl rfl rfl ?_
      refine KL.op (R.pick rfl rfl rfl) rfl rfl rfl ?_
      refine KL.op (R.pick rfl rfl rfl) rfl rfl rfl ?_
      refine KL.op (R.assign rfl rfl) rfl rfl rfl ?_
      refine KL.nil ?_
      refine KQ.seq ?_
      refine KC.ret ?_
      refine KQ.ofRet ?_
      refine KQ.fin1 Try.results18 rfl ?_
      first
        | exact ⟨⟨true, rfl, fun _ => (Isp.may_iff hx hll (fun y hy => hs0.rng y hy)).2 ⟨hk, by rw [hf]; unfold Isp.mayC; omega⟩, fun _ => rfl⟩, o0⟩
        | exact ⟨⟨false, rfl, fun h => absurd h (by decide), fun h => absurd ((Isp.may_iff hx hll (fun y hy => hs0.rng y hy)).1 h) (fun ⟨k1, k2⟩ => by rw [hf] at k2; unfold Isp.mayC at k2; omega)⟩, o0⟩
        | exact ⟨⟨_, rfl, fun h => (Isp.may_iff hx hll (fun y hy => hs0.rng y hy)).2 ⟨hk, by rw [hf]; unfold Isp.mayC; have := of_decide_eq_true h; omega⟩, fun h => by have k2 := ((Isp.may_iff hx hll (fun y hy => hs0.rng y hy)).1 h).2; rw [hf] at k2; unfold Isp.mayC at k2; exact decide_eq_true (by omega)⟩, o0⟩
    · intro hg79
      try simp only [decide_eq_true_eq, decide_eq_false_iff_not, Bool.not_eq_true', Bool.not_eq_false', Bool.and_eq_true, Bool.or_eq_false_iff] at hg79
      refine KL.skip rfl rfl rfl ?_
      refine KL.skip rfl rfl rfl ?_
      refine KL.skip rfl rfl rfl ?_
      refine KL.skip rfl rfl rfl ?_
      refine KL.skip rfl rfl rfl ?_
      refine KL.skip rfl rfl rfl ?_
      refine KL.skip rfl rfl rfl ?_
      refine KL.skip rfl rfl rfl ?_
      refine KL.op (R.pick rfl rfl rfl) rfl rfl rfl ?_
      refine KL.op (R.assign rfl rfl) rfl rfl rfl ?_
      refine KL.nil ?_
      refine KQ.seq ?_
      refine KC.ret ?_
      refine KQ.ofRet ?_
      refine KQ.fin1 Try.results18 rfl ?_
      first
        | exact ⟨⟨true, rfl, fun _ => (Isp.may_iff hx hll (fun y hy => hs0.rng y hy)).2 ⟨hk, by rw [hf]; unfold Isp.mayC; omega⟩, fun _ => rfl⟩, o0⟩
        | exact ⟨⟨false, rfl, fun h => absurd h (by decide), fun h => absurd ((Isp.may_iff hx hll (fun y hy => hs0.rng y hy)).1 h) (fun ⟨k1, k2⟩ => by rw [hf] at k2; unfold Isp.mayC at k2; omega)⟩, o0⟩
        | exact ⟨⟨_, rfl, fun h => (Isp.may_iff hx hll (fun y hy => hs0.rng y hy)).2 ⟨hk, by rw [hf]; unfold Isp.mayC; have := of_decide_eq_true h; omega⟩, fun h => by have k2 := ((Isp.may_iff hx hll (fun y hy => hs0.rng y hy)).1 h).2; rw [hf] at k2; unfold Isp.mayC at k2; exact decide_eq_true (by omega)⟩, o0⟩
  · intro hg70
    try simp only [decide_eq_true_eq, decide_eq_false_iff_not, Bool.not_eq_true', Bool.not_eq_false', Bool.and_eq_true, Bool.or_eq_false_iff] at hg70
    refine KL.skip rfl rfl rfl ?_
    refine KL.skip rfl rfl rfl ?_
    refine KL.skip rfl rfl rfl ?_
    refine KL.skip rfl rfl rfl ?_
    refine KL.skip rfl rfl rfl ?_
    refine KL.skip rfl rfl rfl ?_
    refine KL.skip rfl rfl rfl ?_
    refine KL.op (R.pick rfl rfl rfl) rfl rfl rfl ?_
    refine KL.op (R.move rfl rfl) rfl rfl rfl ?_
    refine KL.skip rfl rfl rfl ?_
    refine KL.skip rfl rfl rfl ?_
    refine KL.skip rfl rfl rfl ?_
    refine KL.skip rfl rfl rfl ?_
    refine KL.skip rfl rfl rfl ?_
    refine KL.skip rfl rfl rfl ?_
    refine KL.skip rfl rfl rfl ?_
    refine KL.skip rfl rfl rfl ?_
    refine KL.op (R.pick rfl rfl rfl) rfl rfl rfl ?_
    refine KL.op (R.assign rfl rfl) rfl rfl rfl ?_
    refine KL.nil ?_
    refine KQ.seq ?_
    refine KC.ret ?_
    refine KQ.ofRet ?_
    refine KQ.fin1 Try.results18 rfl ?_
    first
      | exact ⟨⟨true, rfl, fun _ => (Isp.may_iff hx hll (fun y hy => hs0.rng y hy)).2 ⟨hk, by rw [hf]; unfold Isp.mayC; omega⟩, fun _ => rfl⟩, o0⟩
      | exact ⟨⟨false, rfl, fun h => absurd h (by decide), fun h => absurd ((Isp.may_iff hx hll (fun y hy => hs0.rng y hy)).1 h) (fun ⟨k1, k2⟩ => by rw [hf] at k2; unfold Isp.mayC at k2; omega)⟩, o0⟩
      | exact ⟨⟨_, rfl, fun h => (Isp.may_iff hx hll (fun y hy => hs0.rng y hy)).2 ⟨hk, by rw [hf]; unfold Isp.mayC; have := of_decide_eq_true h; omega⟩, fun h => by have k2 := ((Isp.may_iff hx hll (fun y hy => hs0.rng y hy)).1 h).2; rw [hf] at k2; unfold Isp.mayC at k2; exact decide_eq_true (by omega)⟩, o0⟩

set_option maxRecDepth 100000 in
set_option maxHeartbeats 4000000 in
theorem may3 {H : Heap} {x : Ins} {vl : Value} (hx : InsR x) (hll : x.l.length < 4294967296) (hs : Sl 1 (EInt .u32) H vl x.l) (hk : Opc.known x.op = true) (hf : Opc.form x.op = 3) : Ct Try.prog 18 [insV x vl] H (fun u H' => (∃ b, u = .bool b ∧ (b = true ↔ Isp.May x)) ∧ Old H H') := by
  refine Ct.mk Try.func18 rfl Try.ntmps18 rfl ?_
  intro W0 hW0
  have o0 : Old H H := Old.refl H
  have hs0 := hs
  unfold insV
  refine KC.seq ?_
  refine KC.region ?_
  refine KL.opM (M.box rfl rfl rfl) rfl rfl rfl ?_
  rintro _ H1 ⟨rfl, n1⟩
  have z1 := n1.2.1
  have o0 := o0.trans n1.1
  have hs := hs.old n1.1
  have b1 := n1.2.2
  have bx := b1
  refine KL.op (R.assign rfl rfl) rfl rfl rfl ?_
  refine KL.nil ?_
  refine KQ.seq ?_
  refine KC.seq ?_
  refine KC.seq ?_
  refine KC.region ?_
  refine KL.op ((by first | exact R.fieldAddr rfl Try.underlying36 rfl rfl sz5 rfl | exact R.fieldAddrP rfl Try.underlying36 rfl rfl sz5 rfl)) rfl rfl rfl ?_
  refine KL.op (R.load rfl Try.underlying5 rfl rfl (by first | exact cell_of bx rfl | assumption)) rfl rfl rfl ?_
  refine KL.call rfl rfl rfl rfl Try.call28 rfl rfl rfl (Known_k _) ?_
  rintro _ _ ⟨rfl, rfl⟩
  refine KL.op (R.not rfl rfl) rfl rfl rfl ?_
  refine KL.nil ?_
  refine KQ.seq ?_
  refine KC.condIs false rfl (by rw [hk]; rfl) ?_
  refine KC.skip ?_
  refine KQ.seq ?_
  refine KC.seq ?_
  refine KC.region ?_
  refine KL.op (R.buildArr (cs := #[(.bool false), (.bool false), (.bool false), (.bool false)]) rfl Try.underlying71 zr71 sz4 rfl (by kernel_rfl)) rfl rfl rfl ?_
  refine KL.opM (M.alloc rfl zr71 rfl) rfl rfl rfl ?_
  rintro _ H2 ⟨rfl, n2⟩
  have z2 := n2.2.1
  have o0 := o0.trans n2.1
  have hs := hs.old n2.1
  have bx := (n2.1).blk bx
  have b2 := n2.2.2
  have bq := b2
  refine KL.opS (S.storeAgg rfl sz71 rfl rfl (rfl) (by intro u hu; simp only [List.mem_cons, List.not_mem_nil, or_false] at hu; rcases hu with rfl | rfl | rfl | rfl <;> rfl) bq (by simp)) rfl rfl ?_
  rintro H3 ⟨u3, b3⟩
  have o0 := o0.upd u3 (by omega)
  have zu3 := u3.1
  have bx := ((u3).2 _ (by omega)).trans bx
  have bq := b3
  rw [over_all (by rfl)] at bq
  refine KL.nil ?_
  refine KQ.seq ?_
  refine KC.seq ?_
  refine KC.seq ?_
  refine KC.region ?_
  refine KL.op ((by first | exact R.fieldAddr rfl Try.underlying36 rfl rfl sz5 rfl | exact R.fieldAddrP rfl Try.underlying36 rfl rfl sz5 rfl)) rfl rfl rfl ?_
  refine KL.op (R.load rfl Try.underlying5 rfl rfl (by first | exact cell_of bx rfl | exact cell_of bq rfl | assumption)) rfl rfl rfl ?_
  refine KL.call rfl rfl rfl rfl Try.call29 rfl rfl rfl (Form_k _) ?_
  rintro _ _ ⟨rfl, rfl⟩
  rw [hf]
  refine KL.nil ?_
  refine KQ.seq ?_
  refine KC.block ?_
  refine KC.seq ?_
  refine KC.region ?_
  refine KL.op ((R.eql rfl rfl rfl).val (congrArg Value.bool (decide_eq_false (by decide)))) rfl rfl rfl ?_
  refine KL.op (R.assign rfl rfl) rfl rfl rfl ?_
  refine KL.nil ?_
  refine KQ.seq ?_
  refine KC.condF rfl ?_
  refine KC.seq ?_
  refine KC.seq ?_
  refine KC.region ?_
  refine KL.op ((R.eql rfl rfl rfl).val (congrArg Value.bool (decide_eq_false (by decide)))) rfl rfl rfl ?_
  refine KL.op (R.assign rfl rfl) rfl rfl rfl ?_
  refine KL.nil ?_
  refine KQ.seq ?_
  refine KC.condF rfl ?_
  refine KC.seq ?_
  refine KC.region ?_
  refine KL.op ((R.eql rfl rfl rfl).val (congrArg Value.bool (decide_eq_false (by decide)))) rfl rfl rfl ?_
  refine KL.op (R.assign rfl rfl) rfl rfl rfl ?_
  refine KL.nil ?_
  refine KQ.seq ?_
  refine KC.condF rfl ?_
  refine KC.region ?_
  refine KL.op ((R.eql rfl rfl rfl).val (congrArg Value.bool (decide_eq_false (by decide)))) rfl rfl rfl ?_
  refine KL.op (R.assign rfl rfl) rfl rfl rfl ?_
  refine KL.nil ?_
  refine KQ.seq ?_
  refine KC.condF rfl ?_
  refine KC.seq ?_
  refine KC.region ?_
  refine KL.op ((R.eql rfl rfl rfl).val (congrArg Value.bool (decide_eq_true (by decide)))) rfl rfl rfl ?_
  refine KL.op (R.assign rfl rfl) rfl rfl rfl ?_
  refine KL.nil ?_
  refine KQ.seq ?_
  refine KC.condT rfl ?_
  refine KC.region ?_
  refine KL.op (R.indexAddrArr (j := 0) rfl Try.underlying71 sz4 rfl rfl (by first | rfl | omega) (by omega)) rfl rfl rfl ?_
  refine KL.opS (S.store rfl sz4 rfl rfl rfl rfl bq (by simp)) rfl rfl ?_
  rintro H4 ⟨u4, b4⟩
  try dsimp only at u4
  try dsimp only at b4
  have o0 := o0.upd u4 (by omega)
  have zu4 := u4.1
  have bx := ((u4).2 _ (by omega)).trans bx
  have bq := b4
  refine KL.op (R.indexAddrArr (j := 3) rfl Try.underlying71 sz4 rfl rfl (by first | rfl | omega) (by omega)) rfl rfl rfl ?_
  refine KL.opS (S.store rfl sz4 rfl rfl rfl rfl bq (by simp)) rfl rfl ?_
  rintro H5 ⟨u5, b5⟩
  try dsimp only at u5
  try dsimp only at b5
  have o0 := o0.upd u5 (by omega)
  have zu5 := u5.1
  have bx := ((u5).2 _ (by omega)).trans bx
  have bq := b5
  refine KL.nil ?_
  refine KQ.normBlock ?_
  refine KQ.seq ?_
  refine KC.seq ?_
  refine KC.region ?_
  refine KL.op (R.indexAddrArr (j := 0) rfl Try.underlying71 sz4 rfl rfl (by first | rfl | omega) (by omega)) rfl rfl rfl ?_
  refine KL.op (R.load rfl Try.underlying4 rfl rfl (by first | exact cell_of bx rfl | exact cell_of bq rfl | assumption)) rfl rfl rfl ?_
  refine KL.op (R.move rfl rfl) rfl rfl rfl ?_
  refine KL.skip rfl rfl rfl ?_
  refine KL.skip rfl rfl rfl ?_
  refine KL.skip rfl rfl rfl ?_
  refine KL.op (R.pick rfl rfl rfl) rfl rfl rfl ?_
  refine KL.op (R.move rfl rfl) rfl rfl rfl ?_
  refine KL.op (R.indexAddrArr (j := 1) rfl Try.underlying71 sz4 rfl rfl (by first | rfl | omega) (by omega)) rfl rfl rfl ?_
  refine KL.op (R.load rfl Try.underlying4 rfl rfl (by first | exact cell_of bx rfl | exact cell_of bq rfl | assumption)) rfl rfl rfl ?_
  refine KL.op (R.move rfl rfl) rfl rfl rfl ?_
  refine KL.op ((by first | exact R.fieldAddr rfl Try.underlying36 rfl rfl sz33 rfl | exact R.fieldAddrP rfl Try.underlying36 rfl rfl sz33 rfl)) rfl rfl rfl ?_
  refine KL.op (R.load rfl Try.underlying33 rfl rfl (by first | exact cell_of bx rfl | exact cell_of bq rfl | assumption)) rfl rfl rfl ?_
  refine KL.op (R.eql rfl rfl rfl) rfl rfl rfl ?_
  refine KL.op (R.pick rfl rfl rfl) rfl rfl rfl ?_
  refine KL.op (R.pick rfl rfl rfl) rfl rfl rfl ?_
  refine KL.op (R.move rfl rfl) rfl rfl rfl ?_
  refine KL.case (d := 70) rfl ?_ ?_
  · intro hg70
    try simp only [decide_eq_true_eq, decide_eq_false_iff_not, Bool.not_eq_true', Bool.not_eq_false', Bool.and_eq_true, Bool.or_eq_false_iff] at hg70
    refine KL.op (R.indexAddrArr (j := 2) rfl Try.underlying71 sz4 rfl rfl (by first | rfl | omega) (by omega)) rfl rfl rfl ?_
    refine KL.op (R.load rfl Try.underlying4 rfl rfl (by first | exact cell_of bx rfl | exact cell_of bq rfl | assumption)) rfl rfl rfl ?_
    refine KL.op (R.move rfl rfl) rfl rfl rfl ?_
    refine KL.op ((by first | exact R.fieldAddr rfl Try.underlying36 rfl rfl sz2 rfl | exact R.fieldAddrP rfl Try.underlying36 rfl rfl sz2 rfl)) rfl rfl rfl ?_
    refine KL.op (R.load rfl Try.underlying2 rfl rfl (by first | exact cell_of bx rfl | exact cell_of bq rfl | assumption)) rfl rfl rfl ?_
    refine KL.op (R.eql rfl rfl rfl) rfl rfl rfl ?_
    refine KL.op (R.pick rfl rfl rfl) rfl rfl rfl ?_
    refine KL.op (R.pick rfl rfl rfl) rfl rfl rfl ?_
    refine KL.op (R.move rfl rfl) rfl rfl rfl ?_
    refine KL.case (d := 79) rfl ?_ ?_
    · intro hg79
      try simp only [decide_eq_true_eq, decide_eq_false_iff_not, Bool.not_eq_true', Bool.not_eq_false', Bool.and_eq_true, Bool.or_eq_false_iff] at hg79
      refine KL.op (R.indexAddrArr (j := 3) rfl Try.underlying71 sz4 rfl rfl (by first | rfl | omega) (by omega)) rfl rfl rfl ?_
      refine KL.op (R.load rfl Try.underlying4 rfl rfl (by first | exact cell_of bx rfl | exact cell_of bq rfl | assumption)) rfl rfl rfl ?_
      refine KL.op (R.move rfl rfl) rfl rfl rfl ?_
      refine KL.skip rfl rfl rfl ?_
      refine KL.skip rfl rfl rfl ?_
      refine KL.skip rfl rfl rfl ?_
      refine KL.skip rfl rfl rfl ?_
      refine KL.op (R.pick rfl rfl rfl) rfl rfl rfl ?_
      refine KL.op (R.pick rfl rfl rfl) rfl rfl rfl ?_
      refine KL.op (R.assign rfl rfl) rfl rfl rfl ?_
      refine KL.nil ?_
      refine KQ.seq ?_
      refine KC.ret ?_
      refine KQ.ofRet ?_
      refine KQ.fin1 Try.results18 rfl ?_
      first
        | exact ⟨⟨true, rfl, fun _ => (Isp.may_iff hx hll (fun y hy => hs0.rng y hy)).2 ⟨hk, by rw [hf]; unfold Isp.mayC; omega⟩, fun _ => rfl⟩, o0⟩
        | exact ⟨⟨false, rfl, fun h => absurd h (by decide), fun h => absurd ((Isp.may_iff hx hll (fun y hy => hs0.rng y hy)).1 h) (fun ⟨k1, k2⟩ => by rw [hf] at k2; unfold Isp.mayC at k2; omega)⟩, o0⟩
        | exact ⟨⟨_, rfl, fun h => (Isp.may_iff hx hll (fun y hy => hs0.rng y hy)).2 ⟨hk, by rw [hf]; unfold Isp.mayC; have := of_decide_eq_true h; omega⟩, fun h => by have k2 := ((Isp.may_iff hx hll (fun y hy => hs0.rng y hy)).1 h).2; rw [hf] at k2; unfold Isp.mayC at k2; exact decide_eq_true (by omega)⟩, o0⟩
    · intro hg79
      try simp only [decide_eq_true_eq, decide_eq_false_iff_not, Bool.not_eq_true', Bool.not_eq_false', Bool.and_eq_true, Bool.or_eq_false_iff] at hg79
      refine KL.skip rfl rfl rfl ?_
      refine KL.skip rfl rfl rfl ?_
      refine KL.skip rfl rfl rfl ?_
      refine KL.skip rfl rfl rfl ?_
      refine KL.skip rfl rfl rfl ?_
      refine KL.skip rfl rfl rfl ?_
      refine KL.skip rfl rfl rfl ?_
      refine KL.skip rfl rfl rfl ?_
      refine KL.op (R.pick rfl rfl rfl) rfl rfl rfl ?_
      refine KL.op (R.assign rfl rfl) rfl rfl rfl ?_
      refine KL.nil ?_
      refine KQ.seq ?_
      refine KC.ret ?_
      refine KQ.ofRet ?_
      refine KQ.fin1 Try.results18 rfl ?_
      first
        | exact ⟨⟨true, rfl, fun _ => (Isp.may_iff hx hll (fun y hy => hs0.rng y hy)).2 ⟨hk, by rw [hf]; unfold Isp.mayC; omega⟩, fun _ => rfl⟩, o0⟩
        | exact ⟨⟨false, rfl, fun h => absurd h (by decide), fun h => absurd ((Isp.may_iff hx hll (fun y hy => hs0.rng y hy)).1 h) (fun ⟨k1, k2⟩ => by rw [hf] at k2; unfold Isp.mayC at k2; omega)⟩, o0⟩
        | exact ⟨⟨_, rfl, fun h => (Isp.may_iff hx hll (fun y hy => hs0.rng y hy)).2 ⟨hk, by rw [hf]; unfold Isp.mayC; have := of_decide_eq_true h; omega⟩, fun h => by have k2 := ((Isp.may_iff hx hll (fun y hy => hs0.rng y hy)).1 h).2; rw [hf] at k2; unfold Isp.mayC at k2; exact decide_eq_true (by omega)⟩, o0⟩
  · intro hg70
    try simp only [decide_eq_true_eq, decide_eq_false_iff_not, Bool.not_eq_true', Bool.not_eq_false', Bool.and_eq_true, Bool.or_eq_false_iff] at hg70
    refine KL.skip rfl rfl rfl ?_
    refine KL.skip rfl rfl rfl ?_
    refine KL.skip rfl rfl rfl ?_
    refine KL.skip rfl rfl rfl ?_
    refine KL.skip rfl rfl rfl ?_
    refine KL.skip rfl rfl rfl ?_
    refine KL.skip rfl rfl rfl ?_
    refine KL.op (R.pick rfl rfl rfl) rfl rfl rfl ?_
    refine KL.op (R.move rfl rfl) rfl rfl rfl ?_
    refine KL.skip rfl rfl rfl ?_
    refine KL.skip rfl rfl rfl ?_
    refine KL.skip rfl rfl rfl ?_
    refine KL.skip rfl rfl rfl ?_
    refine KL.skip rfl rfl rfl ?_
    refine KL.skip rfl rfl rfl ?_
    refine KL.skip rfl rfl rfl ?_
    refine KL.skip rfl rfl rfl ?_
    refine KL.op (R.pick rfl rfl rfl) rfl rfl rfl ?_
    refine KL.op (R.assign rfl rfl) rfl rfl rfl ?_
    refine KL.nil ?_
    refine KQ.seq ?_
    refine KC.ret ?_
    refine KQ.ofRet ?_
    refine KQ.fin1 Try.results18 rfl ?_
    first
      | exact ⟨⟨true, rfl, fun _ => (Isp.may_iff hx hll (fun y hy => hs0.rng y hy)).2 ⟨hk, by rw [hf]; unfold Isp.mayC; omega⟩, fun _ => rfl⟩, o0⟩
      | exact ⟨⟨false, rfl, fun h => absurd h (by decide), fun h => absurd ((Isp.may_iff hx hll (fun y hy => hs0.rng y hy)).1 h) (fun ⟨k1, k2⟩ => by rw [hf] at k2; unfold Isp.mayC at k2; omega)⟩, o0⟩
      | exact ⟨⟨_, rfl, fun h => (Isp.may_iff hx hll (fun y hy => hs0.rng y hy)).2 ⟨hk, by rw [hf]; unfold Isp.mayC; have := of_decide_eq_true h; omega⟩, fun h => by have k2 := ((Isp.may_iff hx hll (fun y hy => hs0.rng y hy)).1 h).2; rw [hf] at k2; unfold Isp.mayC at k2; exact decide_eq_true (by omega)⟩, o0⟩

set_option maxRecDepth 100000 in
set_option maxHeartbeats 4000000 in
theorem may4 {H : Heap} {x : Ins} {vl : Value} (hx : InsR x) (hll : x.l.length < 4294967296) (hs : Sl 1 (EInt .u32) H vl x.l) (hk : Opc.known x.op = true) (hf : Opc.form x.op = 4) : Ct Try.prog 18 [insV x vl] H (fun u H' => (∃ b, u = .bool b ∧ (b = true ↔ Isp.May x)) ∧ Old H H') := by
  refine Ct.mk Try.func18 rfl Try.ntmps18 rfl ?_
  intro W0 hW0
  have o0 : Old H H := Old.refl H
  have hs0 := hs
  unfold insV
  refine KC.seq ?_
  refine KC.region ?_
  refine KL.opM (M.box rfl rfl rfl) rfl rfl rfl ?_
  rintro _ H1 ⟨rfl, n1⟩
  have z1 := n1.2.1
  have o0 := o0.trans n1.1
  have hs := hs.old n1.1
  have b1 := n1.2.2
  have bx := b1
  refine KL.op (R.assign rfl rfl) rfl rfl rfl ?_
  refine KL.nil ?_
  refine KQ.seq ?_
  refine KC.seq ?_
  refine KC.seq ?_
  refine KC.region ?_
  refine KL.op ((by first | exact R.fieldAddr rfl Try.underlying36 rfl rfl sz5 rfl | exact R.fieldAddrP rfl Try.underlying36 rfl rfl sz5 rfl)) rfl rfl rfl ?_
  refine KL.op (R.load rfl Try.underlying5 rfl rfl (by first | exact cell_of bx rfl | assumption)) rfl rfl rfl ?_
  refine KL.call rfl rfl rfl rfl Try.call28 rfl rfl rfl (Known_k _) ?_
  rintro _ _ ⟨rfl, rfl⟩
  refine KL.op (R.not rfl rfl) rfl rfl rfl ?_
  refine KL.nil ?_
  refine KQ.seq ?_
  refine KC.condIs false rfl (by rw [hk]; rfl) ?_
  refine KC.skip ?_
  refine KQ.seq ?_
  refine KC.seq ?_
  refine KC.region ?_
  refine KL.op (R.buildArr (cs := #[(.bool false), (.bool false), (.bool false), (.bool false)]) rfl Try.underlying71 zr71 sz4 rfl (by kernel_rfl)) rfl rfl rfl ?_
  refine KL.opM (M.alloc rfl zr71 rfl) rfl rfl rfl ?_
  rintro _ H2 ⟨rfl, n2⟩
  have z2 := n2.2.1
  have o0 := o0.trans n2.1
  have hs := hs.old n2.1
  have bx := (n2.1).blk bx
  have b2 := n2.2.2
  have bq := b2
  refine KL.opS (S.storeAgg rfl sz71 rfl rfl (rfl) (by intro u hu; simp only [List.mem_cons, List.not_mem_nil, or_false] at hu; rcases hu with rfl | rfl | rfl | rfl <;> rfl) bq (by simp)) rfl rfl ?_
  rintro H3 ⟨u3, b3⟩
  have o0 := o0.upd u3 (by omega)
  have zu3 := u3.1
  have bx := ((u3).2 _ (by omega)).trans bx
  have bq := b3
  rw [over_all (by rfl)] at bq
  refine KL.nil ?_
  refine KQ.seq ?_
  refine KC.seq ?_
  refine KC.seq ?_
  refine KC.region ?_
  refine KL.op ((by first | exact R.fieldAddr rfl Try.underlying36 rfl rfl sz5 rfl | exact R.fieldAddrP rfl Try.underlying36 rfl rfl sz5 rfl)) rfl rfl rfl ?_
  refine KL.op (R.load rfl Try.underlying5 rfl rfl (by first | exact cell_of bx rfl | exact cell_of bq rfl | assumption)) rfl rfl rfl ?_
  refine KL.call rfl rfl rfl rfl Try.call29 rfl rfl rfl (Form_k _) ?_
  rintro _ _ ⟨rfl, rfl⟩
  rw [hf]
  refine KL.nil ?_
  refine KQ.seq ?_
  refine KC.block ?_
  refine KC.seq ?_
  refine KC.region ?_
  refine KL.op ((R.eql rfl rfl rfl).val (congrArg Value.bool (decide_eq_false (by decide)))) rfl rfl rfl ?_
  refine KL.op (R.assign rfl rfl) rfl rfl rfl ?_
  refine KL.nil ?_
  refine KQ.seq ?_
  refine KC.condF rfl ?_
  refine KC.seq ?_
  refine KC.seq ?_
  refine KC.region ?_
  refine KL.op ((R.eql rfl rfl rfl).val (congrArg Value.bool (decide_eq_false (by decide)))) rfl rfl rfl ?_
  refine KL.op (R.assign rfl rfl) rfl rfl rfl ?_
  refine KL.nil ?_
  refine KQ.seq ?_
  refine KC.condF rfl ?_
  refine KC.seq ?_
  refine KC.region ?_
  refine KL.op ((R.eql rfl rfl rfl).val (congrArg Value.bool (decide_eq_true (by decide)))) rfl rfl rfl ?_
  refine KL.op (R.assign rfl rfl) rfl rfl rfl ?_
  refine KL.nil ?_
  refine KQ.seq ?_
  refine KC.condT rfl ?_
  refine KC.skip ?_
  refine KQ.seq ?_
  refine KC.condT rfl ?_
  refine KC.region ?_
  refine KL.op (R.indexAddrArr (j := 0) rfl Try.underlying71 sz4 rfl rfl (by first | rfl | omega) (by omega)) rfl rfl rfl ?_
  refine KL.opS (S.store rfl sz4 rfl rfl rfl rfl bq (by simp)) rfl rfl ?_
  rintro H4 ⟨u4, b4⟩
  try dsimp only at u4
  try dsimp only at b4
  have o0 := o0.upd u4 (by omega)
  have zu4 := u4.1
  have bx := ((u4).2 _ (by omega)).trans bx
  have bq := b4
  refine KL.nil ?_
  refine KQ.normBlock ?_
  refine KQ.seq ?_
  refine KC.seq ?_
  refine KC.region ?_
  refine KL.op (R.indexAddrArr (j := 0) rfl Try.underlying71 sz4 rfl rfl (by first | rfl | omega) (by omega)) rfl rfl rfl ?_
  refine KL.op (R.load rfl Try.underlying4 rfl rfl (by first | exact cell_of bx rfl | exact cell_of bq rfl | assumption)) rfl rfl rfl ?_
  refine KL.op (R.move rfl rfl) rfl rfl rfl ?_
  refine KL.skip rfl rfl rfl ?_
  refine KL.skip rfl rfl rfl ?_
  refine KL.skip rfl rfl rfl ?_
  refine KL.op (R.pick rfl rfl rfl) rfl rfl rfl ?_
  refine KL.op (R.move rfl rfl) rfl rfl rfl ?_
  refine KL.op (R.indexAddrArr (j := 1) rfl Try.underlying71 sz4 rfl rfl (by first | rfl | omega) (by omega)) rfl rfl rfl ?_
  refine KL.op (R.load rfl Try.underlying4 rfl rfl (by first | exact cell_of bx rfl | exact cell_of bq rfl | assumption)) rfl rfl rfl ?_
  refine KL.op (R.move rfl rfl) rfl rfl rfl ?_
  refine KL.op ((by first | exact R.fieldAddr rfl Try.underlying36 rfl rfl sz33 rfl | exact R.fieldAddrP rfl Try.underlying36 rfl rfl sz33 rfl)) rfl rfl rfl ?_
  refine KL.op (R.load rfl Try.underlying33 rfl rfl (by first | exact cell_of bx rfl | exact cell_of bq rfl | assumption)) rfl rfl rfl ?_
  refine KL.op (R.eql rfl rfl rfl) rfl rfl rfl ?_
  refine KL.op (R.pick rfl rfl rfl) rfl rfl rfl ?_
  refine KL.op (R.pick rfl rfl rfl) rfl rfl rfl ?_
  refine KL.op (R.move rfl rfl) rfl rfl rfl ?_
  refine KL.case (d := 70) rfl ?_ ?_
  · intro hg70
    try simp only [decide_eq_true_eq, decide_eq_false_iff_not, Bool.not_eq_true', Bool.not_eq_false', Bool.and_eq_true, Bool.or_eq_false_iff] at hg70
    refine KL.op (R.indexAddrArr (j := 2) rfl Try.underlying71 sz4 rfl rfl (by first | rfl | omega) (by omega)) rfl rfl rfl ?_
    refine KL.op (R.load rfl Try.underlying4 rfl rfl (by first | exact cell_of bx rfl | exact cell_of bq rfl | assumption)) rfl rfl rfl ?_
    refine KL.op (R.move rfl rfl) rfl rfl rfl ?_
    refine KL.op ((by first | exact R.fieldAddr rfl Try.underlying36 rfl rfl sz2 rfl | exact R.fieldAddrP rfl Try.underlying36 rfl rfl sz2 rfl)) rfl rfl rfl ?_
    refine KL.op (R.load rfl Try.underlying2 rfl rfl (by first | exact cell_of bx rfl | exact cell_of bq rfl | assumption)) rfl rfl rfl ?_
    refine KL.op (R.eql rfl rfl rfl) rfl rfl rfl ?_
    refine KL.op (R.pick rfl rfl rfl) rfl rfl rfl ?_
    refine KL.op (R.pick rfl rfl rfl) rfl rfl rfl ?_
    refine KL.op (R.move rfl rfl) rfl rfl rfl ?_
    refine KL.case (d := 79) rfl ?_ ?_
    · intro hg79
      try simp only [decide_eq_true_eq, decide_eq_false_iff_not, Bool.not_eq_true', Bool.not_eq_false', Bool.and_eq_true, Bool.or_eq_false_iff] at hg79
      refine KL.op (R.indexAddrArr (j := 3) rfl Try.underlying71 sz4 rfl rfl (by first | rfl | omega) (by omega)) rfl rfl rfl ?_
      refine KL.op (R.load rfl Try.underlying4 rfl rfl (by first | exact cell_of bx rfl | exact cell_of bq rfl | assumption)) rfl rfl rfl ?_
      refine KL.op (R.move rfl rfl) rfl rfl rfl ?_
      refine KL.op ((by first | exact R.fieldAddr rfl Try.underlying36 rfl rfl sz34 rfl | exact R.fieldAddrP rfl Try.underlying36 rfl rfl sz34 rfl)) rfl rfl rfl ?_
      refine KL.op (R.load rfl Try.underlying34 rfl rfl (by first | exact cell_of bx rfl | exact cell_of bq rfl | assumption)) rfl rfl rfl ?_
      refine KL.op (R.lenS rfl Try.underlying34 rfl hs) rfl rfl rfl ?_
      refine KL.op (R.eql rfl rfl rfl) rfl rfl rfl ?_
      refine KL.op (R.pick rfl rfl rfl) rfl rfl rfl ?_
      refine KL.op (R.pick rfl rfl rfl) rfl rfl rfl ?_
      refine KL.op (R.assign rfl rfl) rfl rfl rfl ?_
      refine KL.nil ?_
      refine KQ.seq ?_
      refine KC.ret ?_
      refine KQ.ofRet ?_
      refine KQ.fin1 Try.results18 rfl ?_
      first
        | exact ⟨⟨true, rfl, fun _ => (Isp.may_iff hx hll (fun y hy => hs0.rng y hy)).2 ⟨hk, by rw [hf]; unfold Isp.mayC; omega⟩, fun _ => rfl⟩, o0⟩
        | exact ⟨⟨false, rfl, fun h => absurd h (by decide), fun h => absurd ((Isp.may_iff hx hll (fun y hy => hs0.rng y hy)).1 h) (fun ⟨k1, k2⟩ => by rw [hf] at k2; unfold Isp.mayC at k2; omega)⟩, o0⟩
        | exact ⟨⟨_, rfl, fun h => (Isp.may_iff hx hll (fun y hy => hs0.rng y hy)).2 ⟨hk, by rw [hf]; unfold Isp.mayC; have := of_decide_eq_true h; omega⟩, fun h => by have k2 := ((Isp.may_iff hx hll (fun y hy => hs0.rng y hy)).1 h).2; rw [hf] at k2; unfold Isp.mayC at k2; exact decide_eq_true (by omega)⟩, o0⟩
    · intro hg79
      try simp only [decide_eq_true_eq, decide_eq_false_iff_not, Bool.not_eq_true', Bool.not_eq_false', Bool.and_eq_true, Bool.or_eq_false_iff] at hg79
      refine KL.skip rfl rfl rfl ?_
      refine KL.skip rfl rfl rfl ?_
      refine KL.skip rfl rfl rfl ?_
      refine KL.skip rfl rfl rfl ?_
      refine KL.skip rfl rfl rfl ?_
      refine KL.skip rfl rfl rfl ?_
      refine KL.skip rfl rfl rfl ?_
      refine KL.skip rfl rfl rfl ?_
      refine KL.op (R.pick rfl rfl rfl) rfl rfl rfl ?_
      refine KL.op (R.assign rfl rfl) rfl rfl rfl ?_
      refine KL.nil ?_
      refine KQ.seq ?_
      refine KC.ret ?_
      refine KQ.ofRet ?_
      refine KQ.fin1 Try.results18 rfl ?_
      first
        | exact ⟨⟨true, rfl, fun _ => (Isp.may_iff hx hll (fun y hy => hs0.rng y hy)).2 ⟨hk, by rw [hf]; unfold Isp.mayC; omega⟩, fun _ => rfl⟩, o0⟩
        | exact ⟨⟨false, rfl, fun h => absurd h (by decide), fun h => absurd ((Isp.may_iff hx hll (fun y hy => hs0.rng y hy)).1 h) (fun ⟨k1, k2⟩ => by rw [hf] at k2; unfold Isp.mayC at k2; omega)⟩, o0⟩
        | exact ⟨⟨_, rfl, fun h => (Isp.may_iff hx hll (fun y hy => hs0.rng y hy)).2 ⟨hk, by rw [hf]; unfold Isp.mayC; have := of_decide_eq_true h; omega⟩, fun h => by have k2 := ((Isp.may_iff hx hll (fun y hy => hs0.rng y hy)).1 h).2; rw [hf] at k2; unfold Isp.mayC at k2; exact decide_eq_true (by omega)⟩, o0⟩
  · intro hg70
    try simp only [decide_eq_true_eq, decide_eq_false_iff_not, Bool.not_eq_true', Bool.not_eq_false', Bool.and_eq_true, Bool.or_eq_false_iff] at hg70
    refine KL.skip rfl rfl rfl ?_
    refine KL.skip rfl rfl rfl ?_
    refine KL.skip rfl rfl rfl ?_
    refine KL.skip rfl rfl rfl ?_
    refine KL.skip rfl rfl rfl ?_
    refine KL.skip rfl rfl rfl ?_
    refine KL.skip rfl rfl rfl ?_
    refine KL.op (R.pick rfl rfl rfl) rfl rfl rfl ?_
    refine KL.op (R.move rfl rfl) rfl rfl rfl ?_
    refine KL.skip rfl rfl rfl ?_
    refine KL.skip rfl rfl rfl ?_
    refine KL.skip rfl rfl rfl ?_
    refine KL.skip rfl rfl rfl ?_
    refine KL.skip rfl rfl rfl ?_
    refine KL.skip rfl rfl rfl ?_
    refine KL.skip rfl rfl rfl ?_
    refine KL.skip rfl rfl rfl ?_
    refine KL.op (R.pick rfl rfl rfl) rfl rfl rfl ?_
    refine KL.op (R.assign rfl rfl) rfl rfl rfl ?_
    refine KL.nil ?_
    refine KQ.seq ?_
    refine KC.ret ?_
    refine KQ.ofRet ?_
    refine KQ.fin1 Try.results18 rfl ?_
    first
      | exact ⟨⟨true, rfl, fun _ => (Isp.may_iff hx hll (fun y hy => hs0.rng y hy)).2 ⟨hk, by rw [hf]; unfold Isp.mayC; omega⟩, fun _ => rfl⟩, o0⟩
      | exact ⟨⟨false, rfl, fun h => absurd h (by decide), fun h => absurd ((Isp.may_iff hx hll (fun y hy => hs0.rng y hy)).1 h) (fun ⟨k1, k2⟩ => by rw [hf] at k2; unfold Isp.mayC at k2; omega)⟩, o0⟩
      | exact ⟨⟨_, rfl, fun h => (Isp.may_iff hx hll (fun y hy => hs0.rng y hy)).2 ⟨hk, by rw [hf]; unfold Isp.mayC; have := of_decide_eq_true h; omega⟩, fun h => by have k2 := ((Isp.may_iff hx hll (fun y hy => hs0.rng y hy)).1 h).2; rw [hf] at k2; unfold Isp.mayC at k2; exact decide_eq_true (by omega)⟩, o0⟩

set_option maxRecDepth 100000 in
set_option maxHeartbeats 4000000 in
theorem may5 {H : Heap} {x : Ins} {vl : Value} (hx : InsR x) (hll : x.l.length < 4294967296) (hs : Sl 1 (EInt .u32) H vl x.l) (hk : Opc.known x.op = true) (hf : Opc.form x.op = 5) : Ct Try.prog 18 [insV x vl] H (fun u H' => (∃ b, u = .bool b ∧ (b = true ↔ Isp.May x)) ∧ Old H H') := by
  refine Ct.mk Try.func18 rfl Try.ntmps18 rfl ?_
  intro W0 hW0
  have o0 : Old H H := Old.refl H
  have hs0 := hs
  unfold insV
  refine KC.seq ?_
  refine KC.region ?_
  refine KL.opM (M.box rfl rfl rfl) rfl rfl rfl ?_
  rintro _ H1 ⟨rfl, n1⟩
  have z1 := n1.2.1
  have o0 := o0.trans n1.1
  have hs := hs.old n1.1
  have b1 := n1.2.2
  have bx := b1
  refine KL.op (R.assign rfl rfl) rfl rfl rfl ?_
  refine KL.nil ?_
  refine KQ.seq ?_
  refine KC.seq ?_
  refine KC.seq ?_
  refine KC.region ?_
  refine KL.op ((by first | exact R.fieldAddr rfl Try.underlying36 rfl rfl sz5 rfl | exact R.fieldAddrP rfl Try.underlying36 rfl rfl sz5 rfl)) rfl rfl rfl ?_
  refine KL.op (R.load rfl Try.underlying5 rfl rfl (by first | exact cell_of bx rfl | assumption)) rfl rfl rfl ?_
  refine KL.call rfl rfl rfl rfl Try.call28 rfl rfl rfl (Known_k _) ?_
  rintro _ _ ⟨rfl, rfl⟩
  refine KL.op (R.not rfl rfl) rfl rfl rfl ?_
  refine KL.nil ?_
  refine KQ.seq ?_
  refine KC.condIs false rfl (by rw [hk]; rfl) ?_
  refine KC.skip ?_
  refine KQ.seq ?_
  refine KC.seq ?_
  refine KC.region ?_
  refine KL.op (R.buildArr (cs := #[(.bool false), (.bool false), (.bool false), (.bool false)]) rfl Try.underlying71 zr71 sz4 rfl (by kernel_rfl)) rfl rfl rfl ?_
  refine KL.opM (M.alloc rfl zr71 rfl) rfl rfl rfl ?_
  rintro _ H2 ⟨rfl, n2⟩
  have z2 := n2.2.1
  have o0 := o0.trans n2.1
  have hs := hs.old n2.1
  have bx := (n2.1).blk bx
  have b2 := n2.2.2
  have bq := b2
  refine KL.opS (S.storeAgg rfl sz71 rfl rfl (rfl) (by intro u hu; simp only [List.mem_cons, List.not_mem_nil, or_false] at hu; rcases hu with rfl | rfl | rfl | rfl <;> rfl) bq (by simp)) rfl rfl ?_
  rintro H3 ⟨u3, b3⟩
  have o0 := o0.upd u3 (by omega)
  have zu3 := u3.1
  have bx := ((u3).2 _ (by omega)).trans bx
  have bq := b3
  rw [over_all (by rfl)] at bq
  refine KL.nil ?_
  refine KQ.seq ?_
  refine KC.seq ?_
  refine KC.seq ?_
  refine KC.region ?_
  refine KL.op ((by first | exact R.fieldAddr rfl Try.underlying36 rfl rfl sz5 rfl | exact R.fieldAddrP rfl Try.underlying36 rfl rfl sz5 rfl)) rfl rfl rfl ?_
  refine KL.op (R.load rfl Try.underlying5 rfl rfl (by first | exact cell_of bx rfl | exact cell_of bq rfl | assumption)) rfl rfl rfl ?_
  refine KL.call rfl rfl rfl rfl Try.call29 rfl rfl rfl (Form_k _) ?_
  rintro _ _ ⟨rfl, rfl⟩
  rw [hf]
  refine KL.nil ?_
  refine KQ.seq ?_
  refine KC.block ?_
  refine KC.seq ?_
  refine KC.region ?_
  refine KL.op ((R.eql rfl rfl rfl).val (congrArg Value.bool (decide_eq_false (by decide)))) rfl rfl rfl ?_
  refine KL.op (R.assign rfl rfl) rfl rfl rfl ?_
  refine KL.nil ?_
  refine KQ.seq ?_
  refine KC.condF rfl ?_
  refine KC.seq ?_
  refine KC.seq ?_
  refine KC.region ?_
  refine KL.op ((R.eql rfl rfl rfl).val (congrArg Value.bool (decide_eq_false (by decide)))) rfl rfl rfl ?_
  refine KL.op (R.assign rfl rfl) rfl rfl rfl ?_
  refine KL.nil ?_
  refine KQ.seq ?_
  refine KC.condF rfl ?_
  refine KC.seq ?_
  refine KC.region ?_
  refine KL.op ((R.eql rfl rfl rfl).val (congrArg Value.bool (decide_eq_false (by decide)))) rfl rfl rfl ?_
  refine KL.op (R.assign rfl rfl) rfl rfl rfl ?_
  refine KL.nil ?_
  refine KQ.seq ?_
  refine KC.condF rfl ?_
  refine KC.region ?_
  refine KL.op ((R.eql rfl rfl rfl).val (congrArg Value.bool (decide_eq_true (by decide)))) rfl rfl rfl ?_
  refine KL.op (R.assign rfl rfl) rfl rfl rfl ?_
  refine KL.nil ?_
  refine KQ.seq ?_
  refine KC.condT rfl ?_
  refine KC.region ?_
  refine KL.op (R.indexAddrArr (j := 0) rfl Try.underlying71 sz4 rfl rfl (by first | rfl | omega) (by omega)) rfl rfl rfl ?_
  refine KL.opS (S.store rfl sz4 rfl rfl rfl rfl bq (by simp)) rfl rfl ?_
  rintro H4 ⟨u4, b4⟩
  try dsimp only at u4
  try dsimp only at b4
  have o0 := o0.upd u4 (by omega)
  have zu4 := u4.1
  have bx := ((u4).2 _ (by omega)).trans bx
  have bq := b4
  refine KL.nil ?_
  refine KQ.normBlock ?_
  refine KQ.seq ?_
  refine KC.seq ?_
  refine KC.region ?_
  refine KL.op (R.indexAddrArr (j := 0) rfl Try.underlying71 sz4 rfl rfl (by first | rfl | omega) (by omega)) rfl rfl rfl ?_
  refine KL.op (R.load rfl Try.underlying4 rfl rfl (by first | exact cell_of bx rfl | exact cell_of bq rfl | assumption)) rfl rfl rfl ?_
  refine KL.op (R.move rfl rfl) rfl rfl rfl ?_
  refine KL.skip rfl rfl rfl ?_
  refine KL.skip rfl rfl rfl ?_
  refine KL.skip rfl rfl rfl ?_
  refine KL.op (R.pick rfl rfl rfl) rfl rfl rfl ?_
  refine KL.op (R.move rfl rfl) rfl rfl rfl ?_
  refine KL.op (R.indexAddrArr (j := 1) rfl Try.underlying71 sz4 rfl rfl (by first | rfl | omega) (by omega)) rfl rfl rfl ?_
  refine KL.op (R.load rfl Try.underlying4 rfl rfl (by first | exact cell_of bx rfl | exact cell_of bq rfl | assumption)) rfl rfl rfl ?_
  refine KL.op (R.move rfl rfl) rfl rfl rfl ?_
  refine KL.op ((by first | exact R.fieldAddr rfl Try.underlying36 rfl rfl sz33 rfl | exact R.fieldAddrP rfl Try.underlying36 rfl rfl sz33 rfl)) rfl rfl rfl ?_
  refine KL.op (R.load rfl Try.underlying33 rfl rfl (by first | exact cell_of bx rfl | exact cell_of bq rfl | assumption)) rfl rfl rfl ?_
  refine KL.op (R.eql rfl rfl rfl) rfl rfl rfl ?_
  refine KL.op (R.pick rfl rfl rfl) rfl rfl rfl ?_
  refine KL.op (R.pick rfl rfl rfl) rfl rfl rfl ?_
  refine KL.op (R.move rfl rfl) rfl rfl rfl ?_
  refine KL.case (d := 70) rfl ?_ ?_
  · intro hg70
    try simp only [decide_eq_true_eq, decide_eq_false_iff_not, Bool.not_eq_true', Bool.not_eq_false', Bool.and_eq_true, Bool.or_eq_false_iff] at hg70
    refine KL.op (R.indexAddrArr (j := 2) rfl Try.underlying71 sz4 rfl rfl (by first | rfl | omega) (by omega)) rfl rfl rfl ?_
    refine KL.op (R.load rfl Try.underlying4 rfl rfl (by first | exact cell_of bx rfl | exact cell_of bq rfl | assumption)) rfl rfl rfl ?_
    refine KL.op (R.move rfl rfl) rfl rfl rfl ?_
    refine KL.op ((by first | exact R.fieldAddr rfl Try.underlying36 rfl rfl sz2 rfl | exact R.fieldAddrP rfl Try.underlying36 rfl rfl sz2 rfl)) rfl rfl rfl ?_
    refine KL.op (R.load rfl Try.underlying2 rfl rfl (by first | exact cell_of bx rfl | exact cell_of bq rfl | assumption)) rfl rfl rfl ?_
    refine KL.op (R.eql rfl rfl rfl) rfl rfl rfl ?_
    refine KL.op (R.pick rfl rfl rfl) rfl rfl rfl ?_
    refine KL.op (R.pick rfl rfl rfl) rfl rfl rfl ?_
    refine KL.op (R.move rfl rfl) rfl rfl rfl ?_
    refine KL.case (d := 79) rfl ?_ ?_
    · intro hg79
      try simp only [decide_eq_true_eq, decide_eq_false_iff_not, Bool.not_eq_true', Bool.not_eq_false', Bool.and_eq_true, Bool.or_eq_false_iff] at hg79
      refine KL.op (R.indexAddrArr (j := 3) rfl Try.underlying71 sz4 rfl rfl (by first | rfl | omega) (by omega)) rfl rfl rfl ?_
      refine KL.op (R.load rfl Try.underlying4 rfl rfl (by first | exact cell_of bx rfl | exact cell_of bq rfl | assumption)) rfl rfl rfl ?_
      refine KL.op (R.move rfl rfl) rfl rfl rfl ?_
      refine KL.op ((by first | exact R.fieldAddr rfl Try.underlying36 rfl rfl sz34 rfl | exact R.fieldAddrP rfl Try.underlying36 rfl rfl sz34 rfl)) rfl rfl rfl ?_
      refine KL.op (R.load rfl Try.underlying34 rfl rfl (by first | exact cell_of bx rfl | exact cell_of bq rfl | assumption)) rfl rfl rfl ?_
      refine KL.op (R.lenS rfl Try.underlying34 rfl hs) rfl rfl rfl ?_
      refine KL.op (R.eql rfl rfl rfl) rfl rfl rfl ?_
      refine KL.op (R.pick rfl rfl rfl) rfl rfl rfl ?_
      refine KL.op (R.pick rfl rfl rfl) rfl rfl rfl ?_
      refine KL.op (R.assign rfl rfl) rfl rfl rfl ?_
      refine KL.nil ?_
      refine KQ.seq ?_
      refine KC.ret ?_
      refine KQ.ofRet ?_
      refine KQ.fin1 Try.results18 rfl ?_
      first
        | exact ⟨⟨true, rfl, fun _ => (Isp.may_iff hx hll (fun y hy => hs0.rng y hy)).2 ⟨hk, by rw [hf]; unfold Isp.mayC; omega⟩, fun _ => rfl⟩, o0⟩
        | exact ⟨⟨false, rfl, fun h => absurd h (by decide), fun h => absurd ((Isp.may_iff hx hll (fun y hy => hs0.rng y hy)).1 h) (fun ⟨k1, k2⟩ => by rw [hf] at k2; unfold Isp.mayC at k2; omega)⟩, o0⟩
        | exact ⟨⟨_, rfl, fun h => (Isp.may_iff hx hll (fun y hy => hs0.rng y hy)).2 ⟨hk, by rw [hf]; unfold Isp.mayC; have := of_decide_eq_true h; omega⟩, fun h => by have k2 := ((Isp.may_iff hx hll (fun y hy => hs0.rng y hy)).1 h).2; rw [hf] at k2; unfold Isp.mayC at k2; exact decide_eq_true (by omega)⟩, o0⟩
    · intro hg79
      try simp only [decide_eq_true_eq, decide_eq_false_iff_not, Bool.not_eq_true', Bool.not_eq_false', Bool.and_eq_true, Bool.or_eq_false_iff] at hg79
      refine KL.skip rfl rfl rfl ?_
      refine KL.skip rfl rfl rfl ?_
      refine KL.skip rfl rfl rfl ?_
      refine KL.skip rfl rfl rfl ?_
      refine KL.skip rfl rfl rfl ?_
      refine KL.skip rfl rfl rfl ?_
      refine KL.skip rfl rfl rfl ?_
      refine KL.skip rfl rfl rfl ?_
      refine KL.op (R.pick rfl rfl rfl) rfl rfl rfl ?_
      refine KL.op (R.assign rfl rfl) rfl rfl rfl ?_
      refine KL.nil ?_
      refine KQ.seq ?_
      refine KC.ret ?_
      refine KQ.ofRet ?_
      refine KQ.fin1 Try.results18 rfl ?_
      first
        | exact ⟨⟨true, rfl, fun _ => (Isp.may_iff hx hll (fun y hy => hs0.rng y hy)).2 ⟨hk, by rw [hf]; unfold Isp.mayC; omega⟩, fun _ => rfl⟩, o0⟩
        | exact ⟨⟨false, rfl, fun h => absurd h (by decide), fun h => absurd ((Isp.may_iff hx hll (fun y hy => hs0.rng y hy)).1 h) (fun ⟨k1, k2⟩ => by rw [hf] at k2; unfold Isp.mayC at k2; omega)⟩, o0⟩
        | exact ⟨⟨_, rfl, fun h => (Isp.may_iff hx hll (fun y hy => hs0.rng y hy)).2 ⟨hk, by rw [hf]; unfold Isp.mayC; have := of_decide_eq_true h; omega⟩, fun h => by have k2 := ((Isp.may_iff hx hll (fun y hy => hs0.rng y hy)).1 h).2; rw [hf] at k2; unfold Isp.mayC at k2; exact decide_eq_true (by omega)⟩, o0⟩
  · intro hg70
    try simp only [decide_eq_true_eq, decide_eq_false_iff_not, Bool.not_eq_true', Bool.not_eq_false', Bool.and_eq_true, Bool.or_eq_false_iff] at hg70
    refine KL.skip rfl rfl rfl ?_
    refine KL.skip rfl rfl rfl ?_
    refine KL.skip rfl rfl rfl ?_
    refine KL.skip rfl rfl rfl ?_
    refine KL.skip rfl rfl rfl ?_
    refine KL.skip rfl rfl rfl ?_
    refine KL.skip rfl rfl rfl ?_
    refine KL.op (R.pick rfl rfl rfl) rfl rfl rfl ?_
    refine KL.op (R.move rfl rfl) rfl rfl rfl ?_
    refine KL.skip rfl rfl rfl ?_
    refine KL.skip rfl rfl rfl ?_
    refine KL.skip rfl rfl rfl ?_
    refine KL.skip rfl rfl rfl ?_
    refine KL.skip rfl rfl rfl ?_
    refine KL.skip rfl rfl rfl ?_
    refine KL.skip rfl rfl rfl ?_
    refine KL.skip rfl rfl rfl ?_
    refine KL.op (R.pick rfl rfl rfl) rfl rfl rfl ?_
    refine KL.op (R.assign rfl rfl) rfl rfl rfl ?_
    refine KL.nil ?_
    refine KQ.seq ?_
    refine KC.ret ?_
    refine KQ.ofRet ?_
    refine KQ.fin1 Try.results18 rfl ?_
    first
      | exact ⟨⟨true, rfl, fun _ => (Isp.may_iff hx hll (fun y hy => hs0.rng y hy)).2 ⟨hk, by rw [hf]; unfold Isp.mayC; omega⟩, fun _ => rfl⟩, o0⟩
      | exact ⟨⟨false, rfl, fun h => absurd h (by decide), fun h => absurd ((Isp.may_iff hx hll (fun y hy => hs0.rng y hy)).1 h) (fun ⟨k1, k2⟩ => by rw [hf] at k2; unfold Isp.mayC at k2; omega)⟩, o0⟩
      | exact ⟨⟨_, rfl, fun h => (Isp.may_iff hx hll (fun y hy => hs0.rng y hy)).2 ⟨hk, by rw [hf]; unfold Isp.mayC; have := of_decide_eq_true h; omega⟩, fun h => by have k2 := ((Isp.may_iff hx hll (fun y hy => hs0.rng y hy)).1 h).2; rw [hf] at k2; unfold Isp.mayC at k2; exact decide_eq_true (by omega)⟩, o0⟩

set_option maxRecDepth 100000 in
set_option maxHeartbeats 4000000 in
theorem may6 {H : Heap} {x : Ins} {vl : Value} (hx : InsR x) (hll : x.l.length < 4294967296) (hs : Sl 1 (EInt .u32) H vl x.l) (hk : Opc.known x.op = true) (hf : Opc.form x.op = 6) : Ct Try.prog 18 [insV x vl] H (fun u H' => (∃ b, u = .bool b ∧ (b = true ↔ Isp.May x)) ∧ Old H H') := by
  refine Ct.mk Try.func18 rfl Try.ntmps18 rfl ?_
  intro W0 hW0
  have o0 : Old H H := Old.refl H
  have hs0 := hs
  unfold insV
  refine KC.seq ?_
  refine KC.region ?_
  refine KL.opM (M.box rfl rfl rfl) rfl rfl rfl ?_
  rintro _ H1 ⟨rfl, n1⟩
  have z1 := n1.2.1
  have o0 := o0.trans n1.1
  have hs := hs.old n1.1
  have b1 := n1.2.2
  have bx := b1
  refine KL.op (R.assign rfl rfl) rfl rfl rfl ?_
  refine KL.nil ?_
  refine KQ.seq ?_
  refine KC.seq ?_
  refine KC.seq ?_
  refine KC.region ?_
  refine KL.op ((by first | exact R.fieldAddr rfl Try.underlying36 rfl rfl sz5 rfl | exact R.fieldAddrP rfl Try.underlying36 rfl rfl sz5 rfl)) rfl rfl rfl ?_
  refine KL.op (R.load rfl Try.underlying5 rfl rfl (by first | exact cell_of bx rfl | assumption)) rfl rfl rfl ?_
  refine KL.call rfl rfl rfl rfl Try.call28 rfl rfl rfl (Known_k _) ?_
  rintro _ _ ⟨rfl, rfl⟩
  refine KL.op (R.not rfl rfl) rfl rfl rfl ?_
  refine KL.nil ?_
  refine KQ.seq ?_
  refine KC.condIs false rfl (by rw [hk]; rfl) ?_
  refine KC.skip ?_
  refine KQ.seq ?_
  refine KC.seq ?_
  refine KC.region ?_
  refine KL.op (R.buildArr (cs := #[(.bool false), (.bool false), (.bool false), (.bool false)]) rfl Try.underlying71 zr71 sz4 rfl (by kernel_rfl)) rfl rfl rfl ?_
  refine KL.opM (M.alloc rfl zr71 rfl) rfl rfl rfl ?_
  rintro _ H2 ⟨rfl, n2⟩
  have z2 := n2.2.1
  have o0 := o0.trans n2.1
  have hs := hs.old n2.1
  have bx := (n2.1).blk bx
  have b2 := n2.2.2
  have bq := b2
  refine KL.opS (S.storeAgg rfl sz71 rfl rfl (rfl) (by intro u hu; simp only [List.mem_cons, List.not_mem_nil, or_false] at hu; rcases hu with rfl | rfl | rfl | rfl <;> rfl) bq (by simp)) rfl rfl ?_
  rintro H3 ⟨u3, b3⟩
  have o0 := o0.upd u3 (by omega)
  have zu3 := u3.1
  have bx := ((u3).2 _ (by omega)).trans bx
  have bq := b3
  rw [over_all (by rfl)] at bq
  refine KL.nil ?_
  refine KQ.seq ?_
  refine KC.seq ?_
  refine KC.seq ?_
  refine KC.region ?_
  refine KL.op ((by first | exact R.fieldAddr rfl Try.underlying36 rfl rfl sz5 rfl | exact R.fieldAddrP rfl Try.underlying36 rfl rfl sz5 rfl)) rfl rfl rfl ?_
  refine KL.op (R.load rfl Try.underlying5 rfl rfl (by first | exact cell_of bx rfl | exact cell_of bq rfl | assumption)) rfl rfl rfl ?_
  refine KL.call rfl rfl rfl rfl Try.call29 rfl rfl rfl (Form_k _) ?_
  rintro _ _ ⟨rfl, rfl⟩
  rw [hf]
  refine KL.nil ?_
  refine KQ.seq ?_
  refine KC.block ?_
  refine KC.seq ?_
  refine KC.region ?_
  refine KL.op ((R.eql rfl rfl rfl).val (congrArg Value.bool (decide_eq_false (by decide)))) rfl rfl rfl ?_
  refine KL.op (R.assign rfl rfl) rfl rfl rfl ?_
  refine KL.nil ?_
  refine KQ.seq ?_
  refine KC.condF rfl ?_
  refine KC.seq ?_
  refine KC.seq ?_
  refine KC.region ?_
  refine KL.op ((R.eql rfl rfl rfl).val (congrArg Value.bool (decide_eq_false (by decide)))) rfl rfl rfl ?_
  refine KL.op (R.assign rfl rfl) rfl rfl rfl ?_
  refine KL.nil ?_
  refine KQ.seq ?_
  refine KC.condF rfl ?_
  refine KC.seq ?_
  refine KC.region ?_
  refine KL.op ((R.eql rfl rfl rfl).val (congrArg Value.bool (decide_eq_false (by decide)))) rfl rfl rfl ?_
  refine KL.op (R.assign rfl rfl) rfl rfl rfl ?_
  refine KL.nil ?_
  refine KQ.seq ?_
  refine KC.condF rfl ?_
  refine KC.region ?_
  refine KL.op ((R.eql rfl rfl rfl).val (congrArg Value.bool (decide_eq_false (by decide)))) rfl rfl rfl ?_
  refine KL.op (R.assign rfl rfl) rfl rfl rfl ?_
  refine KL.nil ?_
  refine KQ.seq ?_
  refine KC.condF rfl ?_
  refine KC.seq ?_
  refine KC.region ?_
  refine KL.op ((R.eql rfl rfl rfl).val (congrArg Value.bool (decide_eq_false (by decide)))) rfl rfl rfl ?_
  refine KL.op (R.assign rfl rfl) rfl rfl rfl ?_
  refine KL.nil ?_
  refine KQ.seq ?_
  refine KC.condF rfl ?_
  refine KC.seq ?_
  refine KC.region ?_
  refine KL.op ((R.eql rfl rfl rfl).val (congrArg Value.bool (decide_eq_true (by decide)))) rfl rfl rfl ?_
  refine KL.op (R.assign rfl rfl) rfl rfl rfl ?_
  refine KL.nil ?_
  refine KQ.seq ?_
  refine KC.condT rfl ?_
  refine KC.region ?_
  refine KL.op (R.indexAddrArr (j := 0) rfl Try.underlying71 sz4 rfl rfl (by first | rfl | omega) (by omega)) rfl rfl rfl ?_
  refine KL.opS (S.store rfl sz4 rfl rfl rfl rfl bq (by simp)) rfl rfl ?_
  rintro H4 ⟨u4, b4⟩
  try dsimp only at u4
  try dsimp only at b4
  have o0 := o0.upd u4 (by omega)
  have zu4 := u4.1
  have bx := ((u4).2 _ (by omega)).trans bx
  have bq := b4
  refine KL.op (R.indexAddrArr (j := 1) rfl Try.underlying71 sz4 rfl rfl (by first | rfl | omega) (by omega)) rfl rfl rfl ?_
  refine KL.opS (S.store rfl sz4 rfl rfl rfl rfl bq (by simp)) rfl rfl ?_
  rintro H5 ⟨u5, b5⟩
  try dsimp only at u5
  try dsimp only at b5
  have o0 := o0.upd u5 (by omega)
  have zu5 := u5.1
  have bx := ((u5).2 _ (by omega)).trans bx
  have bq := b5
  refine KL.nil ?_
  refine KQ.normBlock ?_
  refine KQ.seq ?_
  refine KC.seq ?_
  refine KC.region ?_
  refine KL.op (R.indexAddrArr (j := 0) rfl Try.underlying71 sz4 rfl rfl (by first | rfl | omega) (by omega)) rfl rfl rfl ?_
  refine KL.op (R.load rfl Try.underlying4 rfl rfl (by first | exact cell_of bx rfl | exact cell_of bq rfl | assumption)) rfl rfl rfl ?_
  refine KL.op (R.move rfl rfl) rfl rfl rfl ?_
  refine KL.skip rfl rfl rfl ?_
  refine KL.skip rfl rfl rfl ?_
  refine KL.skip rfl rfl rfl ?_
  refine KL.op (R.pick rfl rfl rfl) rfl rfl rfl ?_
  refine KL.op (R.move rfl rfl) rfl rfl rfl ?_
  refine KL.op (R.indexAddrArr (j := 1) rfl Try.underlying71 sz4 rfl rfl (by first | rfl | omega) (by omega)) rfl rfl rfl ?_
  refine KL.op (R.load rfl Try.underlying4 rfl rfl (by first | exact cell_of bx rfl | exact cell_of bq rfl | assumption)) rfl rfl rfl ?_
  refine KL.op (R.move rfl rfl) rfl rfl rfl ?_
  refine KL.skip rfl rfl rfl ?_
  refine KL.skip rfl rfl rfl ?_
  refine KL.skip rfl rfl rfl ?_
  refine KL.op (R.pick rfl rfl rfl) rfl rfl rfl ?_
  refine KL.op (R.pick rfl rfl rfl) rfl rfl rfl ?_
  refine KL.op (R.move rfl rfl) rfl rfl rfl ?_
  refine KL.op (R.indexAddrArr (j := 2) rfl Try.underlying71 sz4 rfl rfl (by first | rfl | omega) (by omega)) rfl rfl rfl ?_
  refine KL.op (R.load rfl Try.underlying4 rfl rfl (by first | exact cell_of bx rfl | exact cell_of bq rfl | assumption)) rfl rfl rfl ?_
  refine KL.op (R.move rfl rfl) rfl rfl rfl ?_
  refine KL.op ((by first | exact R.fieldAddr rfl Try.underlying36 rfl rfl sz2 rfl | exact R.fieldAddrP rfl Try.underlying36 rfl rfl sz2 rfl)) rfl rfl rfl ?_
  refine KL.op (R.load rfl Try.underlying2 rfl rfl (by first | exact cell_of bx rfl | exact cell_of bq rfl | assumption)) rfl rfl rfl ?_
  refine KL.op (R.eql rfl rfl rfl) rfl rfl rfl ?_
  refine KL.op (R.pick rfl rfl rfl) rfl rfl rfl ?_
  refine KL.op (R.pick rfl rfl rfl) rfl rfl rfl ?_
  refine KL.op (R.move rfl rfl) rfl rfl rfl ?_
  refine KL.case (d := 79) rfl ?_ ?_
  · intro hg79
    try simp only [decide_eq_true_eq, decide_eq_false_iff_not, Bool.not_eq_true', Bool.not_eq_false', Bool.and_eq_true, Bool.or_eq_false_iff] at hg79
    refine KL.op (R.indexAddrArr (j := 3) rfl Try.underlying71 sz4 rfl rfl (by first | rfl | omega) (by omega)) rfl rfl rfl ?_
    refine KL.op (R.load rfl Try.underlying4 rfl rfl (by first | exact cell_of bx rfl | exact cell_of bq rfl | assumption)) rfl rfl rfl ?_
    refine KL.op (R.move rfl rfl) rfl rfl rfl ?_
    refine KL.op ((by first | exact R.fieldAddr rfl Try.underlying36 rfl rfl sz34 rfl | exact R.fieldAddrP rfl Try.underlying36 rfl rfl sz34 rfl)) rfl rfl rfl ?_
    refine KL.op (R.load rfl Try.underlying34 rfl rfl (by first | exact cell_of bx rfl | exact cell_of bq rfl | assumption)) rfl rfl rfl ?_
    refine KL.op (R.lenS rfl Try.underlying34 rfl hs) rfl rfl rfl ?_
    refine KL.op (R.eql rfl rfl rfl) rfl rfl rfl ?_
    refine KL.op (R.pick rfl rfl rfl) rfl rfl rfl ?_
    refine KL.op (R.pick rfl rfl rfl) rfl rfl rfl ?_
    refine KL.op (R.assign rfl rfl) rfl rfl rfl ?_
    refine KL.nil ?_
    refine KQ.seq ?_
    refine KC.ret ?_
    refine KQ.ofRet ?_
    refine KQ.fin1 Try.results18 rfl ?_
    first
      | exact ⟨⟨true, rfl, fun _ => (Isp.may_iff hx hll (fun y hy => hs0.rng y hy)).2 ⟨hk, by rw [hf]; unfold Isp.mayC; omega⟩, fun _ => rfl⟩, o0⟩
      | exact ⟨⟨false, rfl, fun h => absurd h (by decide), fun h => absurd ((Isp.may_iff hx hll (fun y hy => hs0.rng y hy)).1 h) (fun ⟨k1, k2⟩ => by rw [hf] at k2; unfold Isp.mayC at k2; omega)⟩, o0⟩
      | exact ⟨⟨_, rfl, fun h => (Isp.may_iff hx hll (fun y hy => hs0.rng y hy)).2 ⟨hk, by rw [hf]; unfold Isp.mayC; have := of_decide_eq_true h; omega⟩, fun h => by have k2 := ((Isp.may_iff hx hll (fun y hy => hs0.rng y hy)).1 h).2; rw [hf] at k2; unfold Isp.mayC at k2; exact decide_eq_true (by omega)⟩, o0⟩
  · intro hg79
    try simp only [decide_eq_true_eq, decide_eq_false_iff_not, Bool.not_eq_true', Bool.not_eq_false', Bool.and_eq_true, Bool.or_eq_false_iff] at hg79
    refine KL.skip rfl rfl rfl ?_
    refine KL.skip rfl rfl rfl ?_
    refine KL.skip rfl rfl rfl ?_
    refine KL.skip rfl rfl rfl ?_
    refine KL.skip rfl rfl rfl ?_
    refine KL.skip rfl rfl rfl ?_
    refine KL.skip rfl rfl rfl ?_
    refine KL.skip rfl rfl rfl ?_
    refine KL.op (R.pick rfl rfl rfl) rfl rfl rfl ?_
    refine KL.op (R.assign rfl rfl) rfl rfl rfl ?_
    refine KL.nil ?_
    refine KQ.seq ?_
    refine KC.ret ?_
    refine KQ.ofRet ?_
    refine KQ.fin1 Try.results18 rfl ?_
    first
      | exact ⟨⟨true, rfl, fun _ => (Isp.may_iff hx hll (fun y hy => hs0.rng y hy)).2 ⟨hk, by rw [hf]; unfold Isp.mayC; omega⟩, fun _ => rfl⟩, o0⟩
      | exact ⟨⟨false, rfl, fun h => absurd h (by decide), fun h => absurd ((Isp.may_iff hx hll (fun y hy => hs0.rng y hy)).1 h) (fun ⟨k1, k2⟩ => by rw [hf] at k2; unfold Isp.mayC at k2; omega)⟩, o0⟩
      | exact ⟨⟨_, rfl, fun h => (Isp.may_iff hx hll (fun y hy => hs0.rng y hy)).2 ⟨hk, by rw [hf]; unfold Isp.mayC; have := of_decide_eq_true h; omega⟩, fun h => by have k2 := ((Isp.may_iff hx hll (fun y hy => hs0.rng y hy)).1 h).2; rw [hf] at k2; unfold Isp.mayC at k2; exact decide_eq_true (by omega)⟩, o0⟩

set_option maxRecDepth 100000 in
set_option maxHeartbeats 4000000 in
theorem may7 {H : Heap} {x : Ins} {vl : Value} (hx : InsR x) (hll : x.l.length < 4294967296) (hs : Sl 1 (EInt .u32) H vl x.l) (hk : Opc.known x.op = true) (hf : Opc.form x.op = 7) : Ct Try.prog 18 [insV x vl] H (fun u H' => (∃ b, u = .bool b ∧ (b = true ↔ Isp.May x)) ∧ Old H H') := by
  refine Ct.mk Try.func18 rfl Try.ntmps18 rfl ?_
  intro W0 hW0
  have o0 : Old H H := Old.refl H
  have hs0 := hs
  unfold insV
  refine KC.seq ?_
  refine KC.region ?_
  refine KL.opM (M.box rfl rfl rfl) rfl rfl rfl ?_
  rintro _ H1 ⟨rfl, n1⟩
  have z1 := n1.2.1
  have o0 := o0.trans n1.1
  have hs := hs.old n1.1
  have b1 := n1.2.2
  have bx := b1
  refine KL.op (R.assign rfl rfl) rfl rfl rfl ?_
  refine KL.nil ?_
  refine KQ.seq ?_
  refine KC.seq ?_
  refine KC.seq ?_
  refine KC.region ?_
  refine KL.op ((by first | exact R.fieldAddr rfl Try.underlying36 rfl rfl sz5 rfl | exact R.fieldAddrP rfl Try.underlying36 rfl rfl sz5 rfl)) rfl rfl rfl ?_
  refine KL.op (R.load rfl Try.underlying5 rfl rfl (by first | exact cell_of bx rfl | assumption)) rfl rfl rfl ?_
  refine KL.call rfl rfl rfl rfl Try.call28 rfl rfl rfl (Known_k _) ?_
  rintro _ _ ⟨rfl, rfl⟩
  refine KL.op (R.not rfl rfl) rfl rfl rfl ?_
  refine KL.nil ?_
  refine KQ.seq ?_
  refine KC.condIs false rfl (by rw [hk]; rfl) ?_
  refine KC.skip ?_
  refine KQ.seq ?_
  refine KC.seq ?_
  refine KC.region ?_
  refine KL.op (R.buildArr (cs := #[(.bool false), (.bool false), (.bool false), (.bool false)]) rfl Try.underlying71 zr71 sz4 rfl (by kernel_rfl)) rfl rfl rfl ?_
  refine KL.opM (M.alloc rfl zr71 rfl) rfl rfl rfl ?_
  rintro _ H2 ⟨rfl, n2⟩
  have z2 := n2.2.1
  have o0 := o0.trans n2.1
  have hs := hs.old n2.1
  have bx := (n2.1).blk bx
  have b2 := n2.2.2
  have bq := b2
  refine KL.opS (S.storeAgg rfl sz71 rfl rfl (rfl) (by intro u hu; simp only [List.mem_cons, List.not_mem_nil, or_false] at hu; rcases hu with rfl | rfl | rfl | rfl <;> rfl) bq (by simp)) rfl rfl ?_
  rintro H3 ⟨u3, b3⟩
  have o0 := o0.upd u3 (by omega)
  have zu3 := u3.1
  have bx := ((u3).2 _ (by omega)).trans bx
  have bq := b3
  rw [over_all (by rfl)] at bq
  refine KL.nil ?_
  refine KQ.seq ?_
  refine KC.seq ?_
  refine KC.seq ?_
  refine KC.region ?_
  refine KL.op ((by first | exact R.fieldAddr rfl Try.underlying36 rfl rfl sz5 rfl | exact R.fieldAddrP rfl Try.underlying36 rfl rfl sz5 rfl)) rfl rfl rfl ?_
  refine KL.op (R.load rfl Try.underlying5 rfl rfl (by first | exact cell_of bx rfl | exact cell_of bq rfl | assumption)) rfl rfl rfl ?_
  refine KL.call rfl rfl rfl rfl Try.call29 rfl rfl rfl (Form_k _) ?_
  rintro _ _ ⟨rfl, rfl⟩
  rw [hf]
  refine KL.nil ?_
  refine KQ.seq ?_
  refine KC.block ?_
  refine KC.seq ?_
  refine KC.region ?_
  refine KL.op ((R.eql rfl rfl rfl).val (congrArg Value.bool (decide_eq_false (by decide)))) rfl rfl rfl ?_
  refine KL.op (R.assign rfl rfl) rfl rfl rfl ?_
  refine KL.nil ?_
  refine KQ.seq ?_
  refine KC.condF rfl ?_
  refine KC.seq ?_
  refine KC.seq ?_
  refine KC.region ?_
  refine KL.op ((R.eql rfl rfl rfl).val (congrArg Value.bool (decide_eq_false (by decide)))) rfl rfl rfl ?_
  refine KL.op (R.assign rfl rfl) rfl rfl rfl ?_
  refine KL.nil ?_
  refine KQ.seq ?_
  refine KC.condF rfl ?_
  refine KC.seq ?_
  refine KC.region ?_
  refine KL.op ((R.eql rfl rfl rfl).val (congrArg Value.bool (decide_eq_false (by decide)))) rfl rfl rfl ?_
  refine KL.op (R.assign rfl rfl) rfl rfl rfl ?_
  refine KL.nil ?_
  refine KQ.seq ?_
  refine KC.condF rfl ?_
  refine KC.region ?_
  refine KL.op ((R.eql rfl rfl rfl).val (congrArg Value.bool (decide_eq_false (by decide)))) rfl rfl rfl ?_
  refine KL.op (R.assign rfl rfl) rfl rfl rfl ?_
  refine KL.nil ?_
  refine KQ.seq ?_
  refine KC.condF rfl ?_
  refine KC.seq ?_
  refine KC.region ?_
  refine KL.op ((R.eql rfl rfl rfl).val (congrArg Value.bool (decide_eq_false (by decide)))) rfl rfl rfl ?_
  refine KL.op (R.assign rfl rfl) rfl rfl rfl ?_
  refine KL.nil ?_
  refine KQ.seq ?_
  refine KC.condF rfl ?_
  refine KC.seq ?_
  refine KC.region ?_
  refine KL.op ((R.eql rfl rfl rfl).val (congrArg Value.bool (decide_eq_false (by decide)))) rfl rfl rfl ?_
  refine KL.op (R.assign rfl rfl) rfl rfl rfl ?_
  refine KL.nil ?_
  refine KQ.seq ?_
  refine KC.condF rfl ?_
  refine KC.seq ?_
  refine KC.region ?_
  refine KL.op ((R.eql rfl rfl rfl).val (congrArg Value.bool (decide_eq_false (by decide)))) rfl rfl rfl ?_
  refine KL.op (R.assign rfl rfl) rfl rfl rfl ?_
  refine KL.nil ?_
  refine KQ.seq ?_
  refine KC.condF rfl ?_
  refine KC.seq ?_
  refine KC.region ?_
  refine KL.op ((R.eql rfl rfl rfl).val (congrArg Value.bool (decide_eq_false (by decide)))) rfl rfl rfl ?_
  refine KL.op (R.assign rfl rfl) rfl rfl rfl ?_
  refine KL.nil ?_
  refine KQ.seq ?_
  refine KC.condF rfl ?_
  refine KC.skip ?_
  refine KQ.normBlock ?_
  refine KQ.seq ?_
  refine KC.seq ?_
  refine KC.region ?_
  refine KL.op (R.indexAddrArr (j := 0) rfl Try.underlying71 sz4 rfl rfl (by first | rfl | omega) (by omega)) rfl rfl rfl ?_
  refine KL.op (R.load rfl Try.underlying4 rfl rfl (by first | exact cell_of bx rfl | exact cell_of bq rfl | assumption)) rfl rfl rfl ?_
  refine KL.op (R.move rfl rfl) rfl rfl rfl ?_
  refine KL.op ((by first | exact R.fieldAddr rfl Try.underlying36 rfl rfl sz33 rfl | exact R.fieldAddrP rfl Try.underlying36 rfl rfl sz33 rfl)) rfl rfl rfl ?_
  refine KL.op (R.load rfl Try.underlying33 rfl rfl (by first | exact cell_of bx rfl | exact cell_of bq rfl | assumption)) rfl rfl rfl ?_
  refine KL.op (R.eql rfl rfl rfl) rfl rfl rfl ?_
  refine KL.op (R.pick rfl rfl rfl) rfl rfl rfl ?_
  refine KL.op (R.move rfl rfl) rfl rfl rfl ?_
  refine KL.case (d := 61) rfl ?_ ?_
  · intro hg61
    try simp only [decide_eq_true_eq, decide_eq_false_iff_not, Bool.not_eq_true', Bool.not_eq_false', Bool.and_eq_true, Bool.or_eq_false_iff] at hg61
    refine KL.op (R.indexAddrArr (j := 1) rfl Try.underlying71 sz4 rfl rfl (by first | rfl | omega) (by omega)) rfl rfl rfl ?_
    refine KL.op (R.load rfl Try.underlying4 rfl rfl (by first | exact cell_of bx rfl | exact cell_of bq rfl | assumption)) rfl rfl rfl ?_
    refine KL.op (R.move rfl rfl) rfl rfl rfl ?_
    refine KL.op ((by first | exact R.fieldAddr rfl Try.underlying36 rfl rfl sz33 rfl | exact R.fieldAddrP rfl Try.underlying36 rfl rfl sz33 rfl)) rfl rfl rfl ?_
    refine KL.op (R.load rfl Try.underlying33 rfl rfl (by first | exact cell_of bx rfl | exact cell_of bq rfl | assumption)) rfl rfl rfl ?_
    refine KL.op (R.eql rfl rfl rfl) rfl rfl rfl ?_
    refine KL.op (R.pick rfl rfl rfl) rfl rfl rfl ?_
    refine KL.op (R.pick rfl rfl rfl) rfl rfl rfl ?_
    refine KL.op (R.move rfl rfl) rfl rfl rfl ?_
    refine KL.case (d := 70) rfl ?_ ?_
    · intro hg70
      try simp only [decide_eq_true_eq, decide_eq_false_iff_not, Bool.not_eq_true', Bool.not_eq_false', Bool.and_eq_true, Bool.or_eq_false_iff] at hg70
      refine KL.op (R.indexAddrArr (j := 2) rfl Try.underlying71 sz4 rfl rfl (by first | rfl | omega) (by omega)) rfl rfl rfl ?_
      refine KL.op (R.load rfl Try.underlying4 rfl rfl (by first | exact cell_of bx rfl | exact cell_of bq rfl | assumption)) rfl rfl rfl ?_
      refine KL.op (R.move rfl rfl) rfl rfl rfl ?_
      refine KL.op ((by first | exact R.fieldAddr rfl Try.underlying36 rfl rfl sz2 rfl | exact R.fieldAddrP rfl Try.underlying36 rfl rfl sz2 rfl)) rfl rfl rfl ?_
      refine KL.op (R.load rfl Try.underlying2 rfl rfl (by first | exact cell_of bx rfl | exact cell_of bq rfl | assumption)) rfl rfl rfl ?_
      refine KL.op (R.eql rfl rfl rfl) rfl rfl rfl ?_
      refine KL.op (R.pick rfl rfl rfl) rfl rfl rfl ?_
      refine KL.op (R.pick rfl rfl rfl) rfl rfl rfl ?_
      refine KL.op (R.move rfl rfl) rfl rfl rfl ?_
      refine KL.case (d := 79) rfl ?_ ?_
      · intro hg79
        try simp only [decide_eq_true_eq, decide_eq_false_iff_not, Bool.not_eq_true', Bool.not_eq_false', Bool.and_eq_true, Bool.or_eq_false_iff] at hg79
        refine KL.op (R.indexAddrArr (j := 3) rfl Try.underlying71 sz4 rfl rfl (by first | rfl | omega) (by omega)) rfl rfl rfl ?_
        refine KL.op (R.load rfl Try.underlying4 rfl rfl (by first | exact cell_of bx rfl | exact cell_of bq rfl | assumption)) rfl rfl rfl ?_
        refine KL.op (R.move rfl rfl) rfl rfl rfl ?_
        refine KL.op ((by first | exact R.fieldAddr rfl Try.underlying36 rfl rfl sz34 rfl | exact R.fieldAddrP rfl Try.underlying36 rfl rfl sz34 rfl)) rfl rfl rfl ?_
        refine KL.op (R.load rfl Try.underlying34 rfl rfl (by first | exact cell_of bx rfl | exact cell_of bq rfl | assumption)) rfl rfl rfl ?_
        refine KL.op (R.lenS rfl Try.underlying34 rfl hs) rfl rfl rfl ?_
        refine KL.op (R.eql rfl rfl rfl) rfl rfl rfl ?_
        refine KL.op (R.pick rfl rfl rfl) rfl rfl rfl ?_
        refine KL.op (R.pick rfl rfl rfl) rfl rfl rfl ?_
        refine KL.op (R.assign rfl rfl) rfl rfl rfl ?_
        refine KL.nil ?_
        refine KQ.seq ?_
        refine KC.ret ?_
        refine KQ.ofRet ?_
        refine KQ.fin1 Try.results18 rfl ?_
        first
          | exact ⟨⟨true, rfl, fun _ => (Isp.may_iff hx hll (fun y hy => hs0.rng y hy)).2 ⟨hk, by rw [hf]; unfold Isp.mayC; omega⟩, fun _ => rfl⟩, o0⟩
          | exact ⟨⟨false, rfl, fun h => absurd h (by decide), fun h => absurd ((Isp.may_iff hx hll (fun y hy => hs0.rng y hy)).1 h) (fun ⟨k1, k2⟩ => by rw [hf] at k2; unfold Isp.mayC at k2; omega)⟩, o0⟩
          | exact ⟨⟨_, rfl, fun h => (Isp.may_iff hx hll (fun y hy => hs0.rng y hy)).2 ⟨hk, by rw [hf]; unfold Isp.mayC; have := of_decide_eq_true h; omega⟩, fun h => by have k2 := ((Isp.may_iff hx hll (fun y hy => hs0.rng y hy)).1 h).2; rw [hf] at k2; unfold Isp.mayC at k2; exact decide_eq_true (by omega)⟩, o0⟩
      · intro hg79
        try simp only [decide_eq_true_eq, decide_eq_false_iff_not, Bool.not_eq_true', Bool.not_eq_false', Bool.and_eq_true, Bool.or_eq_false_iff] at hg79
        refine KL.skip rfl rfl rfl ?_
        refine KL.skip rfl rfl rfl ?_
        refine KL.skip rfl rfl rfl ?_
        refine KL.skip rfl rfl rfl ?_
        refine KL.skip rfl rfl rfl ?_
        refine KL.skip rfl rfl rfl ?_
        refine KL.skip rfl rfl rfl ?_
        refine KL.skip rfl rfl rfl ?_
        refine KL.op (R.pick rfl rfl rfl) rfl rfl rfl ?_
        refine KL.op (R.assign rfl rfl) rfl rfl rfl ?_
        refine KL.nil ?_
        refine KQ.seq ?_
        refine KC.ret ?_
        refine KQ.ofRet ?_
        refine KQ.fin1 Try.results18 rfl ?_
        first
          | exact ⟨⟨true, rfl, fun _ => (Isp.may_iff hx hll (fun y hy => hs0.rng y hy)).2 ⟨hk, by rw [hf]; unfold Isp.mayC; omega⟩, fun _ => rfl⟩, o0⟩
          | exact ⟨⟨false, rfl, fun h => absurd h (by decide), fun h => absurd ((Isp.may_iff hx hll (fun y hy => hs0.rng y hy)).1 h) (fun ⟨k1, k2⟩ => by rw [hf] at k2; unfold Isp.mayC at k2; omega)⟩, o0⟩
          | exact ⟨⟨_, rfl, fun h => (Isp.may_iff hx hll (fun y hy => hs0.rng y hy)).2 ⟨hk, by rw [hf]; unfold Isp.mayC; have := of_decide_eq_true h; omega⟩, fun h => by have k2 := ((Isp.may_iff hx hll (fun y hy => hs0.rng y hy)).1 h).2; rw [hf] at k2; unfold Isp.mayC at k2; exact decide_eq_true (by omega)⟩, o0⟩
    · intro hg70
      try simp only [decide_eq_true_eq, decide_eq_false_iff_not, Bool.not_eq_true', Bool.not_eq_false', Bool.and_eq_true, Bool.or_eq_false_iff] at hg70
      refine KL.skip rfl rfl rfl ?_
      refine KL.skip rfl rfl rfl ?_
      refine KL.skip rfl rfl rfl ?_
      refine KL.skip rfl rfl rfl ?_
      refine KL.skip rfl rfl rfl ?_
      refine KL.skip rfl rfl rfl ?_
      refine KL.skip rfl rfl rfl ?_
      refine KL.op (R.pick rfl rfl rfl) rfl rfl rfl ?_
      refine KL.op (R.move rfl rfl) rfl rfl rfl ?_
      refine KL.skip rfl rfl rfl ?_
      refine KL.skip rfl rfl rfl ?_
      refine KL.skip rfl rfl rfl ?_
      refine KL.skip rfl rfl rfl ?_
      refine KL.skip rfl rfl rfl ?_
      refine KL.skip rfl rfl rfl ?_
      refine KL.skip rfl rfl rfl ?_
      refine KL.skip rfl rfl rfl ?_
      refine KL.op (R.pick rfl rfl rfl) rfl rfl rfl ?_
      refine KL.op (R.assign rfl rfl) rfl rfl rfl ?_
      refine KL.nil ?_
      refine KQ.seq ?_
      refine KC.ret ?_
      refine KQ.ofRet ?_
      refine KQ.fin1 Try.results18 rfl ?_
      first
        | exact ⟨⟨true, rfl, fun _ => (Isp.may_iff hx hll (fun y hy => hs0.rng y hy)).2 ⟨hk, by rw [hf]; unfold Isp.mayC; omega⟩, fun _ => rfl⟩, o0⟩
        | exact ⟨⟨false, rfl, fun h => absurd h (by decide), fun h => absurd ((Isp.may_iff hx hll (fun y hy => hs0.rng y hy)).1 h) (fun ⟨k1, k2⟩ => by rw [hf] at k2; unfold Isp.mayC at k2; omega)⟩, o0⟩
        | exact ⟨⟨_, rfl, fun h => (Isp.may_iff hx hll (fun y hy => hs0.rng y hy)).2 ⟨hk, by rw [hf]; unfold Isp.mayC; have := of_decide_eq_true h; omega⟩, fun h => by have k2 := ((Isp.may_iff hx hll (fun y hy => hs0.rng y hy)).1 h).2; rw [hf] at k2; unfold Isp.mayC at k2; exact decide_eq_true (by omega)⟩, o0⟩
  · intro hg61
    try simp only [decide_eq_true_eq, decide_eq_false_iff_not, Bool.not_eq_true', Bool.not_eq_false', Bool.and_eq_true, Bool.or_eq_false_iff] at hg61
    refine KL.skip rfl rfl rfl ?_
    refine KL.skip rfl rfl rfl ?_
    refine KL.skip rfl rfl rfl ?_
    refine KL.skip rfl rfl rfl ?_
    refine KL.skip rfl rfl rfl ?_
    refine KL.skip rfl rfl rfl ?_
    refine KL.skip rfl rfl rfl ?_
    refine KL.op (R.pick rfl rfl rfl) rfl rfl rfl ?_
    refine KL.op (R.move rfl rfl) rfl rfl rfl ?_
    refine KL.skip rfl rfl rfl ?_
    refine KL.skip rfl rfl rfl ?_
    refine KL.skip rfl rfl rfl ?_
    refine KL.skip rfl rfl rfl ?_
    refine KL.skip rfl rfl rfl ?_
    refine KL.skip rfl rfl rfl ?_
    refine KL.skip rfl rfl rfl ?_
    refine KL.op (R.pick rfl rfl rfl) rfl rfl rfl ?_
    refine KL.op (R.move rfl rfl) rfl rfl rfl ?_
    refine KL.skip rfl rfl rfl ?_
    refine KL.skip rfl rfl rfl ?_
    refine KL.skip rfl rfl rfl ?_
    refine KL.skip rfl rfl rfl ?_
    refine KL.skip rfl rfl rfl ?_
    refine KL.skip rfl rfl rfl ?_
    refine KL.skip rfl rfl rfl ?_
    refine KL.skip rfl rfl rfl ?_
    refine KL.op (R.pick rfl rfl rfl) rfl rfl rfl ?_
    refine KL.op (R.assign rfl rfl) rfl rfl rfl ?_
    refine KL.nil ?_
    refine KQ.seq ?_
    refine KC.ret ?_
    refine KQ.ofRet ?_
    refine KQ.fin1 Try.results18 rfl ?_
    first
      | exact ⟨⟨true, rfl, fun _ => (Isp.may_iff hx hll (fun y hy => hs0.rng y hy)).2 ⟨hk, by rw [hf]; unfold Isp.mayC; omega⟩, fun _ => rfl⟩, o0⟩
      | exact ⟨⟨false, rfl, fun h => absurd h (by decide), fun h => absurd ((Isp.may_iff hx hll (fun y hy => hs0.rng y hy)).1 h) (fun ⟨k1, k2⟩ => by rw [hf] at k2; unfold Isp.mayC at k2; omega)⟩, o0⟩
      | exact ⟨⟨_, rfl, fun h => (Isp.may_iff hx hll (fun y hy => hs0.rng y hy)).2 ⟨hk, by rw [hf]; unfold Isp.mayC; have := of_decide_eq_true h; omega⟩, fun h => by have k2 := ((Isp.may_iff hx hll (fun y hy => hs0.rng y hy)).1 h).2; rw [hf] at k2; unfold Isp.mayC at k2; exact decide_eq_true (by omega)⟩, o0⟩

set_option maxRecDepth 100000 in
set_option maxHeartbeats 4000000 in
theorem may8 {H : Heap} {x : Ins} {vl : Value} (hx : InsR x) (hll : x.l.length < 4294967296) (hs : Sl 1 (EInt .u32) H vl x.l) (hk : Opc.known x.op = true) (hf : Opc.form x.op = 8) : Ct Try.prog 18 [insV x vl] H (fun u H' => (∃ b, u = .bool b ∧ (b = true ↔ Isp.May x)) ∧ Old H H') := by
  refine Ct.mk Try.func18 rfl Try.ntmps18 rfl ?_
  intro W0 hW0
  have o0 : Old H H := Old.refl H
  have hs0 := hs
  unfold insV
  refine KC.seq ?_
  refine KC.region ?_
  refine KL.opM (M.box rfl rfl rfl) rfl rfl rfl ?_
  rintro _ H1 ⟨rfl, n1⟩
  have z1 := n1.2.1
  have o0 := o0.trans n1.1
  have hs := hs.old n1.1
  have b1 := n1.2.2
  have bx := b1
  refine KL.op (R.assign rfl rfl) rfl rfl rfl ?_
  refine KL.nil ?_
  refine KQ.seq ?_
  refine KC.seq ?_
  refine KC.seq ?_
  refine KC.region ?_
  refine KL.op ((by first | exact R.fieldAddr rfl Try.underlying36 rfl rfl sz5 rfl | exact R.fieldAddrP rfl Try.underlying36 rfl rfl sz5 rfl)) rfl rfl rfl ?_
  refine KL.op (R.load rfl Try.underlying5 rfl rfl (by first | exact cell_of bx rfl | assumption)) rfl rfl rfl ?_
  refine KL.call rfl rfl rfl rfl Try.call28 rfl rfl rfl (Known_k _) ?_
  rintro _ _ ⟨rfl, rfl⟩
  refine KL.op (R.not rfl rfl) rfl rfl rfl ?_
  refine KL.nil ?_
  refine KQ.seq ?_
  refine KC.condIs false rfl (by rw [hk]; rfl) ?_
  refine KC.skip ?_
  refine KQ.seq ?_
  refine KC.seq ?_
  refine KC.region ?_
  refine KL.op (R.buildArr (cs := #[(.bool false), (.bool false), (.bool false), (.bool false)]) rfl Try.underlying71 zr71 sz4 rfl (by kernel_rfl)) rfl rfl rfl ?_
  refine KL.opM (M.alloc rfl zr71 rfl) rfl rfl rfl ?_
  rintro _ H2 ⟨rfl, n2⟩
  have z2 := n2.2.1
  have o0 := o0.trans n2.1
  have hs := hs.old n2.1
  have bx := (n2.1).blk bx
  have b2 := n2.2.2
  have bq := b2
  refine KL.opS (S.storeAgg rfl sz71 rfl rfl (rfl) (by intro u hu; simp only [List.mem_cons, List.not_mem_nil, or_false] at hu; rcases hu with rfl | rfl | rfl | rfl <;> rfl) bq (by simp)) rfl rfl ?_
  rintro H3 ⟨u3, b3⟩
  have o0 := o0.upd u3 (by omega)
  have zu3 := u3.1
  have bx := ((u3).2 _ (by omega)).trans bx
  have bq := b3
  rw [over_all (by rfl)] at bq
  refine KL.nil ?_
  refine KQ.seq ?_
  refine KC.seq ?_
  refine KC.seq ?_
  refine KC.region ?_
  refine KL.op ((by first | exact R.fieldAddr rfl Try.underlying36 rfl rfl sz5 rfl | exact R.fieldAddrP rfl Try.underlying36 rfl rfl sz5 rfl)) rfl rfl rfl ?_
  refine KL.op (R.load rfl Try.underlying5 rfl rfl (by first | exact cell_of bx rfl | exact cell_of bq rfl | assumption)) rfl rfl rfl ?_
  refine KL.call rfl rfl rfl rfl Try.call29 rfl rfl rfl (Form_k _) ?_
  rintro _ _ ⟨rfl, rfl⟩
  rw [hf]
  refine KL.nil ?_
  refine KQ.seq ?_
  refine KC.block ?_
  refine KC.seq ?_
  refine KC.region ?_
  refine KL.op ((R.eql rfl rfl rfl).val (congrArg Value.bool (decide_eq_false (by decide)))) rfl rfl rfl ?_
  refine KL.op (R.assign rfl rfl) rfl rfl rfl ?_
  refine KL.nil ?_
  refine KQ.seq ?_
  refine KC.condF rfl ?_
  refine KC.seq ?_
  refine KC.seq ?_
  refine KC.region ?_
  refine KL.op ((R.eql rfl rfl rfl).val (congrArg Value.bool (decide_eq_false (by decide)))) rfl rfl rfl ?_
  refine KL.op (R.assign rfl rfl) rfl rfl rfl ?_
  refine KL.nil ?_
  refine KQ.seq ?_
  refine KC.condF rfl ?_
  refine KC.seq ?_
  refine KC.region ?_
  refine KL.op ((R.eql rfl rfl rfl).val (congrArg Value.bool (decide_eq_false (by decide)))) rfl rfl rfl ?_
  refine KL.op (R.assign rfl rfl) rfl rfl rfl ?_
  refine KL.nil ?_
  refine KQ.seq ?_
  refine KC.condF rfl ?_
  refine KC.region ?_
  refine KL.op ((R.eql rfl rfl rfl).val (congrArg Value.bool (decide_eq_false (by decide)))) rfl rfl rfl ?_
  refine KL.op (R.assign rfl rfl) rfl rfl rfl ?_
  refine KL.nil ?_
  refine KQ.seq ?_
  refine KC.condF rfl ?_
  refine KC.seq ?_
  refine KC.region ?_
  refine KL.op ((R.eql rfl rfl rfl).val (congrArg Value.bool (decide_eq_false (by decide)))) rfl rfl rfl ?_
  refine KL.op (R.assign rfl rfl) rfl rfl rfl ?_
  refine KL.nil ?_
  refine KQ.seq ?_
  refine KC.condF rfl ?_
  refine KC.seq ?_
  refine KC.region ?_
  refine KL.op ((R.eql rfl rfl rfl).val (congrArg Value.bool (decide_eq_false (by decide)))) rfl rfl rfl ?_
  refine KL.op (R.assign rfl rfl) rfl rfl rfl ?_
  refine KL.nil ?_
  refine KQ.seq ?_
  refine KC.condF rfl ?_
  refine KC.seq ?_
  refine KC.region ?_
  refine KL.op ((R.eql rfl rfl rfl).val (congrArg Value.bool (decide_eq_true (by decide)))) rfl rfl rfl ?_
  refine KL.op (R.assign rfl rfl) rfl rfl rfl ?_
  refine KL.nil ?_
  refine KQ.seq ?_
  refine KC.condT rfl ?_
  refine KC.seq ?_
  refine KC.seq ?_
  refine KC.region ?_
  refine KL.op ((by first | exact R.fieldAddr rfl Try.underlying36 rfl rfl sz2 rfl | exact R.fieldAddrP rfl Try.underlying36 rfl rfl sz2 rfl)) rfl rfl rfl ?_
  refine KL.op (R.load rfl Try.underlying2 rfl rfl (by first | exact cell_of bx rfl | exact cell_of bq rfl | assumption)) rfl rfl rfl ?_
  refine KL.op ((by first | exact R.fieldAddr rfl Try.underlying36 rfl rfl sz2 rfl | exact R.fieldAddrP rfl Try.underlying36 rfl rfl sz2 rfl)) rfl rfl rfl ?_
  refine KL.op (R.load rfl Try.underlying2 rfl rfl (by first | exact cell_of bx rfl | exact cell_of bq rfl | assumption)) rfl rfl rfl ?_
  refine KL.op (R.convW rfl Try.underlying2 Try.underlying21 rfl) rfl rfl rfl ?_
  refine KL.op (R.convI rfl Try.underlying21 Try.underlying2 rfl (by have := inR_wrap .i32 x.c; dsimp only [InR] at this ⊢; omega)) rfl rfl rfl ?_
  refine KL.op (R.neq rfl rfl rfl) rfl rfl rfl ?_
  refine KL.nil ?_
  refine KQ.seq ?_
  refine KC.iteL rfl ?_ ?_
  · intro hc49
    try simp only [decide_eq_true_eq, decide_eq_false_iff_not, Bool.not_eq_true', Bool.not_eq_false', Bool.and_eq_true, Bool.or_eq_false_iff] at hc49
    have h32 : ¬ (-2147483648 ≤ x.c ∧ x.c ≤ 2147483647) := fun h => absurd (wrap32.2 h) (by omega)
    refine KC.seq ?_
    refine KC.region ?_
    refine KL.op (R.assign rfl rfl) rfl rfl rfl ?_
    refine KL.nil ?_
    refine KQ.seq ?_
    refine KC.ret ?_
    refine KQ.retThen ?_
    refine KQ.retBlock ?_
    refine KQ.retThen ?_
    refine KQ.ofRet ?_
    refine KQ.fin1 Try.results18 rfl ?_
    first
      | exact ⟨⟨true, rfl, fun _ => (Isp.may_iff hx hll (fun y hy => hs0.rng y hy)).2 ⟨hk, by rw [hf]; unfold Isp.mayC; omega⟩, fun _ => rfl⟩, o0⟩
      | exact ⟨⟨false, rfl, fun h => absurd h (by decide), fun h => absurd ((Isp.may_iff hx hll (fun y hy => hs0.rng y hy)).1 h) (fun ⟨k1, k2⟩ => by rw [hf] at k2; unfold Isp.mayC at k2; omega)⟩, o0⟩
      | exact ⟨⟨_, rfl, fun h => (Isp.may_iff hx hll (fun y hy => hs0.rng y hy)).2 ⟨hk, by rw [hf]; unfold Isp.mayC; have := of_decide_eq_true h; omega⟩, fun h => by have k2 := ((Isp.may_iff hx hll (fun y hy => hs0.rng y hy)).1 h).2; rw [hf] at k2; unfold Isp.mayC at k2; exact decide_eq_true (by omega)⟩, o0⟩
  · intro hc49
    try simp only [decide_eq_true_eq, decide_eq_false_iff_not, Bool.not_eq_true', Bool.not_eq_false', Bool.and_eq_true, Bool.or_eq_false_iff] at hc49
    have h32 : (-2147483648 ≤ x.c ∧ x.c ≤ 2147483647) := wrap32.1 (by omega)
    refine KC.skip ?_
    refine KQ.seq ?_
    refine KC.region ?_
    refine KL.op (R.indexAddrArr (j := 2) rfl Try.underlying71 sz4 rfl rfl (by first | rfl | omega) (by omega)) rfl rfl rfl ?_
    refine KL.opS (S.store rfl sz4 rfl rfl rfl rfl bq (by simp)) rfl rfl ?_
    rintro H4 ⟨u4, b4⟩
    try dsimp only at u4
    try dsimp only at b4
    have o0 := o0.upd u4 (by omega)
    have zu4 := u4.1
    have bx := ((u4).2 _ (by omega)).trans bx
    have bq := b4
    refine KL.nil ?_
    refine KQ.normBlock ?_
    refine KQ.seq ?_
    refine KC.seq ?_
    refine KC.region ?_
    refine KL.op (R.indexAddrArr (j := 0) rfl Try.underlying71 sz4 rfl rfl (by first | rfl | omega) (by omega)) rfl rfl rfl ?_
    refine KL.op (R.load rfl Try.underlying4 rfl rfl (by first | exact cell_of bx rfl | exact cell_of bq rfl | assumption)) rfl rfl rfl ?_
    refine KL.op (R.move rfl rfl) rfl rfl rfl ?_
    refine KL.op ((by first | exact R.fieldAddr rfl Try.underlying36 rfl rfl sz33 rfl | exact R.fieldAddrP rfl Try.underlying36 rfl rfl sz33 rfl)) rfl rfl rfl ?_
    refine KL.op (R.load rfl Try.underlying33 rfl rfl (by first | exact cell_of bx rfl | exact cell_of bq rfl | assumption)) rfl rfl rfl ?_
    refine KL.op (R.eql rfl rfl rfl) rfl rfl rfl ?_
    refine KL.op (R.pick rfl rfl rfl) rfl rfl rfl ?_
    refine KL.op (R.move rfl rfl) rfl rfl rfl ?_
    refine KL.case (d := 61) rfl ?_ ?_
    · intro hg61
      try simp only [decide_eq_true_eq, decide_eq_false_iff_not, Bool.not_eq_true', Bool.not_eq_false', Bool.and_eq_true, Bool.or_eq_false_iff] at hg61
      refine KL.op (R.indexAddrArr (j := 1) rfl Try.underlying71 sz4 rfl rfl (by first | rfl | omega) (by omega)) rfl rfl rfl ?_
      refine KL.op (R.load rfl Try.underlying4 rfl rfl (by first | exact cell_of bx rfl | exact cell_of bq rfl | assumption)) rfl rfl rfl ?_
      refine KL.op (R.move rfl rfl) rfl rfl rfl ?_
      refine KL.op ((by first | exact R.fieldAddr rfl Try.underlying36 rfl rfl sz33 rfl | exact R.fieldAddrP rfl Try.underlying36 rfl rfl sz33 rfl)) rfl rfl rfl ?_
      refine KL.op (R.load rfl Try.underlying33 rfl rfl (by first | exact cell_of bx rfl | exact cell_of bq rfl | assumption)) rfl rfl rfl ?_
      refine KL.op (R.eql rfl rfl rfl) rfl rfl rfl ?_
      refine KL.op (R.pick rfl rfl rfl) rfl rfl rfl ?_
      refine KL.op (R.pick rfl rfl rfl) rfl rfl rfl ?_
      refine KL.op (R.move rfl rfl) rfl rfl rfl ?_
      refine KL.case (d := 70) rfl ?_ ?_
      · intro hg70
        try simp only [decide_eq_true_eq, decide_eq_false_iff_not, Bool.not_eq_true', Bool.not_eq_false', Bool.and_eq_true, Bool.or_eq_false_iff] at hg70
        refine KL.op (R.indexAddrArr (j := 2) rfl Try.underlying71 sz4 rfl rfl (by first | rfl | omega) (by omega)) rfl rfl rfl ?_
        refine KL.op (R.load rfl Try.underlying4 rfl rfl (by first | exact cell_of bx rfl | exact cell_of bq rfl | assumption)) rfl rfl rfl ?_
        refine KL.op (R.move rfl rfl) rfl rfl rfl ?_
        refine KL.skip rfl rfl rfl ?_
        refine KL.skip rfl rfl rfl ?_
        refine KL.skip rfl rfl rfl ?_
        refine KL.op (R.pick rfl rfl rfl) rfl rfl rfl ?_
        refine KL.op (R.pick rfl rfl rfl) rfl rfl rfl ?_
        refine KL.op (R.move rfl rfl) rfl rfl rfl ?_
        refine KL.op (R.indexAddrArr (j := 3) rfl Try.underlying71 sz4 rfl rfl (by first | rfl | omega) (by omega)) rfl rfl rfl ?_
        refine KL.op (R.load rfl Try.underlying4 rfl rfl (by first | exact cell_of bx rfl | exact cell_of bq rfl | assumption)) rfl rfl rfl ?_
        refine KL.op (R.move rfl rfl) rfl rfl rfl ?_
        refine KL.op ((by first | exact R.fieldAddr rfl Try.underlying36 rfl rfl sz34 rfl | exact R.fieldAddrP rfl Try.underlying36 rfl rfl sz34 rfl)) rfl rfl rfl ?_
        refine KL.op (R.load rfl Try.underlying34 rfl rfl (by first | exact cell_of bx rfl | exact cell_of bq rfl | assumption)) rfl rfl rfl ?_
        refine KL.op (R.lenS rfl Try.underlying34 rfl hs) rfl rfl rfl ?_
        refine KL.op (R.eql rfl rfl rfl) rfl rfl rfl ?_
        refine KL.op (R.pick rfl rfl rfl) rfl rfl rfl ?_
        refine KL.op (R.pick rfl rfl rfl) rfl rfl rfl ?_
        refine KL.op (R.assign rfl rfl) rfl rfl rfl ?_
        refine KL.nil ?_
        refine KQ.seq ?_
        refine KC.ret ?_
        refine KQ.ofRet ?_
        refine KQ.fin1 Try.results18 rfl ?_
        first
          | exact ⟨⟨true, rfl, fun _ => (Isp.may_iff hx hll (fun y hy => hs0.rng y hy)).2 ⟨hk, by rw [hf]; unfold Isp.mayC; omega⟩, fun _ => rfl⟩, o0⟩
          | exact ⟨⟨false, rfl, fun h => absurd h (by decide), fun h => absurd ((Isp.may_iff hx hll (fun y hy => hs0.rng y hy)).1 h) (fun ⟨k1, k2⟩ => by rw [hf] at k2; unfold Isp.mayC at k2; omega)⟩, o0⟩
          | exact ⟨⟨_, rfl, fun h => (Isp.may_iff hx hll (fun y hy => hs0.rng y hy)).2 ⟨hk, by rw [hf]; unfold Isp.mayC; have := of_decide_eq_true h; omega⟩, fun h => by have k2 := ((Isp.may_iff hx hll (fun y hy => hs0.rng y hy)).1 h).2; rw [hf] at k2; unfold Isp.mayC at k2; exact decide_eq_true (by omega)⟩, o0⟩
      · intro hg70
        try simp only [decide_eq_true_eq, decide_eq_false_iff_not, Bool.not_eq_true', Bool.not_eq_false', Bool.and_eq_true, Bool.or_eq_false_iff] at hg70
        refine KL.skip rfl rfl rfl ?_
        refine KL.skip rfl rfl rfl ?_
        refine KL.skip rfl rfl rfl ?_
        refine KL.skip rfl rfl rfl ?_
        refine KL.skip rfl rfl rfl ?_
        refine KL.skip rfl rfl rfl ?_
        refine KL.skip rfl rfl rfl ?_
        refine KL.op (R.pick rfl rfl rfl) rfl rfl rfl ?_
        refine KL.op (R.move rfl rfl) rfl rfl rfl ?_
        refine KL.skip rfl rfl rfl ?_
        refine KL.skip rfl rfl rfl ?_
        refine KL.skip rfl rfl rfl ?_
        refine KL.skip rfl rfl rfl ?_
        refine KL.skip rfl rfl rfl ?_
        refine KL.skip rfl rfl rfl ?_
        refine KL.skip rfl rfl rfl ?_
        refine KL.skip rfl rfl rfl ?_
        refine KL.op (R.pick rfl rfl rfl) rfl rfl rfl ?_
        refine KL.op (R.assign rfl rfl) rfl rfl rfl ?_
        refine KL.nil ?_
        refine KQ.seq ?_
        refine KC.ret ?_
        refine KQ.ofRet ?_
        refine KQ.fin1 Try.results18 rfl ?_
        first
          | exact ⟨⟨true, rfl, fun _ => (Isp.may_iff hx hll (fun y hy => hs0.rng y hy)).2 ⟨hk, by rw [hf]; unfold Isp.mayC; omega⟩, fun _ => rfl⟩, o0⟩
          | exact ⟨⟨false, rfl, fun h => absurd h (by decide), fun h => absurd ((Isp.may_iff hx hll (fun y hy => hs0.rng y hy)).1 h) (fun ⟨k1, k2⟩ => by rw [hf] at k2; unfold Isp.mayC at k2; omega)⟩, o0⟩
          | exact ⟨⟨_, rfl, fun h => (Isp.may_iff hx hll (fun y hy => hs0.rng y hy)).2 ⟨hk, by rw [hf]; unfold Isp.mayC; have := of_decide_eq_true h; omega⟩, fun h => by have k2 := ((Isp.may_iff hx hll (fun y hy => hs0.rng y hy)).1 h).2; rw [hf] at k2; unfold Isp.mayC at k2; exact decide_eq_true (by omega)⟩, o0⟩
    · intro hg61
      try simp only [decide_eq_true_eq, decide_eq_false_iff_not, Bool.not_eq_true', Bool.not_eq_false', Bool.and_eq_true, Bool.or_eq_false_iff] at hg61
      refine KL.skip rfl rfl rfl ?_
      refine KL.skip rfl rfl rfl ?_
      refine KL.skip rfl rfl rfl ?_
      refine KL.skip rfl rfl rfl ?_
      refine KL.skip rfl rfl rfl ?_
      refine KL.skip rfl rfl rfl ?_
      refine KL.skip rfl rfl rfl ?_
      refine KL.op (R.pick rfl rfl rfl) rfl rfl rfl ?_
      refine KL.op (R.move rfl rfl) rfl rfl rfl ?_
      refine KL.skip rfl rfl rfl ?_
      refine KL.skip rfl rfl rfl ?_
      refine KL.skip rfl rfl rfl ?_
      refine KL.skip rfl rfl rfl ?_
      refine KL.skip rfl rfl rfl ?_
      refine KL.skip rfl rfl rfl ?_
      refine KL.skip rfl rfl rfl ?_
      refine KL.op (R.pick rfl rfl rfl) rfl rfl rfl ?_
      refine KL.op (R.move rfl rfl) rfl rfl rfl ?_
      refine KL.skip rfl rfl rfl ?_
      refine KL.skip rfl rfl rfl ?_
      refine KL.skip rfl rfl rfl ?_
      refine KL.skip rfl rfl rfl ?_
      refine KL.skip rfl rfl rfl ?_
      refine KL.skip rfl rfl rfl ?_
      refine KL.skip rfl rfl rfl ?_
      refine KL.skip rfl rfl rfl ?_
      refine KL.op (R.pick rfl rfl rfl) rfl rfl rfl ?_
      refine KL.op (R.assign rfl rfl) rfl rfl rfl ?_
      refine KL.nil ?_
      refine KQ.seq ?_
      refine KC.ret ?_
      refine KQ.ofRet ?_
      refine KQ.fin1 Try.results18 rfl ?_
      first
        | exact ⟨⟨true, rfl, fun _ => (Isp.may_iff hx hll (fun y hy => hs0.rng y hy)).2 ⟨hk, by rw [hf]; unfold Isp.mayC; omega⟩, fun _ => rfl⟩, o0⟩
        | exact ⟨⟨false, rfl, fun h => absurd h (by decide), fun h => absurd ((Isp.may_iff hx hll (fun y hy => hs0.rng y hy)).1 h) (fun ⟨k1, k2⟩ => by rw [hf] at k2; unfold Isp.mayC at k2; omega)⟩, o0⟩
        | exact ⟨⟨_, rfl, fun h => (Isp.may_iff hx hll (fun y hy => hs0.rng y hy)).2 ⟨hk, by rw [hf]; unfold Isp.mayC; have := of_decide_eq_true h; omega⟩, fun h => by have k2 := ((Isp.may_iff hx hll (fun y hy => hs0.rng y hy)).1 h).2; rw [hf] at k2; unfold Isp.mayC at k2; exact decide_eq_true (by omega)⟩, o0⟩

set_option maxRecDepth 100000 in
set_option maxHeartbeats 4000000 in
theorem may9 {H : Heap} {x : Ins} {vl : Value} (hx : InsR x) (hll : x.l.length < 4294967296) (hs : Sl 1 (EInt .u32) H vl x.l) (hk : Opc.known x.op = true) (hf : Opc.form x.op = 9) : Ct Try.prog 18 [insV x vl] H (fun u H' => (∃ b, u = .bool b ∧ (b = true ↔ Isp.May x)) ∧ Old H H') := by
  refine Ct.mk Try.func18 rfl Try.ntmps18 rfl ?_
  intro W0 hW0
  have o0 : Old H H := Old.refl H
  have hs0 := hs
  unfold insV
  refine KC.seq ?_
  refine KC.region ?_
  refine KL.opM (M.box rfl rfl rfl) rfl rfl rfl ?_
  rintro _ H1 ⟨rfl, n1⟩
  have z1 := n1.2.1
  have o0 := o0.trans n1.1
  have hs := hs.old n1.1
  have b1 := n1.2.2
  have bx := b1
  refine KL.op (R.assign rfl rfl) rfl rfl rfl ?_
  refine KL.nil ?_
  refine KQ.seq ?_
  refine KC.seq ?_
  refine KC.seq ?_
  refine KC.region ?_
  refine KL.op ((by first | exact R.fieldAddr rfl Try.underlying36 rfl rfl sz5 rfl | exact R.fieldAddrP rfl Try.underlying36 rfl rfl sz5 rfl)) rfl rfl rfl ?_
  refine KL.op (R.load rfl Try.underlying5 rfl rfl (by first | exact cell_of bx rfl | assumption)) rfl rfl rfl ?_
  refine KL.call rfl rfl rfl rfl Try.call28 rfl rfl rfl (Known_k _) ?_
  rintro _ _ ⟨rfl, rfl⟩
  refine KL.op (R.not rfl rfl) rfl rfl rfl ?_
  refine KL.nil ?_
  refine KQ.seq ?_
  refine KC.condIs false rfl (by rw [hk]; rfl) ?_
  refine KC.skip ?_
  refine KQ.seq ?_
  refine KC.seq ?_
  refine KC.region ?_
  refine KL.op (R.buildArr (cs := #[(.bool false), (.bool false), (.bool false), (.bool false)]) rfl Try.underlying71 zr71 sz4 rfl (by kernel_rfl)) rfl rfl rfl ?_
  refine KL.opM (M.alloc rfl zr71 rfl) rfl rfl rfl ?_
  rintro _ H2 ⟨rfl, n2⟩
  have z2 := n2.2.1
  have o0 := o0.trans n2.1
  have hs := hs.old n2.1
  have bx := (n2.1).blk bx
  have b2 := n2.2.2
  have bq := b2
  refine KL.opS (S.storeAgg rfl sz71 rfl rfl (rfl) (by intro u hu; simp only [List.mem_cons, List.not_mem_nil, or_false] at hu; rcases hu with rfl | rfl | rfl | rfl <;> rfl) bq (by simp)) rfl rfl ?_
  rintro H3 ⟨u3, b3⟩
  have o0 := o0.upd u3 (by omega)
  have zu3 := u3.1
  have bx := ((u3).2 _ (by omega)).trans bx
  have bq := b3
  rw [over_all (by rfl)] at bq
  refine KL.nil ?_
  refine KQ.seq ?_
  refine KC.seq ?_
  refine KC.seq ?_
  refine KC.region ?_
  refine KL.op ((by first | exact R.fieldAddr rfl Try.underlying36 rfl rfl sz5 rfl | exact R.fieldAddrP rfl Try.underlying36 rfl rfl sz5 rfl)) rfl rfl rfl ?_
  refine KL.op (R.load rfl Try.underlying5 rfl rfl (by first | exact cell_of bx rfl | exact cell_of bq rfl | assumption)) rfl rfl rfl ?_
  refine KL.call rfl rfl rfl rfl Try.call29 rfl rfl rfl (Form_k _) ?_
  rintro _ _ ⟨rfl, rfl⟩
  rw [hf]
  refine KL.nil ?_
  refine KQ.seq ?_
  refine KC.block ?_
  refine KC.seq ?_
  refine KC.region ?_
  refine KL.op ((R.eql rfl rfl rfl).val (congrArg Value.bool (decide_eq_false (by decide)))) rfl rfl rfl ?_
  refine KL.op (R.assign rfl rfl) rfl rfl rfl ?_
  refine KL.nil ?_
  refine KQ.seq ?_
  refine KC.condF rfl ?_
  refine KC.seq ?_
  refine KC.seq ?_
  refine KC.region ?_
  refine KL.op ((R.eql rfl rfl rfl).val (congrArg Value.bool (decide_eq_false (by decide)))) rfl rfl rfl ?_
  refine KL.op (R.assign rfl rfl) rfl rfl rfl ?_
  refine KL.nil ?_
  refine KQ.seq ?_
  refine KC.condF rfl ?_
  refine KC.seq ?_
  refine KC.region ?_
  refine KL.op ((R.eql rfl rfl rfl).val (congrArg Value.bool (decide_eq_false (by decide)))) rfl rfl rfl ?_
  refine KL.op (R.assign rfl rfl) rfl rfl rfl ?_
  refine KL.nil ?_
  refine KQ.seq ?_
  refine KC.condF rfl ?_
  refine KC.region ?_
  refine KL.op ((R.eql rfl rfl rfl).val (congrArg Value.bool (decide_eq_false (by decide)))) rfl rfl rfl ?_
  refine KL.op (R.assign rfl rfl) rfl rfl rfl ?_
  refine KL.nil ?_
  refine KQ.seq ?_
  refine KC.condF rfl ?_
  refine KC.seq ?_
  refine KC.region ?_
  refine KL.op ((R.eql rfl rfl rfl).val (congrArg Value.bool (decide_eq_false (by decide)))) rfl rfl rfl ?_
  refine KL.op (R.assign rfl rfl) rfl rfl rfl ?_
  refine KL.nil ?_
  refine KQ.seq ?_
  refine KC.condF rfl ?_
  refine KC.seq ?_
  refine KC.region ?_
  refine KL.op ((R.eql rfl rfl rfl).val (congrArg Value.bool (decide_eq_false (by decide)))) rfl rfl rfl ?_
  refine KL.op (R.assign rfl rfl) rfl rfl rfl ?_
  refine KL.nil ?_
  refine KQ.seq ?_
  refine KC.condF rfl ?_
  refine KC.seq ?_
  refine KC.region ?_
  refine KL.op ((R.eql rfl rfl rfl).val (congrArg Value.bool (decide_eq_false (by decide)))) rfl rfl rfl ?_
  refine KL.op (R.assign rfl rfl) rfl rfl rfl ?_
  refine KL.nil ?_
  refine KQ.seq ?_
  refine KC.condF rfl ?_
  refine KC.seq ?_
  refine KC.region ?_
  refine KL.op ((R.eql rfl rfl rfl).val (congrArg Value.bool (decide_eq_true (by decide)))) rfl rfl rfl ?_
  refine KL.op (R.assign rfl rfl) rfl rfl rfl ?_
  refine KL.nil ?_
  refine KQ.seq ?_
  refine KC.condT rfl ?_
  refine KC.region ?_
  refine KL.op (R.indexAddrArr (j := 2) rfl Try.underlying71 sz4 rfl rfl (by first | rfl | omega) (by omega)) rfl rfl rfl ?_
  refine KL.opS (S.store rfl sz4 rfl rfl rfl rfl bq (by simp)) rfl rfl ?_
  rintro H4 ⟨u4, b4⟩
  try dsimp only at u4
  try dsimp only at b4
  have o0 := o0.upd u4 (by omega)
  have zu4 := u4.1
  have bx := ((u4).2 _ (by omega)).trans bx
  have bq := b4
  refine KL.nil ?_
  refine KQ.normBlock ?_
  refine KQ.seq ?_
  refine KC.seq ?_
  refine KC.region ?_
  refine KL.op (R.indexAddrArr (j := 0) rfl Try.underlying71 sz4 rfl rfl (by first | rfl | omega) (by omega)) rfl rfl rfl ?_
  refine KL.op (R.load rfl Try.underlying4 rfl rfl (by first | exact cell_of bx rfl | exact cell_of bq rfl | assumption)) rfl rfl rfl ?_
  refine KL.op (R.move rfl rfl) rfl rfl rfl ?_
  refine KL.op ((by first | exact R.fieldAddr rfl Try.underlying36 rfl rfl sz33 rfl | exact R.fieldAddrP rfl Try.underlying36 rfl rfl sz33 rfl)) rfl rfl rfl ?_
  refine KL.op (R.load rfl Try.underlying33 rfl rfl (by first | exact cell_of bx rfl | exact cell_of bq rfl | assumption)) rfl rfl rfl ?_
  refine KL.op (R.eql rfl rfl rfl) rfl rfl rfl ?_
  refine KL.op (R.pick rfl rfl rfl) rfl rfl rfl ?_
  refine KL.op (R.move rfl rfl) rfl rfl rfl ?_
  refine KL.case (d := 61) rfl ?_ ?_
  · intro hg61
    try simp only [decide_eq_true_eq, decide_eq_false_iff_not, Bool.not_eq_true', Bool.not_eq_false', Bool.and_eq_true, Bool.or_eq_false_iff] at hg61
    refine KL.op (R.indexAddrArr (j := 1) rfl Try.underlying71 sz4 rfl rfl (by first | rfl | omega) (by omega)) rfl rfl rfl ?_
    refine KL.op (R.load rfl Try.underlying4 rfl rfl (by first | exact cell_of bx rfl | exact cell_of bq rfl | assumption)) rfl rfl rfl ?_
    refine KL.op (R.move rfl rfl) rfl rfl rfl ?_
    refine KL.op ((by first | exact R.fieldAddr rfl Try.underlying36 rfl rfl sz33 rfl | exact R.fieldAddrP rfl Try.underlying36 rfl rfl sz33 rfl)) rfl rfl rfl ?_
    refine KL.op (R.load rfl Try.underlying33 rfl rfl (by first | exact cell_of bx rfl | exact cell_of bq rfl | assumption)) rfl rfl rfl ?_
    refine KL.op (R.eql rfl rfl rfl) rfl rfl rfl ?_
    refine KL.op (R.pick rfl rfl rfl) rfl rfl rfl ?_
    refine KL.op (R.pick rfl rfl rfl) rfl rfl rfl ?_
    refine KL.op (R.move rfl rfl) rfl rfl rfl ?_
    refine KL.case (d := 70) rfl ?_ ?_
    · intro hg70
      try simp only [decide_eq_true_eq, decide_eq_false_iff_not, Bool.not_eq_true', Bool.not_eq_false', Bool.and_eq_true, Bool.or_eq_false_iff] at hg70
      refine KL.op (R.indexAddrArr (j := 2) rfl Try.underlying71 sz4 rfl rfl (by first | rfl | omega) (by omega)) rfl rfl rfl ?_
      refine KL.op (R.load rfl Try.underlying4 rfl rfl (by first | exact cell_of bx rfl | exact cell_of bq rfl | assumption)) rfl rfl rfl ?_
      refine KL.op (R.move rfl rfl) rfl rfl rfl ?_
      refine KL.skip rfl rfl rfl ?_
      refine KL.skip rfl rfl rfl ?_
      refine KL.skip rfl rfl rfl ?_
      refine KL.op (R.pick rfl rfl rfl) rfl rfl rfl ?_
      refine KL.op (R.pick rfl rfl rfl) rfl rfl rfl ?_
      refine KL.op (R.move rfl rfl) rfl rfl rfl ?_
      refine KL.op (R.indexAddrArr (j := 3) rfl Try.underlying71 sz4 rfl rfl (by first | rfl | omega) (by omega)) rfl rfl rfl ?_
      refine KL.op (R.load rfl Try.underlying4 rfl rfl (by first | exact cell_of bx rfl | exact cell_of bq rfl | assumption)) rfl rfl rfl ?_
      refine KL.op (R.move rfl rfl) rfl rfl rfl ?_
      refine KL.op ((by first | exact R.fieldAddr rfl Try.underlying36 rfl rfl sz34 rfl | exact R.fieldAddrP rfl Try.underlying36 rfl rfl sz34 rfl)) rfl rfl rfl ?_
      refine KL.op (R.load rfl Try.underlying34 rfl rfl (by first | exact cell_of bx rfl | exact cell_of bq rfl | assumption)) rfl rfl rfl ?_
      refine KL.op (R.lenS rfl Try.underlying34 rfl hs) rfl rfl rfl ?_
      refine KL.op (R.eql rfl rfl rfl) rfl rfl rfl ?_
      refine KL.op (R.pick rfl rfl rfl) rfl rfl rfl ?_
      refine KL.op (R.pick rfl rfl rfl) rfl rfl rfl ?_
      refine KL.op (R.assign rfl rfl) rfl rfl rfl ?_
      refine KL.nil ?_
      refine KQ.seq ?_
      refine KC.ret ?_
      refine KQ.ofRet ?_
      refine KQ.fin1 Try.results18 rfl ?_
      first
        | exact ⟨⟨true, rfl, fun _ => (Isp.may_iff hx hll (fun y hy => hs0.rng y hy)).2 ⟨hk, by rw [hf]; unfold Isp.mayC; omega⟩, fun _ => rfl⟩, o0⟩
        | exact ⟨⟨false, rfl, fun h => absurd h (by decide), fun h => absurd ((Isp.may_iff hx hll (fun y hy => hs0.rng y hy)).1 h) (fun ⟨k1, k2⟩ => by rw [hf] at k2; unfold Isp.mayC at k2; omega)⟩, o0⟩
        | exact ⟨⟨_, rfl, fun h => (Isp.may_iff hx hll (fun y hy => hs0.rng y hy)).2 ⟨hk, by rw [hf]; unfold Isp.mayC; have := of_decide_eq_true h; omega⟩, fun h => by have k2 := ((Isp.may_iff hx hll (fun y hy => hs0.rng y hy)).1 h).2; rw [hf] at k2; unfold Isp.mayC at k2; exact decide_eq_true (by omega)⟩, o0⟩
    · intro hg70
      try simp only [decide_eq_true_eq, decide_eq_false_iff_not, Bool.not_eq_true', Bool.not_eq_false', Bool.and_eq_true, Bool.or_eq_false_iff] at hg70
      refine KL.skip rfl rfl rfl ?_
      refine KL.skip rfl rfl rfl ?_
      refine KL.skip rfl rfl rfl ?_
      refine KL.skip rfl rfl rfl ?_
      refine KL.skip rfl rfl rfl ?_
      refine KL.skip rfl rfl rfl ?_
      refine KL.skip rfl rfl rfl ?_
      refine KL.op (R.pick rfl rfl rfl) rfl rfl rfl ?_
      refine KL.op (R.move rfl rfl) rfl rfl rfl ?_
      refine KL.skip rfl rfl rfl ?_
      refine KL.skip rfl rfl rfl ?_
      refine KL.skip rfl rfl rfl ?_
      refine KL.skip rfl rfl rfl ?_
      refine KL.skip rfl rfl rfl ?_
      refine KL.skip rfl rfl rfl ?_
      refine KL.skip rfl rfl rfl ?_
      refine KL.skip rfl rfl rfl ?_
      refine KL.op (R.pick rfl rfl rfl) rfl rfl rfl ?_
      refine KL.op (R.assign rfl rfl) rfl rfl rfl ?_
      refine KL.nil ?_
      refine KQ.seq ?_
      refine KC.ret ?_
      refine KQ.ofRet ?_
      refine KQ.fin1 Try.results18 rfl ?_
      first
        | exact ⟨⟨true, rfl, fun _ => (Isp.may_iff hx hll (fun y hy => hs0.rng y hy)).2 ⟨hk, by rw [hf]; unfold Isp.mayC; omega⟩, fun _ => rfl⟩, o0⟩
        | exact ⟨⟨false, rfl, fun h => absurd h (by decide), fun h => absurd ((Isp.may_iff hx hll (fun y hy => hs0.rng y hy)).1 h) (fun ⟨k1, k2⟩ => by rw [hf] at k2; unfold Isp.mayC at k2; omega)⟩, o0⟩
        | exact ⟨⟨_, rfl, fun h => (Isp.may_iff hx hll (fun y hy => hs0.rng y hy)).2 ⟨hk, by rw [hf]; unfold Isp.mayC; have := of_decide_eq_true h; omega⟩, fun h => by have k2 := ((Isp.may_iff hx hll (fun y hy => hs0.rng y hy)).1 h).2; rw [hf] at k2; unfold Isp.mayC at k2; exact decide_eq_true (by omega)⟩, o0⟩
  · intro hg61
    try simp only [decide_eq_true_eq, decide_eq_false_iff_not, Bool.not_eq_true', Bool.not_eq_false', Bool.and_eq_true, Bool.or_eq_false_iff] at hg61
    refine KL.skip rfl rfl rfl ?_
    refine KL.skip rfl rfl rfl ?_
    refine KL.skip rfl rfl rfl ?_
    refine KL.skip rfl rfl rfl ?_
    refine KL.skip rfl rfl rfl ?_
    refine KL.skip rfl rfl rfl ?_
    refine KL.skip rfl rfl rfl ?_
    refine KL.op (R.pick rfl rfl rfl) rfl rfl rfl ?_
    refine KL.op (R.move rfl rfl) rfl rfl rfl ?_
    refine KL.skip rfl rfl rfl ?_
    refine KL.skip rfl rfl rfl ?_
    refine KL.skip rfl rfl rfl ?_
    refine KL.skip rfl rfl rfl ?_
    refine KL.skip rfl rfl rfl ?_
    refine KL.skip rfl rfl rfl ?_
    refine KL.skip rfl rfl rfl ?_
    refine KL.op (R.pick rfl rfl rfl) rfl rfl rfl ?_
    refine KL.op (R.move rfl rfl) rfl rfl rfl ?_
    refine KL.skip rfl rfl rfl ?_
    refine KL.skip rfl rfl rfl ?_
    refine KL.skip rfl rfl rfl ?_
    refine KL.skip rfl rfl rfl ?_
    refine KL.skip rfl rfl rfl ?_
    refine KL.skip rfl rfl rfl ?_
    refine KL.skip rfl rfl rfl ?_
    refine KL.skip rfl rfl rfl ?_
    refine KL.op (R.pick rfl rfl rfl) rfl rfl rfl ?_
    refine KL.op (R.assign rfl rfl) rfl rfl rfl ?_
    refine KL.nil ?_
    refine KQ.seq ?_
    refine KC.ret ?_
    refine KQ.ofRet ?_
    refine KQ.fin1 Try.results18 rfl ?_
    first
      | exact ⟨⟨true, rfl, fun _ => (Isp.may_iff hx hll (fun y hy => hs0.rng y hy)).2 ⟨hk, by rw [hf]; unfold Isp.mayC; omega⟩, fun _ => rfl⟩, o0⟩
      | exact ⟨⟨false, rfl, fun h => absurd h (by decide), fun h => absurd ((Isp.may_iff hx hll (fun y hy => hs0.rng y hy)).1 h) (fun ⟨k1, k2⟩ => by rw [hf] at k2; unfold Isp.mayC at k2; omega)⟩, o0⟩
      | exact ⟨⟨_, rfl, fun h => (Isp.may_iff hx hll (fun y hy => hs0.rng y hy)).2 ⟨hk, by rw [hf]; unfold Isp.mayC; have := of_decide_eq_true h; omega⟩, fun h => by have k2 := ((Isp.may_iff hx hll (fun y hy => hs0.rng y hy)).1 h).2; rw [hf] at k2; unfold Isp.mayC at k2; exact decide_eq_true (by omega)⟩, o0⟩

theorem may_any {H : Heap} {x : Ins} {vl : Value} (hx : InsR x) (hll : x.l.length < 4294967296) (hs : Sl 1 (EInt .u32) H vl x.l) : Ct Try.prog 18 [insV x vl] H (fun u H' => (∃ b, u = .bool b ∧ (b = true ↔ Isp.May x)) ∧ Old H H') := by
  cases hk : Opc.known x.op with
  | false => exact may_no hx hll hs hk
  | true =>
    have hfr := Isp.form_range hx.1
    have hc : Opc.form x.op = 0 ∨ Opc.form x.op = 1 ∨ Opc.form x.op = 2 ∨ Opc.form x.op = 3 ∨ Opc.form x.op = 4 ∨ Opc.form x.op = 5 ∨ Opc.form x.op = 6 ∨ Opc.form x.op = 7 ∨ Opc.form x.op = 8 ∨ Opc.form x.op = 9 := by omega
    rcases hc with h | h | h | h | h | h | h | h | h | h
    · exact may0 hx hll hs hk h
    · exact may1 hx hll hs hk h
    · exact may2 hx hll hs hk h
    · exact may3 hx hll hs hk h
    · exact may4 hx hll hs hk h
    · exact may5 hx hll hs hk h
    · exact may6 hx hll hs hk h
    · exact may7 hx hll hs hk h
    · exact may8 hx hll hs hk h
    · exact may9 hx hll hs hk h
end Go.Proofs.Ytnjodpgahbpiaaa
