/- The document's bytes of an instruction. No condition but those stated. -/
import Derived.Test.YtnjodpgahbpiaaaInsG
namespace Go.Proofs.Ytnjodpgahbpiaaa
open Go Go.RowKit
set_option linter.unusedVariables false
set_option linter.unusedSimpArgs false
set_option linter.unnecessarySimpa false

theorem Few_k {H : Heap} (z : Int) (h : InR .u32 z) : Ct Try.prog 24 [.int .u64 z, .bool false] H (fun u H' => Own 1 (EInt .u8) 5 #[] H.size H' u (Isp.apN false z) ∧ Old H H') :=
  Fewest_k z (by dsimp only [InR] at h; omega) (by dsimp only [InR] at h; omega)
theorem FewS_k {H : Heap} (c : Int) (h : InR .i64 c) : Ct Try.prog 24 [.int .u64 (IntKind.u64.wrap c), .bool true] H (fun u H' => Own 1 (EInt .u8) 5 #[] H.size H' u (Isp.apN true c) ∧ Old H H') :=
  Ct.fresh rfl fun w hw => Fewest_any _ c true w (by
    dsimp only [InR] at h
    have e : IntKind.u64.wrap c = c % 18446744073709551616 := by simp [IntKind.wrap, IntKind.bits, IntKind.signed]
    rw [e]
    refine ⟨by omega, by rw [show (2 : Int) ^ 64 = 18446744073709551616 by decide]; omega, ?_⟩
    rw [show (2 : Int) ^ 64 = 18446744073709551616 by decide]
    split <;> simp at * <;> omega)
theorem apL {z : Int} (h : InR .u32 z) : (Isp.apN false z).length ≤ 10 := (Isp.apN_len (b := 32) (by omega) ((Isp.okU_iff z).1 ⟨by dsimp only [InR] at h; omega, by dsimp only [InR] at h; omega⟩)).2
theorem apS {z : Int} (h : InR .i64 z) : (Isp.apN true z).length ≤ 10 := (Isp.apN_len (sg := true) (b := 64) (by omega) (by unfold Isp.okN; dsimp only [InR] at h; simp; omega)).2
theorem apF {xs : List Int} (h : ∀ y ∈ xs, InR .u32 y) : (xs.flatMap (Isp.apN false)).length ≤ 10 * xs.length := by
  induction xs with
  | nil => simp
  | cons y t ih =>
    have := apL (h y (by simp))
    have := ih (fun z hz => h z (by simp [hz]))
    simp only [List.flatMap_cons, List.length_append, List.length_cons]
    omega
theorem fm_take {xs : List Int} {k : Nat} (hk : k < xs.length) : (xs.take (k + 1)).flatMap (Isp.apN false) = (xs.take k).flatMap (Isp.apN false) ++ Isp.apN false (xs.getD k default) := by
  rw [List.take_add_one, List.getElem?_eq_getElem hk, List.flatMap_append, List.getD_eq_getElem?_getD, List.getElem?_eq_getElem hk]
  simp

set_option maxRecDepth 100000 in
set_option maxHeartbeats 4000000 in
theorem RBytes0 {H : Heap} {x : Ins} {vl : Value} (hx : InsR x) (hll : x.l.length ≤ 100000000) (hs : Sl 1 (EInt .u32) H vl x.l) (hf : Opc.form x.op = 0) : Ct Try.prog 13 [insV x vl] H (fun u H' => Own 1 (EInt .u8) 5 #[] H.size H' u (Isp.bytes x) ∧ Old H H') := by
  refine Ct.mk Try.func13 rfl Try.ntmps13 rfl ?_
  intro W0 hW0
  have o0 : Old H H := Old.refl H
  have hs0 := hs
  have hxa := hx.2.1
  have hxb := hx.2.2.1
  dsimp only [InR] at hxa hxb
  unfold insV
  refine KC.seq ?_
  refine KC.region ?_
  refine KL.opM (M.box rfl rfl rfl) rfl rfl rfl ?_
  rintro _ H1 ⟨rfl, n1⟩
  have z1 := n1.2.1
  have o0 := o0.trans n1.1
  have hs := hs.old n1.1
  have b1 := n1.2.2
  have bx := b1
  refine KL.op (R.assign rfl rfl) rfl rfl rfl ?_
  refine KL.nil ?_
  refine KQ.seq ?_
  refine KC.seq ?_
  refine KC.region ?_
  refine KL.op ((by first | exact R.fieldAddr rfl Try.underlying36 rfl rfl sz5 rfl | exact R.fieldAddrP rfl Try.underlying36 rfl rfl sz5 rfl)) rfl rfl rfl ?_
  refine KL.op (R.load rfl Try.underlying5 rfl rfl (by first | exact cell_of bx rfl | assumption)) rfl rfl rfl ?_
  refine KL.call rfl rfl rfl rfl Try.call23 rfl rfl rfl (RFindK _ hx.1) ?_
  rintro _ H2 ⟨⟨a1, a2, a4, a5, rfl⟩, ox⟩
  have zc_H2 := (ox).1
  have o0 := o0.trans ox
  have hs := hs.old ox
  have bx := (ox).blk bx
  rw [hf]
  refine KL.op (R.move rfl rfl) rfl rfl rfl ?_
  refine KL.op (R.extract rfl rfl rfl) rfl rfl rfl ?_
  refine KL.op (R.extract rfl rfl rfl) rfl rfl rfl ?_
  refine KL.opM (M.alloc rfl zr58 rfl) rfl rfl rfl ?_
  rintro _ H3 ⟨rfl, n3⟩
  have z3 := n3.2.1
  have o0 := o0.trans n3.1
  have hs := hs.old n3.1
  have bx := (n3.1).blk bx
  have b3 := n3.2.2
  have bw := b3
  refine KL.opS (S.storeAgg rfl sz58 rfl rfl (rfl) (by intro u hu; simp only [List.mem_cons, List.not_mem_nil, or_false] at hu; rcases hu with rfl | rfl | rfl | rfl | rfl <;> rfl) bw (by simp)) rfl rfl ?_
  rintro H4 ⟨u4, b4⟩
  have o0 := o0.upd u4 (by omega)
  have zu4 := u4.1
  have bx := ((u4).2 _ (by omega)).trans bx
  have bw := b4
  rw [over_all (by rfl)] at bw
  refine KL.op (R.assign rfl rfl) rfl rfl rfl ?_
  refine KL.nil ?_
  refine KQ.seq ?_
  refine KC.seq ?_
  refine KC.region ?_
  refine KL.op ((by first | exact R.fieldAddr rfl Try.underlying36 rfl rfl sz5 rfl | exact R.fieldAddrP rfl Try.underlying36 rfl rfl sz5 rfl)) rfl rfl rfl ?_
  refine KL.op (R.load rfl Try.underlying5 rfl rfl (by first | exact cell_of bx rfl | exact cell_of bw rfl | assumption)) rfl rfl rfl ?_
  refine KL.opM (M.lit rfl Try.underlying23 zs5 (by decide) rfl rfl rfl) rfl rfl rfl ?_
  rintro _ H5 ⟨rfl, n5⟩
  have z5 := n5.2.1
  have o0 := o0.trans n5.1
  have bx := (n5.1).blk bx
  have bw := (n5.1).blk bw
  have b5 := n5.2.2
  have hvb : vblock (Value.slice (some ⟨Array.size H4, 0, none⟩) 1 1) = Array.size H4 := rfl
  have wo : Own 1 (EInt .u8) 5 #[] (Array.size H4) H5 _ [x.op] := Own.litI (l := [x.op]) (m := 1) n5 (by omega) rfl (by decide) (by intro y hy; simp only [List.mem_cons, List.not_mem_nil, or_false] at hy; subst hy; exact hx.1)
  refine KL.op (R.assign rfl rfl) rfl rfl rfl ?_
  refine KL.nil ?_
  refine KQ.seq ?_
  refine KC.seq ?_
  refine KC.seq ?_
  refine KC.region ?_
  refine KL.op ((by first | exact R.fieldAddr rfl Try.underlying58 rfl rfl sz5 rfl | exact R.fieldAddrP rfl Try.underlying58 rfl rfl sz5 rfl)) rfl rfl rfl ?_
  refine KL.op (R.load rfl Try.underlying5 rfl rfl (by first | exact cell_of bx rfl | exact cell_of bw rfl | assumption)) rfl rfl rfl ?_
  refine KL.op (R.eql rfl rfl rfl) rfl rfl rfl ?_
  refine KL.nil ?_
  refine KQ.seq ?_
  refine KC.condIs false rfl (by decide) ?_
  refine KC.skip ?_
  refine KQ.seq ?_
  refine KC.seq ?_
  refine KC.seq ?_
  refine KC.region ?_
  refine KL.op ((by first | exact R.fieldAddr rfl Try.underlying58 rfl rfl sz5 rfl | exact R.fieldAddrP rfl Try.underlying58 rfl rfl sz5 rfl)) rfl rfl rfl ?_
  refine KL.op (R.load rfl Try.underlying5 rfl rfl (by first | exact cell_of bx rfl | exact cell_of bw rfl | assumption)) rfl rfl rfl ?_
  refine KL.op (R.eql rfl rfl rfl) rfl rfl rfl ?_
  refine KL.nil ?_
  refine KQ.seq ?_
  refine KC.condIs false rfl (by decide) ?_
  refine KC.skip ?_
  refine KQ.seq ?_
  refine KC.seq ?_
  refine KC.seq ?_
  refine KC.region ?_
  refine KL.op ((by first | exact R.fieldAddr rfl Try.underlying58 rfl rfl sz5 rfl | exact R.fieldAddrP rfl Try.underlying58 rfl rfl sz5 rfl)) rfl rfl rfl ?_
  refine KL.op (R.load rfl Try.underlying5 rfl rfl (by first | exact cell_of bx rfl | exact cell_of bw rfl | assumption)) rfl rfl rfl ?_
  refine KL.op ((R.geq rfl rfl rfl).val (congrArg Value.bool (decide_eq_false (by decide)))) rfl rfl rfl ?_
  refine KL.op (R.move rfl rfl) rfl rfl rfl ?_
  refine KL.skip rfl rfl rfl ?_
  refine KL.skip rfl rfl rfl ?_
  refine KL.skip rfl rfl rfl ?_
  refine KL.op (R.pick rfl rfl rfl) rfl rfl rfl ?_
  refine KL.nil ?_
  refine KQ.seq ?_
  refine KC.condF rfl ?_
  refine KC.skip ?_
  refine KQ.seq ?_
  refine KC.seq ?_
  refine KC.seq ?_
  refine KC.region ?_
  refine KL.op ((by first | exact R.fieldAddr rfl Try.underlying58 rfl rfl sz5 rfl | exact R.fieldAddrP rfl Try.underlying58 rfl rfl sz5 rfl)) rfl rfl rfl ?_
  refine KL.op (R.load rfl Try.underlying5 rfl rfl (by first | exact cell_of bx rfl | exact cell_of bw rfl | assumption)) rfl rfl rfl ?_
  refine KL.op (R.eql rfl rfl rfl) rfl rfl rfl ?_
  refine KL.nil ?_
  refine KQ.seq ?_
  refine KC.condIs false rfl (by decide) ?_
  refine KC.skip ?_
  refine KQ.seq ?_
  refine KC.seq ?_
  refine KC.seq ?_
  refine KC.region ?_
  refine KL.op ((by first | exact R.fieldAddr rfl Try.underlying58 rfl rfl sz5 rfl | exact R.fieldAddrP rfl Try.underlying58 rfl rfl sz5 rfl)) rfl rfl rfl ?_
  refine KL.op (R.load rfl Try.underlying5 rfl rfl (by first | exact cell_of bx rfl | exact cell_of bw rfl | assumption)) rfl rfl rfl ?_
  refine KL.op ((R.eql rfl rfl rfl).val (congrArg Value.bool (decide_eq_false (by decide)))) rfl rfl rfl ?_
  refine KL.op (R.move rfl rfl) rfl rfl rfl ?_
  refine KL.op ((by first | exact R.fieldAddr rfl Try.underlying58 rfl rfl sz5 rfl | exact R.fieldAddrP rfl Try.underlying58 rfl rfl sz5 rfl)) rfl rfl rfl ?_
  refine KL.op (R.load rfl Try.underlying5 rfl rfl (by first | exact cell_of bx rfl | exact cell_of bw rfl | assumption)) rfl rfl rfl ?_
  refine KL.op ((R.eql rfl rfl rfl).val (congrArg Value.bool (decide_eq_false (by decide)))) rfl rfl rfl ?_
  refine KL.op (R.pick rfl rfl rfl) rfl rfl rfl ?_
  refine KL.nil ?_
  refine KQ.seq ?_
  refine KC.condF rfl ?_
  refine KC.skip ?_
  refine KQ.seq ?_
  refine KC.seq ?_
  refine KC.seq ?_
  refine KC.region ?_
  refine KL.op ((by first | exact R.fieldAddr rfl Try.underlying58 rfl rfl sz5 rfl | exact R.fieldAddrP rfl Try.underlying58 rfl rfl sz5 rfl)) rfl rfl rfl ?_
  refine KL.op (R.load rfl Try.underlying5 rfl rfl (by first | exact cell_of bx rfl | exact cell_of bw rfl | assumption)) rfl rfl rfl ?_
  refine KL.op (R.geq rfl rfl rfl) rfl rfl rfl ?_
  refine KL.nil ?_
  refine KQ.seq ?_
  refine KC.condIs false rfl (by decide) ?_
  refine KC.skip ?_
  refine KQ.seq ?_
  refine KC.seq ?_
  refine KC.region ?_
  refine KL.op (R.move rfl rfl) rfl rfl rfl ?_
  refine KL.op (R.assign rfl rfl) rfl rfl rfl ?_
  refine KL.nil ?_
  refine KQ.seq ?_
  refine KC.ret ?_
  refine KQ.ofRet ?_
  refine KQ.fin1 Try.results13 rfl ?_
  have e : Isp.bytes x = x.op :: [] := by unfold Isp.bytes Isp.bodyE Isp.rest Isp.labsE; rw [hf]; simp
  rw [e]
  exact ⟨by simpa [List.append_assoc] using wo.weak (by omega), o0⟩

set_option maxRecDepth 100000 in
set_option maxHeartbeats 4000000 in
theorem RBytes1 {H : Heap} {x : Ins} {vl : Value} (hx : InsR x) (hll : x.l.length ≤ 100000000) (hs : Sl 1 (EInt .u32) H vl x.l) (hf : Opc.form x.op = 1) (ha : x.a = 64 ∨ x.a = 127 ∨ x.a = 126) : Ct Try.prog 13 [insV x vl] H (fun u H' => Own 1 (EInt .u8) 5 #[] H.size H' u (Isp.bytes x) ∧ Old H H') := by
  refine Ct.mk Try.func13 rfl Try.ntmps13 rfl ?_
  intro W0 hW0
  have o0 : Old H H := Old.refl H
  have hs0 := hs
  have hxa := hx.2.1
  have hxb := hx.2.2.1
  dsimp only [InR] at hxa hxb
  unfold insV
  refine KC.seq ?_
  refine KC.region ?_
  refine KL.opM (M.box rfl rfl rfl) rfl rfl rfl ?_
  rintro _ H1 ⟨rfl, n1⟩
  have z1 := n1.2.1
  have o0 := o0.trans n1.1
  have hs := hs.old n1.1
  have b1 := n1.2.2
  have bx := b1
  refine KL.op (R.assign rfl rfl) rfl rfl rfl ?_
  refine KL.nil ?_
  refine KQ.seq ?_
  refine KC.seq ?_
  refine KC.region ?_
  refine KL.op ((by first | exact R.fieldAddr rfl Try.underlying36 rfl rfl sz5 rfl | exact R.fieldAddrP rfl Try.underlying36 rfl rfl sz5 rfl)) rfl rfl rfl ?_
  refine KL.op (R.load rfl Try.underlying5 rfl rfl (by first | exact cell_of bx rfl | assumption)) rfl rfl rfl ?_
  refine KL.call rfl rfl rfl rfl Try.call23 rfl rfl rfl (RFindK _ hx.1) ?_
  rintro _ H2 ⟨⟨a1, a2, a4, a5, rfl⟩, ox⟩
  have zc_H2 := (ox).1
  have o0 := o0.trans ox
  have hs := hs.old ox
  have bx := (ox).blk bx
  rw [hf]
  refine KL.op (R.move rfl rfl) rfl rfl rfl ?_
  refine KL.op (R.extract rfl rfl rfl) rfl rfl rfl ?_
  refine KL.op (R.extract rfl rfl rfl) rfl rfl rfl ?_
  refine KL.opM (M.alloc rfl zr58 rfl) rfl rfl rfl ?_
  rintro _ H3 ⟨rfl, n3⟩
  have z3 := n3.2.1
  have o0 := o0.trans n3.1
  have hs := hs.old n3.1
  have bx := (n3.1).blk bx
  have b3 := n3.2.2
  have bw := b3
  refine KL.opS (S.storeAgg rfl sz58 rfl rfl (rfl) (by intro u hu; simp only [List.mem_cons, List.not_mem_nil, or_false] at hu; rcases hu with rfl | rfl | rfl | rfl | rfl <;> rfl) bw (by simp)) rfl rfl ?_
  rintro H4 ⟨u4, b4⟩
  have o0 := o0.upd u4 (by omega)
  have zu4 := u4.1
  have bx := ((u4).2 _ (by omega)).trans bx
  have bw := b4
  rw [over_all (by rfl)] at bw
  refine KL.op (R.assign rfl rfl) rfl rfl rfl ?_
  refine KL.nil ?_
  refine KQ.seq ?_
  refine KC.seq ?_
  refine KC.region ?_
  refine KL.op ((by first | exact R.fieldAddr rfl Try.underlying36 rfl rfl sz5 rfl | exact R.fieldAddrP rfl Try.underlying36 rfl rfl sz5 rfl)) rfl rfl rfl ?_
  refine KL.op (R.load rfl Try.underlying5 rfl rfl (by first | exact cell_of bx rfl | exact cell_of bw rfl | assumption)) rfl rfl rfl ?_
  refine KL.opM (M.lit rfl Try.underlying23 zs5 (by decide) rfl rfl rfl) rfl rfl rfl ?_
  rintro _ H5 ⟨rfl, n5⟩
  have z5 := n5.2.1
  have o0 := o0.trans n5.1
  have bx := (n5.1).blk bx
  have bw := (n5.1).blk bw
  have b5 := n5.2.2
  have hvb : vblock (Value.slice (some ⟨Array.size H4, 0, none⟩) 1 1) = Array.size H4 := rfl
  have wo : Own 1 (EInt .u8) 5 #[] (Array.size H4) H5 _ [x.op] := Own.litI (l := [x.op]) (m := 1) n5 (by omega) rfl (by decide) (by intro y hy; simp only [List.mem_cons, List.not_mem_nil, or_false] at hy; subst hy; exact hx.1)
  refine KL.op (R.assign rfl rfl) rfl rfl rfl ?_
  refine KL.nil ?_
  refine KQ.seq ?_
  refine KC.seq ?_
  refine KC.seq ?_
  refine KC.region ?_
  refine KL.op ((by first | exact R.fieldAddr rfl Try.underlying58 rfl rfl sz5 rfl | exact R.fieldAddrP rfl Try.underlying58 rfl rfl sz5 rfl)) rfl rfl rfl ?_
  refine KL.op (R.load rfl Try.underlying5 rfl rfl (by first | exact cell_of bx rfl | exact cell_of bw rfl | assumption)) rfl rfl rfl ?_
  refine KL.op (R.eql rfl rfl rfl) rfl rfl rfl ?_
  refine KL.nil ?_
  refine KQ.seq ?_
  refine KC.condIs false rfl (by decide) ?_
  refine KC.skip ?_
  refine KQ.seq ?_
  refine KC.seq ?_
  refine KC.seq ?_
  refine KC.region ?_
  refine KL.op ((by first | exact R.fieldAddr rfl Try.underlying58 rfl rfl sz5 rfl | exact R.fieldAddrP rfl Try.underlying58 rfl rfl sz5 rfl)) rfl rfl rfl ?_
  refine KL.op (R.load rfl Try.underlying5 rfl rfl (by first | exact cell_of bx rfl | exact cell_of bw rfl | assumption)) rfl rfl rfl ?_
  refine KL.op (R.eql rfl rfl rfl) rfl rfl rfl ?_
  refine KL.nil ?_
  refine KQ.seq ?_
  refine KC.condIs true rfl (by decide) ?_
  refine KC.region ?_
  refine KL.op (R.move rfl rfl) rfl rfl rfl ?_
  refine KL.op ((by first | exact R.fieldAddr rfl Try.underlying36 rfl rfl sz33 rfl | exact R.fieldAddrP rfl Try.underlying36 rfl rfl sz33 rfl)) rfl rfl rfl ?_
  refine KL.op (R.load rfl Try.underlying33 rfl rfl (by first | exact cell_of bx rfl | exact cell_of bw rfl | assumption)) rfl rfl rfl ?_
  refine KL.op (R.convI rfl Try.underlying33 Try.underlying5 rfl (by dsimp only [InR]; omega)) rfl rfl rfl ?_
  refine KL.opM (M.lit rfl Try.underlying23 zs5 (by decide) rfl rfl rfl) rfl rfl rfl ?_
  rintro _ H6 ⟨rfl, n6⟩
  have z6 := n6.2.1
  have o0 := o0.trans n6.1
  have bx := (n6.1).blk bx
  have bw := (n6.1).blk bw
  have wo := wo.old n6.1
  have b6 := n6.2.2
  have hap : Sl 1 (EInt .u8) H6 _ [x.a] := Sl.lits (l := [x.a]) n6 rfl (by simp) (by intro y hy; simp only [List.mem_cons, List.not_mem_nil, or_false] at hy; subst hy; dsimp only [InR]; omega)
  have lt7 := wo.lt
  refine KL.opM (M.append rfl Try.underlying23 inf5 rfl (by decide) rfl rfl wo (by exact hap) (fun _ _ h _ => h) (by omega) (by simp only [List.length_append, List.length_cons, List.length_nil, List.length_take]; omega) (by unfold maxLen; simp only [List.length_append, List.length_cons, List.length_nil]; omega)) rfl rfl rfl ?_
  rintro vo H7 ⟨w7, g7⟩
  try dsimp only at g7
  have ob7 := g7.oldB wo (by omega)
  have o0 := o0.then ob7 (by omega)
  have z7 := ob7.1
  have bx := (g7.2 _ (blk_lt bx) (by first | exact .inr (by omega) | exact .inl rfl | exact lt7.imp id (fun h => by omega))).trans bx
  have bw := (g7.2 _ (blk_lt bw) (by first | exact .inr (by omega) | exact .inl rfl | exact lt7.imp id (fun h => by omega))).trans bw
  have wo := w7
  refine KL.op (R.assign rfl rfl) rfl rfl rfl ?_
  refine KL.nil ?_
  refine KQ.seq ?_
  refine KC.seq ?_
  refine KC.seq ?_
  refine KC.region ?_
  refine KL.op ((by first | exact R.fieldAddr rfl Try.underlying58 rfl rfl sz5 rfl | exact R.fieldAddrP rfl Try.underlying58 rfl rfl sz5 rfl)) rfl rfl rfl ?_
  refine KL.op (R.load rfl Try.underlying5 rfl rfl (by first | exact cell_of bx rfl | exact cell_of bw rfl | assumption)) rfl rfl rfl ?_
  refine KL.op ((R.geq rfl rfl rfl).val (congrArg Value.bool (decide_eq_false (by decide)))) rfl rfl rfl ?_
  refine KL.op (R.move rfl rfl) rfl rfl rfl ?_
  refine KL.skip rfl rfl rfl ?_
  refine KL.skip rfl rfl rfl ?_
  refine KL.skip rfl rfl rfl ?_
  refine KL.op (R.pick rfl rfl rfl) rfl rfl rfl ?_
  refine KL.nil ?_
  refine KQ.seq ?_
  refine KC.condF rfl ?_
  refine KC.skip ?_
  refine KQ.seq ?_
  refine KC.seq ?_
  refine KC.seq ?_
  refine KC.region ?_
  refine KL.op ((by first | exact R.fieldAddr rfl Try.underlying58 rfl rfl sz5 rfl | exact R.fieldAddrP rfl Try.underlying58 rfl rfl sz5 rfl)) rfl rfl rfl ?_
  refine KL.op (R.load rfl Try.underlying5 rfl rfl (by first | exact cell_of bx rfl | exact cell_of bw rfl | assumption)) rfl rfl rfl ?_
  refine KL.op (R.eql rfl rfl rfl) rfl rfl rfl ?_
  refine KL.nil ?_
  refine KQ.seq ?_
  refine KC.condIs false rfl (by decide) ?_
  refine KC.skip ?_
  refine KQ.seq ?_
  refine KC.seq ?_
  refine KC.seq ?_
  refine KC.region ?_
  refine KL.op ((by first | exact R.fieldAddr rfl Try.underlying58 rfl rfl sz5 rfl | exact R.fieldAddrP rfl Try.underlying58 rfl rfl sz5 rfl)) rfl rfl rfl ?_
  refine KL.op (R.load rfl Try.underlying5 rfl rfl (by first | exact cell_of bx rfl | exact cell_of bw rfl | assumption)) rfl rfl rfl ?_
  refine KL.op ((R.eql rfl rfl rfl).val (congrArg Value.bool (decide_eq_false (by decide)))) rfl rfl rfl ?_
  refine KL.op (R.move rfl rfl) rfl rfl rfl ?_
  refine KL.op ((by first | exact R.fieldAddr rfl Try.underlying58 rfl rfl sz5 rfl | exact R.fieldAddrP rfl Try.underlying58 rfl rfl sz5 rfl)) rfl rfl rfl ?_
  refine KL.op (R.load rfl Try.underlying5 rfl rfl (by first | exact cell_of bx rfl | exact cell_of bw rfl | assumption)) rfl rfl rfl ?_
  refine KL.op ((R.eql rfl rfl rfl).val (congrArg Value.bool (decide_eq_false (by decide)))) rfl rfl rfl ?_
  refine KL.op (R.pick rfl rfl rfl) rfl rfl rfl ?_
  refine KL.nil ?_
  refine KQ.seq ?_
  refine KC.condF rfl ?_
  refine KC.skip ?_
  refine KQ.seq ?_
  refine KC.seq ?_
  refine KC.seq ?_
  refine KC.region ?_
  refine KL.op ((by first | exact R.fieldAddr rfl Try.underlying58 rfl rfl sz5 rfl | exact R.fieldAddrP rfl Try.underlying58 rfl rfl sz5 rfl)) rfl rfl rfl ?_
  refine KL.op (R.load rfl Try.underlying5 rfl rfl (by first | exact cell_of bx rfl | exact cell_of bw rfl | assumption)) rfl rfl rfl ?_
  refine KL.op (R.geq rfl rfl rfl) rfl rfl rfl ?_
  refine KL.nil ?_
  refine KQ.seq ?_
  refine KC.condIs false rfl (by decide) ?_
  refine KC.skip ?_
  refine KQ.seq ?_
  refine KC.seq ?_
  refine KC.region ?_
  refine KL.op (R.move rfl rfl) rfl rfl rfl ?_
  refine KL.op (R.assign rfl rfl) rfl rfl rfl ?_
  refine KL.nil ?_
  refine KQ.seq ?_
  refine KC.ret ?_
  refine KQ.ofRet ?_
  refine KQ.fin1 Try.results13 rfl ?_
  have e : Isp.bytes x = x.op :: [x.a] := by unfold Isp.bytes Isp.bodyE Isp.rest Isp.labsE; rw [hf]; simp
  rw [e]
  exact ⟨by simpa [List.append_assoc] using wo.weak (by omega), o0⟩

set_option maxRecDepth 100000 in
set_option maxHeartbeats 4000000 in
theorem RBytes2 {H : Heap} {x : Ins} {vl : Value} (hx : InsR x) (hll : x.l.length ≤ 100000000) (hs : Sl 1 (EInt .u32) H vl x.l) (hf : Opc.form x.op = 2) : Ct Try.prog 13 [insV x vl] H (fun u H' => Own 1 (EInt .u8) 5 #[] H.size H' u (Isp.bytes x) ∧ Old H H') := by
  refine Ct.mk Try.func13 rfl Try.ntmps13 rfl ?_
  intro W0 hW0
  have o0 : Old H H := Old.refl H
  have hs0 := hs
  have hxa := hx.2.1
  have hxb := hx.2.2.1
  dsimp only [InR] at hxa hxb
  unfold insV
  refine KC.seq ?_
  refine KC.region ?_
  refine KL.opM (M.box rfl rfl rfl) rfl rfl rfl ?_
  rintro _ H1 ⟨rfl, n1⟩
  have z1 := n1.2.1
  have o0 := o0.trans n1.1
  have hs := hs.old n1.1
  have b1 := n1.2.2
  have bx := b1
  refine KL.op (R.assign rfl rfl) rfl rfl rfl ?_
  refine KL.nil ?_
  refine KQ.seq ?_
  refine KC.seq ?_
  refine KC.region ?_
  refine KL.op ((by first | exact R.fieldAddr rfl Try.underlying36 rfl rfl sz5 rfl | exact R.fieldAddrP rfl Try.underlying36 rfl rfl sz5 rfl)) rfl rfl rfl ?_
  refine KL.op (R.load rfl Try.underlying5 rfl rfl (by first | exact cell_of bx rfl | assumption)) rfl rfl rfl ?_
  refine KL.call rfl rfl rfl rfl Try.call23 rfl rfl rfl (RFindK _ hx.1) ?_
  rintro _ H2 ⟨⟨a1, a2, a4, a5, rfl⟩, ox⟩
  have zc_H2 := (ox).1
  have o0 := o0.trans ox
  have hs := hs.old ox
  have bx := (ox).blk bx
  rw [hf]
  refine KL.op (R.move rfl rfl) rfl rfl rfl ?_
  refine KL.op (R.extract rfl rfl rfl) rfl rfl rfl ?_
  refine KL.op (R.extract rfl rfl rfl) rfl rfl rfl ?_
  refine KL.opM (M.alloc rfl zr58 rfl) rfl rfl rfl ?_
  rintro _ H3 ⟨rfl, n3⟩
  have z3 := n3.2.1
  have o0 := o0.trans n3.1
  have hs := hs.old n3.1
  have bx := (n3.1).blk bx
  have b3 := n3.2.2
  have bw := b3
  refine KL.opS (S.storeAgg rfl sz58 rfl rfl (rfl) (by intro u hu; simp only [List.mem_cons, List.not_mem_nil, or_false] at hu; rcases hu with rfl | rfl | rfl | rfl | rfl <;> rfl) bw (by simp)) rfl rfl ?_
  rintro H4 ⟨u4, b4⟩
  have o0 := o0.upd u4 (by omega)
  have zu4 := u4.1
  have bx := ((u4).2 _ (by omega)).trans bx
  have bw := b4
  rw [over_all (by rfl)] at bw
  refine KL.op (R.assign rfl rfl) rfl rfl rfl ?_
  refine KL.nil ?_
  refine KQ.seq ?_
  refine KC.seq ?_
  refine KC.region ?_
  refine KL.op ((by first | exact R.fieldAddr rfl Try.underlying36 rfl rfl sz5 rfl | exact R.fieldAddrP rfl Try.underlying36 rfl rfl sz5 rfl)) rfl rfl rfl ?_
  refine KL.op (R.load rfl Try.underlying5 rfl rfl (by first | exact cell_of bx rfl | exact cell_of bw rfl | assumption)) rfl rfl rfl ?_
  refine KL.opM (M.lit rfl Try.underlying23 zs5 (by decide) rfl rfl rfl) rfl rfl rfl ?_
  rintro _ H5 ⟨rfl, n5⟩
  have z5 := n5.2.1
  have o0 := o0.trans n5.1
  have bx := (n5.1).blk bx
  have bw := (n5.1).blk bw
  have b5 := n5.2.2
  have hvb : vblock (Value.slice (some ⟨Array.size H4, 0, none⟩) 1 1) = Array.size H4 := rfl
  have wo : Own 1 (EInt .u8) 5 #[] (Array.size H4) H5 _ [x.op] := Own.litI (l := [x.op]) (m := 1) n5 (by omega) rfl (by decide) (by intro y hy; simp only [List.mem_cons, List.not_mem_nil, or_false] at hy; subst hy; exact hx.1)
  refine KL.op (R.assign rfl rfl) rfl rfl rfl ?_
  refine KL.nil ?_
  refine KQ.seq ?_
  refine KC.seq ?_
  refine KC.seq ?_
  refine KC.region ?_
  refine KL.op ((by first | exact R.fieldAddr rfl Try.underlying58 rfl rfl sz5 rfl | exact R.fieldAddrP rfl Try.underlying58 rfl rfl sz5 rfl)) rfl rfl rfl ?_
  refine KL.op (R.load rfl Try.underlying5 rfl rfl (by first | exact cell_of bx rfl | exact cell_of bw rfl | assumption)) rfl rfl rfl ?_
  refine KL.op (R.eql rfl rfl rfl) rfl rfl rfl ?_
  refine KL.nil ?_
  refine KQ.seq ?_
  refine KC.condIs false rfl (by decide) ?_
  refine KC.skip ?_
  refine KQ.seq ?_
  refine KC.seq ?_
  refine KC.seq ?_
  refine KC.region ?_
  refine KL.op ((by first | exact R.fieldAddr rfl Try.underlying58 rfl rfl sz5 rfl | exact R.fieldAddrP rfl Try.underlying58 rfl rfl sz5 rfl)) rfl rfl rfl ?_
  refine KL.op (R.load rfl Try.underlying5 rfl rfl (by first | exact cell_of bx rfl | exact cell_of bw rfl | assumption)) rfl rfl rfl ?_
  refine KL.op (R.eql rfl rfl rfl) rfl rfl rfl ?_
  refine KL.nil ?_
  refine KQ.seq ?_
  refine KC.condIs false rfl (by decide) ?_
  refine KC.skip ?_
  refine KQ.seq ?_
  refine KC.seq ?_
  refine KC.seq ?_
  refine KC.region ?_
  refine KL.op ((by first | exact R.fieldAddr rfl Try.underlying58 rfl rfl sz5 rfl | exact R.fieldAddrP rfl Try.underlying58 rfl rfl sz5 rfl)) rfl rfl rfl ?_
  refine KL.op (R.load rfl Try.underlying5 rfl rfl (by first | exact cell_of bx rfl | exact cell_of bw rfl | assumption)) rfl rfl rfl ?_
  refine KL.op ((R.geq rfl rfl rfl).val (congrArg Value.bool (decide_eq_true (by decide)))) rfl rfl rfl ?_
  refine KL.op (R.move rfl rfl) rfl rfl rfl ?_
  refine KL.op ((by first | exact R.fieldAddr rfl Try.underlying58 rfl rfl sz5 rfl | exact R.fieldAddrP rfl Try.underlying58 rfl rfl sz5 rfl)) rfl rfl rfl ?_
  refine KL.op (R.load rfl Try.underlying5 rfl rfl (by first | exact cell_of bx rfl | exact cell_of bw rfl | assumption)) rfl rfl rfl ?_
  refine KL.op ((R.leq rfl rfl rfl).val (congrArg Value.bool (decide_eq_true (by decide)))) rfl rfl rfl ?_
  refine KL.op (R.pick rfl rfl rfl) rfl rfl rfl ?_
  refine KL.nil ?_
  refine KQ.seq ?_
  refine KC.condT rfl ?_
  refine KC.region ?_
  refine KL.op (R.move rfl rfl) rfl rfl rfl ?_
  refine KL.op ((by first | exact R.fieldAddr rfl Try.underlying36 rfl rfl sz33 rfl | exact R.fieldAddrP rfl Try.underlying36 rfl rfl sz33 rfl)) rfl rfl rfl ?_
  refine KL.op (R.load rfl Try.underlying33 rfl rfl (by first | exact cell_of bx rfl | exact cell_of bw rfl | assumption)) rfl rfl rfl ?_
  refine KL.op (R.convI rfl Try.underlying33 Try.underlying62 rfl (by dsimp only [InR]; omega)) rfl rfl rfl ?_
  refine KL.call rfl rfl rfl rfl Try.call24 rfl rfl rfl (Few_k _ hx.2.1) ?_
  rintro va H6 ⟨wa, ox⟩
  have zc_H6 := (ox).1
  have o0 := o0.trans ox
  have bx := (ox).blk bx
  have bw := (ox).blk bw
  have wo := wo.old ox
  have hap := wa.sl (emptyOld _) (by omega)
  have hapl := apL hx.2.1
  have lt7 := wo.lt
  refine KL.opM (M.append rfl Try.underlying23 inf5 rfl (by decide) rfl rfl wo (by exact hap) (fun _ _ h _ => h) (by omega) (by simp only [List.length_append, List.length_cons, List.length_nil, List.length_take]; omega) (by unfold maxLen; simp only [List.length_append, List.length_cons, List.length_nil]; omega)) rfl rfl rfl ?_
  rintro vp H7 ⟨w7, g7⟩
  try dsimp only at g7
  have ob7 := g7.oldB wo (by omega)
  have o0 := o0.then ob7 (by omega)
  have z7 := ob7.1
  have bx := (g7.2 _ (blk_lt bx) (by first | exact .inr (by omega) | exact .inl rfl | exact lt7.imp id (fun h => by omega))).trans bx
  have bw := (g7.2 _ (blk_lt bw) (by first | exact .inr (by omega) | exact .inl rfl | exact lt7.imp id (fun h => by omega))).trans bw
  have wo := w7
  refine KL.op (R.assign rfl rfl) rfl rfl rfl ?_
  refine KL.nil ?_
  refine KQ.seq ?_
  refine KC.seq ?_
  refine KC.seq ?_
  refine KC.region ?_
  refine KL.op ((by first | exact R.fieldAddr rfl Try.underlying58 rfl rfl sz5 rfl | exact R.fieldAddrP rfl Try.underlying58 rfl rfl sz5 rfl)) rfl rfl rfl ?_
  refine KL.op (R.load rfl Try.underlying5 rfl rfl (by first | exact cell_of bx rfl | exact cell_of bw rfl | assumption)) rfl rfl rfl ?_
  refine KL.op (R.eql rfl rfl rfl) rfl rfl rfl ?_
  refine KL.nil ?_
  refine KQ.seq ?_
  refine KC.condIs false rfl (by decide) ?_
  refine KC.skip ?_
  refine KQ.seq ?_
  refine KC.seq ?_
  refine KC.seq ?_
  refine KC.region ?_
  refine KL.op ((by first | exact R.fieldAddr rfl Try.underlying58 rfl rfl sz5 rfl | exact R.fieldAddrP rfl Try.underlying58 rfl rfl sz5 rfl)) rfl rfl rfl ?_
  refine KL.op (R.load rfl Try.underlying5 rfl rfl (by first | exact cell_of bx rfl | exact cell_of bw rfl | assumption)) rfl rfl rfl ?_
  refine KL.op ((R.eql rfl rfl rfl).val (congrArg Value.bool (decide_eq_false (by decide)))) rfl rfl rfl ?_
  refine KL.op (R.move rfl rfl) rfl rfl rfl ?_
  refine KL.op ((by first | exact R.fieldAddr rfl Try.underlying58 rfl rfl sz5 rfl | exact R.fieldAddrP rfl Try.underlying58 rfl rfl sz5 rfl)) rfl rfl rfl ?_
  refine KL.op (R.load rfl Try.underlying5 rfl rfl (by first | exact cell_of bx rfl | exact cell_of bw rfl | assumption)) rfl rfl rfl ?_
  refine KL.op ((R.eql rfl rfl rfl).val (congrArg Value.bool (decide_eq_false (by decide)))) rfl rfl rfl ?_
  refine KL.op (R.pick rfl rfl rfl) rfl rfl rfl ?_
  refine KL.nil ?_
  refine KQ.seq ?_
  refine KC.condF rfl ?_
  refine KC.skip ?_
  refine KQ.seq ?_
  refine KC.seq ?_
  refine KC.seq ?_
  refine KC.region ?_
  refine KL.op ((by first | exact R.fieldAddr rfl Try.underlying58 rfl rfl sz5 rfl | exact R.fieldAddrP rfl Try.underlying58 rfl rfl sz5 rfl)) rfl rfl rfl ?_
  refine KL.op (R.load rfl Try.underlying5 rfl rfl (by first | exact cell_of bx rfl | exact cell_of bw rfl | assumption)) rfl rfl rfl ?_
  refine KL.op (R.geq rfl rfl rfl) rfl rfl rfl ?_
  refine KL.nil ?_
  refine KQ.seq ?_
  refine KC.condIs false rfl (by decide) ?_
  refine KC.skip ?_
  refine KQ.seq ?_
  refine KC.seq ?_
  refine KC.region ?_
  refine KL.op (R.move rfl rfl) rfl rfl rfl ?_
  refine KL.op (R.assign rfl rfl) rfl rfl rfl ?_
  refine KL.nil ?_
  refine KQ.seq ?_
  refine KC.ret ?_
  refine KQ.ofRet ?_
  refine KQ.fin1 Try.results13 rfl ?_
  have e : Isp.bytes x = x.op :: Isp.apN false x.a := by unfold Isp.bytes Isp.bodyE Isp.rest Isp.labsE; rw [hf]; simp
  rw [e]
  exact ⟨by simpa [List.append_assoc] using wo.weak (by omega), o0⟩

set_option maxRecDepth 100000 in
set_option maxHeartbeats 4000000 in
theorem RBytes3 {H : Heap} {x : Ins} {vl : Value} (hx : InsR x) (hll : x.l.length ≤ 100000000) (hs : Sl 1 (EInt .u32) H vl x.l) (hf : Opc.form x.op = 3) : Ct Try.prog 13 [insV x vl] H (fun u H' => Own 1 (EInt .u8) 5 #[] H.size H' u (Isp.bytes x) ∧ Old H H') := by
  refine Ct.mk Try.func13 rfl Try.ntmps13 rfl ?_
  intro W0 hW0
  have o0 : Old H H := Old.refl H
  have hs0 := hs
  have hxa := hx.2.1
  have hxb := hx.2.2.1
  dsimp only [InR] at hxa hxb
  unfold insV
  refine KC.seq ?_
  refine KC.region ?_
  refine KL.opM (M.box rfl rfl rfl) rfl rfl rfl ?_
  rintro _ H1 ⟨rfl, n1⟩
  have z1 := n1.2.1
  have o0 := o0.trans n1.1
  have hs := hs.old n1.1
  have b1 := n1.2.2
  have bx := b1
  refine KL.op (R.assign rfl rfl) rfl rfl rfl ?_
  refine KL.nil ?_
  refine KQ.seq ?_
  refine KC.seq ?_
  refine KC.region ?_
  refine KL.op ((by first | exact R.fieldAddr rfl Try.underlying36 rfl rfl sz5 rfl | exact R.fieldAddrP rfl Try.underlying36 rfl rfl sz5 rfl)) rfl rfl rfl ?_
  refine KL.op (R.load rfl Try.underlying5 rfl rfl (by first | exact cell_of bx rfl | assumption)) rfl rfl rfl ?_
  refine KL.call rfl rfl rfl rfl Try.call23 rfl rfl rfl (RFindK _ hx.1) ?_
  rintro _ H2 ⟨⟨a1, a2, a4, a5, rfl⟩, ox⟩
  have zc_H2 := (ox).1
  have o0 := o0.trans ox
  have hs := hs.old ox
  have bx := (ox).blk bx
  rw [hf]
  refine KL.op (R.move rfl rfl) rfl rfl rfl ?_
  refine KL.op (R.extract rfl rfl rfl) rfl rfl rfl ?_
  refine KL.op (R.extract rfl rfl rfl) rfl rfl rfl ?_
  refine KL.opM (M.alloc rfl zr58 rfl) rfl rfl rfl ?_
  rintro _ H3 ⟨rfl, n3⟩
  have z3 := n3.2.1
  have o0 := o0.trans n3.1
  have hs := hs.old n3.1
  have bx := (n3.1).blk bx
  have b3 := n3.2.2
  have bw := b3
  refine KL.opS (S.storeAgg rfl sz58 rfl rfl (rfl) (by intro u hu; simp only [List.mem_cons, List.not_mem_nil, or_false] at hu; rcases hu with rfl | rfl | rfl | rfl | rfl <;> rfl) bw (by simp)) rfl rfl ?_
  rintro H4 ⟨u4, b4⟩
  have o0 := o0.upd u4 (by omega)
  have zu4 := u4.1
  have bx := ((u4).2 _ (by omega)).trans bx
  have bw := b4
  rw [over_all (by rfl)] at bw
  refine KL.op (R.assign rfl rfl) rfl rfl rfl ?_
  refine KL.nil ?_
  refine KQ.seq ?_
  refine KC.seq ?_
  refine KC.region ?_
  refine KL.op ((by first | exact R.fieldAddr rfl Try.underlying36 rfl rfl sz5 rfl | exact R.fieldAddrP rfl Try.underlying36 rfl rfl sz5 rfl)) rfl rfl rfl ?_
  refine KL.op (R.load rfl Try.underlying5 rfl rfl (by first | exact cell_of bx rfl | exact cell_of bw rfl | assumption)) rfl rfl rfl ?_
  refine KL.opM (M.lit rfl Try.underlying23 zs5 (by decide) rfl rfl rfl) rfl rfl rfl ?_
  rintro _ H5 ⟨rfl, n5⟩
  have z5 := n5.2.1
  have o0 := o0.trans n5.1
  have bx := (n5.1).blk bx
  have bw := (n5.1).blk bw
  have b5 := n5.2.2
  have hvb : vblock (Value.slice (some ⟨Array.size H4, 0, none⟩) 1 1) = Array.size H4 := rfl
  have wo : Own 1 (EInt .u8) 5 #[] (Array.size H4) H5 _ [x.op] := Own.litI (l := [x.op]) (m := 1) n5 (by omega) rfl (by decide) (by intro y hy; simp only [List.mem_cons, List.not_mem_nil, or_false] at hy; subst hy; exact hx.1)
  refine KL.op (R.assign rfl rfl) rfl rfl rfl ?_
  refine KL.nil ?_
  refine KQ.seq ?_
  refine KC.seq ?_
  refine KC.seq ?_
  refine KC.region ?_
  refine KL.op ((by first | exact R.fieldAddr rfl Try.underlying58 rfl rfl sz5 rfl | exact R.fieldAddrP rfl Try.underlying58 rfl rfl sz5 rfl)) rfl rfl rfl ?_
  refine KL.op (R.load rfl Try.underlying5 rfl rfl (by first | exact cell_of bx rfl | exact cell_of bw rfl | assumption)) rfl rfl rfl ?_
  refine KL.op (R.eql rfl rfl rfl) rfl rfl rfl ?_
  refine KL.nil ?_
  refine KQ.seq ?_
  refine KC.condIs true rfl (by decide) ?_
  refine KC.seq ?_
  refine KC.region ?_
  refine KL.op (R.move rfl rfl) rfl rfl rfl ?_
  refine KL.op ((by first | exact R.fieldAddr rfl Try.underlying36 rfl rfl sz34 rfl | exact R.fieldAddrP rfl Try.underlying36 rfl rfl sz34 rfl)) rfl rfl rfl ?_
  refine KL.op (R.load rfl Try.underlying34 rfl rfl (by first | exact cell_of bx rfl | exact cell_of bw rfl | assumption)) rfl rfl rfl ?_
  refine KL.op ((by first | exact R.lenS rfl Try.underlying34 rfl (by first | assumption) | exact R.len (ty := 0) rfl Try.underlying34 rfl)) rfl rfl rfl ?_
  refine KL.op (R.convI rfl Try.underlying3 Try.underlying62 rfl (by dsimp only [InR]; omega)) rfl rfl rfl ?_
  refine KL.call rfl rfl rfl rfl Try.call24 rfl rfl rfl (Few_k _ (by dsimp only [InR]; omega)) ?_
  rintro va H6 ⟨wa, ox⟩
  have zc_H6 := (ox).1
  have o0 := o0.trans ox
  have bx := (ox).blk bx
  have bw := (ox).blk bw
  have wo := wo.old ox
  have hap := wa.sl (emptyOld _) (by omega)
  have hapl := apL (z := ((x.l.length : Nat) : Int)) (by dsimp only [InR]; omega)
  have lt7 := wo.lt
  refine KL.opM (M.append rfl Try.underlying23 inf5 rfl (by decide) rfl rfl wo (by exact hap) (fun _ _ h _ => h) (by omega) (by simp only [List.length_append, List.length_cons, List.length_nil, List.length_take]; omega) (by unfold maxLen; simp only [List.length_append, List.length_cons, List.length_nil]; omega)) rfl rfl rfl ?_
  rintro vo H7 ⟨w7, g7⟩
  try dsimp only at g7
  have ob7 := g7.oldB wo (by omega)
  have o0 := o0.then ob7 (by omega)
  have z7 := ob7.1
  have bx := (g7.2 _ (blk_lt bx) (by first | exact .inr (by omega) | exact .inl rfl | exact lt7.imp id (fun h => by omega))).trans bx
  have bw := (g7.2 _ (blk_lt bw) (by first | exact .inr (by omega) | exact .inl rfl | exact lt7.imp id (fun h => by omega))).trans bw
  have wo := w7
  refine KL.op (R.assign rfl rfl) rfl rfl rfl ?_
  refine KL.nil ?_
  refine KQ.seq ?_
  refine KC.seq ?_
  refine KC.region ?_
  refine KL.op (R.assign rfl rfl) rfl rfl rfl ?_
  refine KL.nil ?_
  refine KQ.seq ?_
  refine KC.block ?_
  refine KC.loopD (κ := Nat × Value) [26, 27, 28, 29, 30, 33, 34, 35, 36, 37, 38, 39, 40, 41, 5, 31, 32, 6] (fun k => [(6, .int .i64 (k.1 : Nat)), (5, k.2)]) (fun k Hl => k.1 ≤ x.l.length ∧ Own 1 (EInt .u8) 5 #[] (Array.size H4) Hl k.2 ([x.op] ++ Isp.apN false (x.l.length : Nat) ++ (x.l.take k.1).flatMap (Isp.apN false)) ∧ OldB (Array.size H4) H7 Hl) (fun k => x.l.length - k.1) (0, vo) ?_ ?_ ?_
  · exact (Sub.cons rfl (Sub.cons rfl (Ext.sub (Ext.refl _ _))))
  · exact ⟨Nat.zero_le _, by simpa using wo, OldB.refl _ _⟩
  · rintro ⟨k, vo⟩ H8 ⟨hk, wo, oL⟩
    dsimp only at hk wo
    have zl := oL.1
    have o0 := o0.then oL (by omega)
    have bx := (oL.2 _ (by omega)).trans bx
    have bw := (oL.2 _ (by omega)).trans bw
    have hs := hs0.old o0
    have hlen1 := apL (z := ((x.l.length : Nat) : Int)) (by dsimp only [InR]; omega)
    have hlen2 := apF (xs := x.l.take k) (fun y hy => hs0.rng y (List.mem_of_mem_take hy))
    rw [List.length_take] at hlen2
    refine KC.seq ?_
    refine KC.seq ?_
    refine KC.region ?_
    refine KL.op (R.move rfl rfl) rfl rfl rfl ?_
    refine KL.op ((by first | exact R.fieldAddr rfl Try.underlying36 rfl rfl sz34 rfl | exact R.fieldAddrP rfl Try.underlying36 rfl rfl sz34 rfl)) rfl rfl rfl ?_
    refine KL.op (R.load rfl Try.underlying34 rfl rfl (by first | exact cell_of bx rfl | exact cell_of bw rfl | assumption)) rfl rfl rfl ?_
    refine KL.op ((by first | exact R.lenS rfl Try.underlying34 rfl (by first | exact hs | assumption) | exact R.len (ty := 0) rfl Try.underlying34 rfl)) rfl rfl rfl ?_
    refine KL.op (R.lss rfl rfl rfl) rfl rfl rfl ?_
    refine KL.nil ?_
    refine KQ.seq ?_
    refine KC.iteL rfl ?_ ?_
    · intro hc30
      try simp only [decide_eq_true_eq, decide_eq_false_iff_not, Bool.not_eq_true', Bool.not_eq_false', Bool.and_eq_true, Bool.or_eq_false_iff] at hc30
      refine KC.skip ?_
      refine KQ.seq ?_
      refine KC.seq ?_
      refine KC.block ?_
      refine KC.region ?_
      refine KL.op (R.move rfl rfl) rfl rfl rfl ?_
      refine KL.op ((by first | exact R.fieldAddr rfl Try.underlying36 rfl rfl sz34 rfl | exact R.fieldAddrP rfl Try.underlying36 rfl rfl sz34 rfl)) rfl rfl rfl ?_
      refine KL.op (R.load rfl Try.underlying34 rfl rfl (by first | exact cell_of bx rfl | exact cell_of bw rfl | assumption)) rfl rfl rfl ?_
      refine KL.op (R.move rfl rfl) rfl rfl rfl ?_
      refine KL.op (R.index1 (j := k) rfl Try.underlying34 sz33 rfl rfl hs rfl (by omega)) rfl rfl rfl ?_
      refine KL.op (R.load rfl Try.underlying33 rfl rfl (hs.int k (by omega)).1) rfl rfl rfl ?_
      have hkr := (hs0.int k (by omega)).2
      dsimp only [InR] at hkr
      refine KL.op (R.convI rfl Try.underlying33 Try.underlying62 rfl (by dsimp only [InR]; omega)) rfl rfl rfl ?_
      refine KL.call rfl rfl rfl rfl Try.call24 rfl rfl rfl (Few_k _ (hs0.int k (by omega)).2) ?_
      rintro va H9 ⟨wa, ox⟩
      have zc_H9 := (ox).1
      have o0 := o0.trans ox
      have bx := (ox).blk bx
      have bw := (ox).blk bw
      have hs := hs.old ox
      have wo := wo.old ox
      have oL := oL.trans ((ox).b (by omega))
      have hap := wa.sl (emptyOld _) (by omega)
      have hapl := apL (hs0.int k (by omega)).2
      have lt10 := wo.lt
      refine KL.opM (M.append rfl Try.underlying23 inf5 rfl (by decide) rfl rfl wo (by exact hap) (fun _ _ h _ => h) (by omega) (by simp only [List.length_append, List.length_cons, List.length_nil, List.length_take]; omega) (by unfold maxLen; simp only [List.length_append, List.length_cons, List.length_nil]; omega)) rfl rfl rfl ?_
      rintro vn H10 ⟨w10, g10⟩
      try dsimp only at g10
      have ob10 := g10.oldB wo (by omega)
      have o0 := o0.then ob10 (by omega)
      have z10 := ob10.1
      have bx := (g10.2 _ (blk_lt bx) (by first | exact .inr (by omega) | exact .inl rfl | exact lt10.imp id (fun h => by omega))).trans bx
      have bw := (g10.2 _ (blk_lt bw) (by first | exact .inr (by omega) | exact .inl rfl | exact lt10.imp id (fun h => by omega))).trans bw
      have oL := oL.trans (ob10.mono (by omega))
      have wo := w10
      refine KL.op (R.assign rfl rfl) rfl rfl rfl ?_
      refine KL.nil ?_
      refine KQ.normBlock ?_
      refine KQ.seq ?_
      refine KC.region ?_
      refine KL.op (R.move rfl rfl) rfl rfl rfl ?_
      refine KL.op ((R.add rfl rfl rfl (by dsimp only [InR]; omega)).val (congrArg (Value.int .i64) (show (k : Int) + 1 = ((k + 1 : Nat) : Int) by omega))) rfl rfl rfl ?_
      refine KL.op (R.assign rfl rfl) rfl rfl rfl ?_
      refine KL.nil ?_
      refine KQ.again ((k + 1, vn)) ?_ ?_ ?_
      · exact (Sub.cons rfl (Sub.cons rfl (Ext.sub (by repeat (first | exact Ext.refl _ _ | refine Ext.put rfl ?_ | refine Ext.drop rfl ?_)))))
      · show x.l.length - (k + 1) < x.l.length - k; omega
      · exact ⟨by show k + 1 ≤ _; omega, by dsimp only; rw [fm_take (by omega), ← List.append_assoc]; exact wo, oL⟩
    · intro hc30
      try simp only [decide_eq_true_eq, decide_eq_false_iff_not, Bool.not_eq_true', Bool.not_eq_false', Bool.and_eq_true, Bool.or_eq_false_iff] at hc30
      refine KC.exit ?_
      refine KQ.exitThen ?_
      refine KQ.exitThen ?_
      refine KQ.hit ?_
      refine KQ.seq ?_
      refine KC.seq ?_
      refine KC.seq ?_
      refine KC.region ?_
      refine KL.op ((by first | exact R.fieldAddr rfl Try.underlying58 rfl rfl sz5 rfl | exact R.fieldAddrP rfl Try.underlying58 rfl rfl sz5 rfl)) rfl rfl rfl ?_
      refine KL.op (R.load rfl Try.underlying5 rfl rfl (by first | exact cell_of bx rfl | exact cell_of bw rfl | assumption)) rfl rfl rfl ?_
      refine KL.op (R.eql rfl rfl rfl) rfl rfl rfl ?_
      refine KL.nil ?_
      refine KQ.seq ?_
      refine KC.condIs false rfl (by decide) ?_
      refine KC.skip ?_
      refine KQ.seq ?_
      refine KC.seq ?_
      refine KC.seq ?_
      refine KC.region ?_
      refine KL.op ((by first | exact R.fieldAddr rfl Try.underlying58 rfl rfl sz5 rfl | exact R.fieldAddrP rfl Try.underlying58 rfl rfl sz5 rfl)) rfl rfl rfl ?_
      refine KL.op (R.load rfl Try.underlying5 rfl rfl (by first | exact cell_of bx rfl | exact cell_of bw rfl | assumption)) rfl rfl rfl ?_
      refine KL.op ((R.geq rfl rfl rfl).val (congrArg Value.bool (decide_eq_true (by decide)))) rfl rfl rfl ?_
      refine KL.op (R.move rfl rfl) rfl rfl rfl ?_
      refine KL.op ((by first | exact R.fieldAddr rfl Try.underlying58 rfl rfl sz5 rfl | exact R.fieldAddrP rfl Try.underlying58 rfl rfl sz5 rfl)) rfl rfl rfl ?_
      refine KL.op (R.load rfl Try.underlying5 rfl rfl (by first | exact cell_of bx rfl | exact cell_of bw rfl | assumption)) rfl rfl rfl ?_
      refine KL.op ((R.leq rfl rfl rfl).val (congrArg Value.bool (decide_eq_true (by decide)))) rfl rfl rfl ?_
      refine KL.op (R.pick rfl rfl rfl) rfl rfl rfl ?_
      refine KL.nil ?_
      refine KQ.seq ?_
      refine KC.condT rfl ?_
      refine KC.region ?_
      refine KL.op (R.move rfl rfl) rfl rfl rfl ?_
      refine KL.op ((by first | exact R.fieldAddr rfl Try.underlying36 rfl rfl sz33 rfl | exact R.fieldAddrP rfl Try.underlying36 rfl rfl sz33 rfl)) rfl rfl rfl ?_
      refine KL.op (R.load rfl Try.underlying33 rfl rfl (by first | exact cell_of bx rfl | exact cell_of bw rfl | assumption)) rfl rfl rfl ?_
      refine KL.op (R.convI rfl Try.underlying33 Try.underlying62 rfl (by dsimp only [InR]; omega)) rfl rfl rfl ?_
      refine KL.call rfl rfl rfl rfl Try.call24 rfl rfl rfl (Few_k _ hx.2.1) ?_
      rintro va H11 ⟨wa, ox⟩
      have zc_H11 := (ox).1
      have o0 := o0.trans ox
      have bx := (ox).blk bx
      have bw := (ox).blk bw
      have hs := hs.old ox
      have wo := wo.old ox
      have oL := oL.trans ((ox).b (by omega))
      have hap := wa.sl (emptyOld _) (by omega)
      have hapl := apL hx.2.1
      have lt12 := wo.lt
      refine KL.opM (M.append rfl Try.underlying23 inf5 rfl (by decide) rfl rfl wo (by exact hap) (fun _ _ h _ => h) (by omega) (by simp only [List.length_append, List.length_cons, List.length_nil, List.length_take]; omega) (by unfold maxLen; simp only [List.length_append, List.length_cons, List.length_nil]; omega)) rfl rfl rfl ?_
      rintro vp H12 ⟨w12, g12⟩
      try dsimp only at g12
      have ob12 := g12.oldB wo (by omega)
      have o0 := o0.then ob12 (by omega)
      have z12 := ob12.1
      have bx := (g12.2 _ (blk_lt bx) (by first | exact .inr (by omega) | exact .inl rfl | exact lt12.imp id (fun h => by omega))).trans bx
      have bw := (g12.2 _ (blk_lt bw) (by first | exact .inr (by omega) | exact .inl rfl | exact lt12.imp id (fun h => by omega))).trans bw
      have oL := oL.trans (ob12.mono (by omega))
      have wo := w12
      refine KL.op (R.assign rfl rfl) rfl rfl rfl ?_
      refine KL.nil ?_
      refine KQ.seq ?_
      refine KC.seq ?_
      refine KC.seq ?_
      refine KC.region ?_
      refine KL.op ((by first | exact R.fieldAddr rfl Try.underlying58 rfl rfl sz5 rfl | exact R.fieldAddrP rfl Try.underlying58 rfl rfl sz5 rfl)) rfl rfl rfl ?_
      refine KL.op (R.load rfl Try.underlying5 rfl rfl (by first | exact cell_of bx rfl | exact cell_of bw rfl | assumption)) rfl rfl rfl ?_
      refine KL.op (R.eql rfl rfl rfl) rfl rfl rfl ?_
      refine KL.nil ?_
      refine KQ.seq ?_
      refine KC.condIs false rfl (by decide) ?_
      refine KC.skip ?_
      refine KQ.seq ?_
      refine KC.seq ?_
      refine KC.seq ?_
      refine KC.region ?_
      refine KL.op ((by first | exact R.fieldAddr rfl Try.underlying58 rfl rfl sz5 rfl | exact R.fieldAddrP rfl Try.underlying58 rfl rfl sz5 rfl)) rfl rfl rfl ?_
      refine KL.op (R.load rfl Try.underlying5 rfl rfl (by first | exact cell_of bx rfl | exact cell_of bw rfl | assumption)) rfl rfl rfl ?_
      refine KL.op ((R.eql rfl rfl rfl).val (congrArg Value.bool (decide_eq_false (by decide)))) rfl rfl rfl ?_
      refine KL.op (R.move rfl rfl) rfl rfl rfl ?_
      refine KL.op ((by first | exact R.fieldAddr rfl Try.underlying58 rfl rfl sz5 rfl | exact R.fieldAddrP rfl Try.underlying58 rfl rfl sz5 rfl)) rfl rfl rfl ?_
      refine KL.op (R.load rfl Try.underlying5 rfl rfl (by first | exact cell_of bx rfl | exact cell_of bw rfl | assumption)) rfl rfl rfl ?_
      refine KL.op ((R.eql rfl rfl rfl).val (congrArg Value.bool (decide_eq_false (by decide)))) rfl rfl rfl ?_
      refine KL.op (R.pick rfl rfl rfl) rfl rfl rfl ?_
      refine KL.nil ?_
      refine KQ.seq ?_
      refine KC.condF rfl ?_
      refine KC.skip ?_
      refine KQ.seq ?_
      refine KC.seq ?_
      refine KC.seq ?_
      refine KC.region ?_
      refine KL.op ((by first | exact R.fieldAddr rfl Try.underlying58 rfl rfl sz5 rfl | exact R.fieldAddrP rfl Try.underlying58 rfl rfl sz5 rfl)) rfl rfl rfl ?_
      refine KL.op (R.load rfl Try.underlying5 rfl rfl (by first | exact cell_of bx rfl | exact cell_of bw rfl | assumption)) rfl rfl rfl ?_
      refine KL.op (R.geq rfl rfl rfl) rfl rfl rfl ?_
      refine KL.nil ?_
      refine KQ.seq ?_
      refine KC.condIs false rfl (by decide) ?_
      refine KC.skip ?_
      refine KQ.seq ?_
      refine KC.seq ?_
      refine KC.region ?_
      refine KL.op (R.move rfl rfl) rfl rfl rfl ?_
      refine KL.op (R.assign rfl rfl) rfl rfl rfl ?_
      refine KL.nil ?_
      refine KQ.seq ?_
      refine KC.ret ?_
      refine KQ.ofRet ?_
      refine KQ.fin1 Try.results13 rfl ?_
      have e : Isp.bytes x = x.op :: (Isp.apN false (x.l.length : Nat) ++ x.l.flatMap (Isp.apN false) ++ Isp.apN false x.a) := by unfold Isp.bytes Isp.bodyE Isp.rest Isp.labsE; rw [hf]; simp
      rw [e]
      have hkl : k = x.l.length := by omega
      rw [hkl, List.take_length] at wo
      exact ⟨by simpa [List.append_assoc] using wo.weak (by omega), o0⟩

set_option maxRecDepth 100000 in
set_option maxHeartbeats 4000000 in
theorem RBytes4 {H : Heap} {x : Ins} {vl : Value} (hx : InsR x) (hll : x.l.length ≤ 100000000) (hs : Sl 1 (EInt .u32) H vl x.l) (hf : Opc.form x.op = 4) : Ct Try.prog 13 [insV x vl] H (fun u H' => Own 1 (EInt .u8) 5 #[] H.size H' u (Isp.bytes x) ∧ Old H H') := by
  refine Ct.mk Try.func13 rfl Try.ntmps13 rfl ?_
  intro W0 hW0
  have o0 : Old H H := Old.refl H
  have hs0 := hs
  have hxa := hx.2.1
  have hxb := hx.2.2.1
  dsimp only [InR] at hxa hxb
  unfold insV
  refine KC.seq ?_
  refine KC.region ?_
  refine KL.opM (M.box rfl rfl rfl) rfl rfl rfl ?_
  rintro _ H1 ⟨rfl, n1⟩
  have z1 := n1.2.1
  have o0 := o0.trans n1.1
  have hs := hs.old n1.1
  have b1 := n1.2.2
  have bx := b1
  refine KL.op (R.assign rfl rfl) rfl rfl rfl ?_
  refine KL.nil ?_
  refine KQ.seq ?_
  refine KC.seq ?_
  refine KC.region ?_
  refine KL.op ((by first | exact R.fieldAddr rfl Try.underlying36 rfl rfl sz5 rfl | exact R.fieldAddrP rfl Try.underlying36 rfl rfl sz5 rfl)) rfl rfl rfl ?_
  refine KL.op (R.load rfl Try.underlying5 rfl rfl (by first | exact cell_of bx rfl | assumption)) rfl rfl rfl ?_
  refine KL.call rfl rfl rfl rfl Try.call23 rfl rfl rfl (RFindK _ hx.1) ?_
  rintro _ H2 ⟨⟨a1, a2, a4, a5, rfl⟩, ox⟩
  have zc_H2 := (ox).1
  have o0 := o0.trans ox
  have hs := hs.old ox
  have bx := (ox).blk bx
  rw [hf]
  refine KL.op (R.move rfl rfl) rfl rfl rfl ?_
  refine KL.op (R.extract rfl rfl rfl) rfl rfl rfl ?_
  refine KL.op (R.extract rfl rfl rfl) rfl rfl rfl ?_
  refine KL.opM (M.alloc rfl zr58 rfl) rfl rfl rfl ?_
  rintro _ H3 ⟨rfl, n3⟩
  have z3 := n3.2.1
  have o0 := o0.trans n3.1
  have hs := hs.old n3.1
  have bx := (n3.1).blk bx
  have b3 := n3.2.2
  have bw := b3
  refine KL.opS (S.storeAgg rfl sz58 rfl rfl (rfl) (by intro u hu; simp only [List.mem_cons, List.not_mem_nil, or_false] at hu; rcases hu with rfl | rfl | rfl | rfl | rfl <;> rfl) bw (by simp)) rfl rfl ?_
  rintro H4 ⟨u4, b4⟩
  have o0 := o0.upd u4 (by omega)
  have zu4 := u4.1
  have bx := ((u4).2 _ (by omega)).trans bx
  have bw := b4
  rw [over_all (by rfl)] at bw
  refine KL.op (R.assign rfl rfl) rfl rfl rfl ?_
  refine KL.nil ?_
  refine KQ.seq ?_
  refine KC.seq ?_
  refine KC.region ?_
  refine KL.op ((by first | exact R.fieldAddr rfl Try.underlying36 rfl rfl sz5 rfl | exact R.fieldAddrP rfl Try.underlying36 rfl rfl sz5 rfl)) rfl rfl rfl ?_
  refine KL.op (R.load rfl Try.underlying5 rfl rfl (by first | exact cell_of bx rfl | exact cell_of bw rfl | assumption)) rfl rfl rfl ?_
  refine KL.opM (M.lit rfl Try.underlying23 zs5 (by decide) rfl rfl rfl) rfl rfl rfl ?_
  rintro _ H5 ⟨rfl, n5⟩
  have z5 := n5.2.1
  have o0 := o0.trans n5.1
  have bx := (n5.1).blk bx
  have bw := (n5.1).blk bw
  have b5 := n5.2.2
  have hvb : vblock (Value.slice (some ⟨Array.size H4, 0, none⟩) 1 1) = Array.size H4 := rfl
  have wo : Own 1 (EInt .u8) 5 #[] (Array.size H4) H5 _ [x.op] := Own.litI (l := [x.op]) (m := 1) n5 (by omega) rfl (by decide) (by intro y hy; simp only [List.mem_cons, List.not_mem_nil, or_false] at hy; subst hy; exact hx.1)
  refine KL.op (R.assign rfl rfl) rfl rfl rfl ?_
  refine KL.nil ?_
  refine KQ.seq ?_
  refine KC.seq ?_
  refine KC.seq ?_
  refine KC.region ?_
  refine KL.op ((by first | exact R.fieldAddr rfl Try.underlying58 rfl rfl sz5 rfl | exact R.fieldAddrP rfl Try.underlying58 rfl rfl sz5 rfl)) rfl rfl rfl ?_
  refine KL.op (R.load rfl Try.underlying5 rfl rfl (by first | exact cell_of bx rfl | exact cell_of bw rfl | assumption)) rfl rfl rfl ?_
  refine KL.op (R.eql rfl rfl rfl) rfl rfl rfl ?_
  refine KL.nil ?_
  refine KQ.seq ?_
  refine KC.condIs false rfl (by decide) ?_
  refine KC.skip ?_
  refine KQ.seq ?_
  refine KC.seq ?_
  refine KC.seq ?_
  refine KC.region ?_
  refine KL.op ((by first | exact R.fieldAddr rfl Try.underlying58 rfl rfl sz5 rfl | exact R.fieldAddrP rfl Try.underlying58 rfl rfl sz5 rfl)) rfl rfl rfl ?_
  refine KL.op (R.load rfl Try.underlying5 rfl rfl (by first | exact cell_of bx rfl | exact cell_of bw rfl | assumption)) rfl rfl rfl ?_
  refine KL.op (R.eql rfl rfl rfl) rfl rfl rfl ?_
  refine KL.nil ?_
  refine KQ.seq ?_
  refine KC.condIs false rfl (by decide) ?_
  refine KC.skip ?_
  refine KQ.seq ?_
  refine KC.seq ?_
  refine KC.seq ?_
  refine KC.region ?_
  refine KL.op ((by first | exact R.fieldAddr rfl Try.underlying58 rfl rfl sz5 rfl | exact R.fieldAddrP rfl Try.underlying58 rfl rfl sz5 rfl)) rfl rfl rfl ?_
  refine KL.op (R.load rfl Try.underlying5 rfl rfl (by first | exact cell_of bx rfl | exact cell_of bw rfl | assumption)) rfl rfl rfl ?_
  refine KL.op ((R.geq rfl rfl rfl).val (congrArg Value.bool (decide_eq_true (by decide)))) rfl rfl rfl ?_
  refine KL.op (R.move rfl rfl) rfl rfl rfl ?_
  refine KL.op ((by first | exact R.fieldAddr rfl Try.underlying58 rfl rfl sz5 rfl | exact R.fieldAddrP rfl Try.underlying58 rfl rfl sz5 rfl)) rfl rfl rfl ?_
  refine KL.op (R.load rfl Try.underlying5 rfl rfl (by first | exact cell_of bx rfl | exact cell_of bw rfl | assumption)) rfl rfl rfl ?_
  refine KL.op ((R.leq rfl rfl rfl).val (congrArg Value.bool (decide_eq_true (by decide)))) rfl rfl rfl ?_
  refine KL.op (R.pick rfl rfl rfl) rfl rfl rfl ?_
  refine KL.nil ?_
  refine KQ.seq ?_
  refine KC.condT rfl ?_
  refine KC.region ?_
  refine KL.op (R.move rfl rfl) rfl rfl rfl ?_
  refine KL.op ((by first | exact R.fieldAddr rfl Try.underlying36 rfl rfl sz33 rfl | exact R.fieldAddrP rfl Try.underlying36 rfl rfl sz33 rfl)) rfl rfl rfl ?_
  refine KL.op (R.load rfl Try.underlying33 rfl rfl (by first | exact cell_of bx rfl | exact cell_of bw rfl | assumption)) rfl rfl rfl ?_
  refine KL.op (R.convI rfl Try.underlying33 Try.underlying62 rfl (by dsimp only [InR]; omega)) rfl rfl rfl ?_
  refine KL.call rfl rfl rfl rfl Try.call24 rfl rfl rfl (Few_k _ hx.2.1) ?_
  rintro va H6 ⟨wa, ox⟩
  have zc_H6 := (ox).1
  have o0 := o0.trans ox
  have bx := (ox).blk bx
  have bw := (ox).blk bw
  have wo := wo.old ox
  have hap := wa.sl (emptyOld _) (by omega)
  have hapl := apL hx.2.1
  have lt7 := wo.lt
  refine KL.opM (M.append rfl Try.underlying23 inf5 rfl (by decide) rfl rfl wo (by exact hap) (fun _ _ h _ => h) (by omega) (by simp only [List.length_append, List.length_cons, List.length_nil, List.length_take]; omega) (by unfold maxLen; simp only [List.length_append, List.length_cons, List.length_nil]; omega)) rfl rfl rfl ?_
  rintro vp H7 ⟨w7, g7⟩
  try dsimp only at g7
  have ob7 := g7.oldB wo (by omega)
  have o0 := o0.then ob7 (by omega)
  have z7 := ob7.1
  have bx := (g7.2 _ (blk_lt bx) (by first | exact .inr (by omega) | exact .inl rfl | exact lt7.imp id (fun h => by omega))).trans bx
  have bw := (g7.2 _ (blk_lt bw) (by first | exact .inr (by omega) | exact .inl rfl | exact lt7.imp id (fun h => by omega))).trans bw
  have wo := w7
  refine KL.op (R.assign rfl rfl) rfl rfl rfl ?_
  refine KL.nil ?_
  refine KQ.seq ?_
  refine KC.seq ?_
  refine KC.seq ?_
  refine KC.region ?_
  refine KL.op ((by first | exact R.fieldAddr rfl Try.underlying58 rfl rfl sz5 rfl | exact R.fieldAddrP rfl Try.underlying58 rfl rfl sz5 rfl)) rfl rfl rfl ?_
  refine KL.op (R.load rfl Try.underlying5 rfl rfl (by first | exact cell_of bx rfl | exact cell_of bw rfl | assumption)) rfl rfl rfl ?_
  refine KL.op (R.eql rfl rfl rfl) rfl rfl rfl ?_
  refine KL.nil ?_
  refine KQ.seq ?_
  refine KC.condIs false rfl (by decide) ?_
  refine KC.skip ?_
  refine KQ.seq ?_
  refine KC.seq ?_
  refine KC.seq ?_
  refine KC.region ?_
  refine KL.op ((by first | exact R.fieldAddr rfl Try.underlying58 rfl rfl sz5 rfl | exact R.fieldAddrP rfl Try.underlying58 rfl rfl sz5 rfl)) rfl rfl rfl ?_
  refine KL.op (R.load rfl Try.underlying5 rfl rfl (by first | exact cell_of bx rfl | exact cell_of bw rfl | assumption)) rfl rfl rfl ?_
  refine KL.op ((R.eql rfl rfl rfl).val (congrArg Value.bool (decide_eq_false (by decide)))) rfl rfl rfl ?_
  refine KL.op (R.move rfl rfl) rfl rfl rfl ?_
  refine KL.op ((by first | exact R.fieldAddr rfl Try.underlying58 rfl rfl sz5 rfl | exact R.fieldAddrP rfl Try.underlying58 rfl rfl sz5 rfl)) rfl rfl rfl ?_
  refine KL.op (R.load rfl Try.underlying5 rfl rfl (by first | exact cell_of bx rfl | exact cell_of bw rfl | assumption)) rfl rfl rfl ?_
  refine KL.op ((R.eql rfl rfl rfl).val (congrArg Value.bool (decide_eq_false (by decide)))) rfl rfl rfl ?_
  refine KL.op (R.pick rfl rfl rfl) rfl rfl rfl ?_
  refine KL.nil ?_
  refine KQ.seq ?_
  refine KC.condF rfl ?_
  refine KC.skip ?_
  refine KQ.seq ?_
  refine KC.seq ?_
  refine KC.seq ?_
  refine KC.region ?_
  refine KL.op ((by first | exact R.fieldAddr rfl Try.underlying58 rfl rfl sz5 rfl | exact R.fieldAddrP rfl Try.underlying58 rfl rfl sz5 rfl)) rfl rfl rfl ?_
  refine KL.op (R.load rfl Try.underlying5 rfl rfl (by first | exact cell_of bx rfl | exact cell_of bw rfl | assumption)) rfl rfl rfl ?_
  refine KL.op (R.geq rfl rfl rfl) rfl rfl rfl ?_
  refine KL.nil ?_
  refine KQ.seq ?_
  refine KC.condIs false rfl (by decide) ?_
  refine KC.skip ?_
  refine KQ.seq ?_
  refine KC.seq ?_
  refine KC.region ?_
  refine KL.op (R.move rfl rfl) rfl rfl rfl ?_
  refine KL.op (R.assign rfl rfl) rfl rfl rfl ?_
  refine KL.nil ?_
  refine KQ.seq ?_
  refine KC.ret ?_
  refine KQ.ofRet ?_
  refine KQ.fin1 Try.results13 rfl ?_
  have e : Isp.bytes x = x.op :: Isp.apN false x.a := by unfold Isp.bytes Isp.bodyE Isp.rest Isp.labsE; rw [hf]; simp
  rw [e]
  exact ⟨by simpa [List.append_assoc] using wo.weak (by omega), o0⟩

set_option maxRecDepth 100000 in
set_option maxHeartbeats 4000000 in
theorem RBytes5 {H : Heap} {x : Ins} {vl : Value} (hx : InsR x) (hll : x.l.length ≤ 100000000) (hs : Sl 1 (EInt .u32) H vl x.l) (hf : Opc.form x.op = 5) : Ct Try.prog 13 [insV x vl] H (fun u H' => Own 1 (EInt .u8) 5 #[] H.size H' u (Isp.bytes x) ∧ Old H H') := by
  refine Ct.mk Try.func13 rfl Try.ntmps13 rfl ?_
  intro W0 hW0
  have o0 : Old H H := Old.refl H
  have hs0 := hs
  have hxa := hx.2.1
  have hxb := hx.2.2.1
  dsimp only [InR] at hxa hxb
  unfold insV
  refine KC.seq ?_
  refine KC.region ?_
  refine KL.opM (M.box rfl rfl rfl) rfl rfl rfl ?_
  rintro _ H1 ⟨rfl, n1⟩
  have z1 := n1.2.1
  have o0 := o0.trans n1.1
  have hs := hs.old n1.1
  have b1 := n1.2.2
  have bx := b1
  refine KL.op (R.assign rfl rfl) rfl rfl rfl ?_
  refine KL.nil ?_
  refine KQ.seq ?_
  refine KC.seq ?_
  refine KC.region ?_
  refine KL.op ((by first | exact R.fieldAddr rfl Try.underlying36 rfl rfl sz5 rfl | exact R.fieldAddrP rfl Try.underlying36 rfl rfl sz5 rfl)) rfl rfl rfl ?_
  refine KL.op (R.load rfl Try.underlying5 rfl rfl (by first | exact cell_of bx rfl | assumption)) rfl rfl rfl ?_
  refine KL.call rfl rfl rfl rfl Try.call23 rfl rfl rfl (RFindK _ hx.1) ?_
  rintro _ H2 ⟨⟨a1, a2, a4, a5, rfl⟩, ox⟩
  have zc_H2 := (ox).1
  have o0 := o0.trans ox
  have hs := hs.old ox
  have bx := (ox).blk bx
  rw [hf]
  refine KL.op (R.move rfl rfl) rfl rfl rfl ?_
  refine KL.op (R.extract rfl rfl rfl) rfl rfl rfl ?_
  refine KL.op (R.extract rfl rfl rfl) rfl rfl rfl ?_
  refine KL.opM (M.alloc rfl zr58 rfl) rfl rfl rfl ?_
  rintro _ H3 ⟨rfl, n3⟩
  have z3 := n3.2.1
  have o0 := o0.trans n3.1
  have hs := hs.old n3.1
  have bx := (n3.1).blk bx
  have b3 := n3.2.2
  have bw := b3
  refine KL.opS (S.storeAgg rfl sz58 rfl rfl (rfl) (by intro u hu; simp only [List.mem_cons, List.not_mem_nil, or_false] at hu; rcases hu with rfl | rfl | rfl | rfl | rfl <;> rfl) bw (by simp)) rfl rfl ?_
  rintro H4 ⟨u4, b4⟩
  have o0 := o0.upd u4 (by omega)
  have zu4 := u4.1
  have bx := ((u4).2 _ (by omega)).trans bx
  have bw := b4
  rw [over_all (by rfl)] at bw
  refine KL.op (R.assign rfl rfl) rfl rfl rfl ?_
  refine KL.nil ?_
  refine KQ.seq ?_
  refine KC.seq ?_
  refine KC.region ?_
  refine KL.op ((by first | exact R.fieldAddr rfl Try.underlying36 rfl rfl sz5 rfl | exact R.fieldAddrP rfl Try.underlying36 rfl rfl sz5 rfl)) rfl rfl rfl ?_
  refine KL.op (R.load rfl Try.underlying5 rfl rfl (by first | exact cell_of bx rfl | exact cell_of bw rfl | assumption)) rfl rfl rfl ?_
  refine KL.opM (M.lit rfl Try.underlying23 zs5 (by decide) rfl rfl rfl) rfl rfl rfl ?_
  rintro _ H5 ⟨rfl, n5⟩
  have z5 := n5.2.1
  have o0 := o0.trans n5.1
  have bx := (n5.1).blk bx
  have bw := (n5.1).blk bw
  have b5 := n5.2.2
  have hvb : vblock (Value.slice (some ⟨Array.size H4, 0, none⟩) 1 1) = Array.size H4 := rfl
  have wo : Own 1 (EInt .u8) 5 #[] (Array.size H4) H5 _ [x.op] := Own.litI (l := [x.op]) (m := 1) n5 (by omega) rfl (by decide) (by intro y hy; simp only [List.mem_cons, List.not_mem_nil, or_false] at hy; subst hy; exact hx.1)
  refine KL.op (R.assign rfl rfl) rfl rfl rfl ?_
  refine KL.nil ?_
  refine KQ.seq ?_
  refine KC.seq ?_
  refine KC.seq ?_
  refine KC.region ?_
  refine KL.op ((by first | exact R.fieldAddr rfl Try.underlying58 rfl rfl sz5 rfl | exact R.fieldAddrP rfl Try.underlying58 rfl rfl sz5 rfl)) rfl rfl rfl ?_
  refine KL.op (R.load rfl Try.underlying5 rfl rfl (by first | exact cell_of bx rfl | exact cell_of bw rfl | assumption)) rfl rfl rfl ?_
  refine KL.op (R.eql rfl rfl rfl) rfl rfl rfl ?_
  refine KL.nil ?_
  refine KQ.seq ?_
  refine KC.condIs false rfl (by decide) ?_
  refine KC.skip ?_
  refine KQ.seq ?_
  refine KC.seq ?_
  refine KC.seq ?_
  refine KC.region ?_
  refine KL.op ((by first | exact R.fieldAddr rfl Try.underlying58 rfl rfl sz5 rfl | exact R.fieldAddrP rfl Try.underlying58 rfl rfl sz5 rfl)) rfl rfl rfl ?_
  refine KL.op (R.load rfl Try.underlying5 rfl rfl (by first | exact cell_of bx rfl | exact cell_of bw rfl | assumption)) rfl rfl rfl ?_
  refine KL.op (R.eql rfl rfl rfl) rfl rfl rfl ?_
  refine KL.nil ?_
  refine KQ.seq ?_
  refine KC.condIs false rfl (by decide) ?_
  refine KC.skip ?_
  refine KQ.seq ?_
  refine KC.seq ?_
  refine KC.seq ?_
  refine KC.region ?_
  refine KL.op ((by first | exact R.fieldAddr rfl Try.underlying58 rfl rfl sz5 rfl | exact R.fieldAddrP rfl Try.underlying58 rfl rfl sz5 rfl)) rfl rfl rfl ?_
  refine KL.op (R.load rfl Try.underlying5 rfl rfl (by first | exact cell_of bx rfl | exact cell_of bw rfl | assumption)) rfl rfl rfl ?_
  refine KL.op ((R.geq rfl rfl rfl).val (congrArg Value.bool (decide_eq_true (by decide)))) rfl rfl rfl ?_
  refine KL.op (R.move rfl rfl) rfl rfl rfl ?_
  refine KL.op ((by first | exact R.fieldAddr rfl Try.underlying58 rfl rfl sz5 rfl | exact R.fieldAddrP rfl Try.underlying58 rfl rfl sz5 rfl)) rfl rfl rfl ?_
  refine KL.op (R.load rfl Try.underlying5 rfl rfl (by first | exact cell_of bx rfl | exact cell_of bw rfl | assumption)) rfl rfl rfl ?_
  refine KL.op ((R.leq rfl rfl rfl).val (congrArg Value.bool (decide_eq_true (by decide)))) rfl rfl rfl ?_
  refine KL.op (R.pick rfl rfl rfl) rfl rfl rfl ?_
  refine KL.nil ?_
  refine KQ.seq ?_
  refine KC.condT rfl ?_
  refine KC.region ?_
  refine KL.op (R.move rfl rfl) rfl rfl rfl ?_
  refine KL.op ((by first | exact R.fieldAddr rfl Try.underlying36 rfl rfl sz33 rfl | exact R.fieldAddrP rfl Try.underlying36 rfl rfl sz33 rfl)) rfl rfl rfl ?_
  refine KL.op (R.load rfl Try.underlying33 rfl rfl (by first | exact cell_of bx rfl | exact cell_of bw rfl | assumption)) rfl rfl rfl ?_
  refine KL.op (R.convI rfl Try.underlying33 Try.underlying62 rfl (by dsimp only [InR]; omega)) rfl rfl rfl ?_
  refine KL.call rfl rfl rfl rfl Try.call24 rfl rfl rfl (Few_k _ hx.2.1) ?_
  rintro va H6 ⟨wa, ox⟩
  have zc_H6 := (ox).1
  have o0 := o0.trans ox
  have bx := (ox).blk bx
  have bw := (ox).blk bw
  have wo := wo.old ox
  have hap := wa.sl (emptyOld _) (by omega)
  have hapl := apL hx.2.1
  have lt7 := wo.lt
  refine KL.opM (M.append rfl Try.underlying23 inf5 rfl (by decide) rfl rfl wo (by exact hap) (fun _ _ h _ => h) (by omega) (by simp only [List.length_append, List.length_cons, List.length_nil, List.length_take]; omega) (by unfold maxLen; simp only [List.length_append, List.length_cons, List.length_nil]; omega)) rfl rfl rfl ?_
  rintro vp H7 ⟨w7, g7⟩
  try dsimp only at g7
  have ob7 := g7.oldB wo (by omega)
  have o0 := o0.then ob7 (by omega)
  have z7 := ob7.1
  have bx := (g7.2 _ (blk_lt bx) (by first | exact .inr (by omega) | exact .inl rfl | exact lt7.imp id (fun h => by omega))).trans bx
  have bw := (g7.2 _ (blk_lt bw) (by first | exact .inr (by omega) | exact .inl rfl | exact lt7.imp id (fun h => by omega))).trans bw
  have wo := w7
  refine KL.op (R.assign rfl rfl) rfl rfl rfl ?_
  refine KL.nil ?_
  refine KQ.seq ?_
  refine KC.seq ?_
  refine KC.seq ?_
  refine KC.region ?_
  refine KL.op ((by first | exact R.fieldAddr rfl Try.underlying58 rfl rfl sz5 rfl | exact R.fieldAddrP rfl Try.underlying58 rfl rfl sz5 rfl)) rfl rfl rfl ?_
  refine KL.op (R.load rfl Try.underlying5 rfl rfl (by first | exact cell_of bx rfl | exact cell_of bw rfl | assumption)) rfl rfl rfl ?_
  refine KL.op (R.eql rfl rfl rfl) rfl rfl rfl ?_
  refine KL.nil ?_
  refine KQ.seq ?_
  refine KC.condIs false rfl (by decide) ?_
  refine KC.skip ?_
  refine KQ.seq ?_
  refine KC.seq ?_
  refine KC.seq ?_
  refine KC.region ?_
  refine KL.op ((by first | exact R.fieldAddr rfl Try.underlying58 rfl rfl sz5 rfl | exact R.fieldAddrP rfl Try.underlying58 rfl rfl sz5 rfl)) rfl rfl rfl ?_
  refine KL.op (R.load rfl Try.underlying5 rfl rfl (by first | exact cell_of bx rfl | exact cell_of bw rfl | assumption)) rfl rfl rfl ?_
  refine KL.op ((R.eql rfl rfl rfl).val (congrArg Value.bool (decide_eq_true (by decide)))) rfl rfl rfl ?_
  refine KL.op (R.move rfl rfl) rfl rfl rfl ?_
  refine KL.skip rfl rfl rfl ?_
  refine KL.skip rfl rfl rfl ?_
  refine KL.skip rfl rfl rfl ?_
  refine KL.op (R.pick rfl rfl rfl) rfl rfl rfl ?_
  refine KL.nil ?_
  refine KQ.seq ?_
  refine KC.condT rfl ?_
  refine KC.region ?_
  refine KL.op (R.move rfl rfl) rfl rfl rfl ?_
  refine KL.opM (M.lit rfl Try.underlying23 zs5 (by decide) rfl rfl rfl) rfl rfl rfl ?_
  rintro _ H8 ⟨rfl, n8⟩
  have z8 := n8.2.1
  have o0 := o0.trans n8.1
  have bx := (n8.1).blk bx
  have bw := (n8.1).blk bw
  have wo := wo.old n8.1
  have b8 := n8.2.2
  have hap : Sl 1 (EInt .u8) H8 _ [0] := Sl.lits (l := [0]) n8 rfl (by simp) (by decide)
  have lt9 := wo.lt
  refine KL.opM (M.append rfl Try.underlying23 inf5 rfl (by decide) rfl rfl wo (by exact hap) (fun _ _ h _ => h) (by omega) (by simp only [List.length_append, List.length_cons, List.length_nil, List.length_take]; omega) (by unfold maxLen; simp only [List.length_append, List.length_cons, List.length_nil]; omega)) rfl rfl rfl ?_
  rintro vr H9 ⟨w9, g9⟩
  try dsimp only at g9
  have ob9 := g9.oldB wo (by omega)
  have o0 := o0.then ob9 (by omega)
  have z9 := ob9.1
  have bx := (g9.2 _ (blk_lt bx) (by first | exact .inr (by omega) | exact .inl rfl | exact lt9.imp id (fun h => by omega))).trans bx
  have bw := (g9.2 _ (blk_lt bw) (by first | exact .inr (by omega) | exact .inl rfl | exact lt9.imp id (fun h => by omega))).trans bw
  have wo := w9
  refine KL.op (R.assign rfl rfl) rfl rfl rfl ?_
  refine KL.nil ?_
  refine KQ.seq ?_
  refine KC.seq ?_
  refine KC.seq ?_
  refine KC.region ?_
  refine KL.op ((by first | exact R.fieldAddr rfl Try.underlying58 rfl rfl sz5 rfl | exact R.fieldAddrP rfl Try.underlying58 rfl rfl sz5 rfl)) rfl rfl rfl ?_
  refine KL.op (R.load rfl Try.underlying5 rfl rfl (by first | exact cell_of bx rfl | exact cell_of bw rfl | assumption)) rfl rfl rfl ?_
  refine KL.op (R.geq rfl rfl rfl) rfl rfl rfl ?_
  refine KL.nil ?_
  refine KQ.seq ?_
  refine KC.condIs false rfl (by decide) ?_
  refine KC.skip ?_
  refine KQ.seq ?_
  refine KC.seq ?_
  refine KC.region ?_
  refine KL.op (R.move rfl rfl) rfl rfl rfl ?_
  refine KL.op (R.assign rfl rfl) rfl rfl rfl ?_
  refine KL.nil ?_
  refine KQ.seq ?_
  refine KC.ret ?_
  refine KQ.ofRet ?_
  refine KQ.fin1 Try.results13 rfl ?_
  have e : Isp.bytes x = x.op :: (Isp.apN false x.a ++ [0]) := by unfold Isp.bytes Isp.bodyE Isp.rest Isp.labsE; rw [hf]; simp
  rw [e]
  exact ⟨by simpa [List.append_assoc] using wo.weak (by omega), o0⟩

set_option maxRecDepth 100000 in
set_option maxHeartbeats 4000000 in
theorem RBytes6 {H : Heap} {x : Ins} {vl : Value} (hx : InsR x) (hll : x.l.length ≤ 100000000) (hs : Sl 1 (EInt .u32) H vl x.l) (hf : Opc.form x.op = 6) : Ct Try.prog 13 [insV x vl] H (fun u H' => Own 1 (EInt .u8) 5 #[] H.size H' u (Isp.bytes x) ∧ Old H H') := by
  refine Ct.mk Try.func13 rfl Try.ntmps13 rfl ?_
  intro W0 hW0
  have o0 : Old H H := Old.refl H
  have hs0 := hs
  have hxa := hx.2.1
  have hxb := hx.2.2.1
  dsimp only [InR] at hxa hxb
  unfold insV
  refine KC.seq ?_
  refine KC.region ?_
  refine KL.opM (M.box rfl rfl rfl) rfl rfl rfl ?_
  rintro _ H1 ⟨rfl, n1⟩
  have z1 := n1.2.1
  have o0 := o0.trans n1.1
  have hs := hs.old n1.1
  have b1 := n1.2.2
  have bx := b1
  refine KL.op (R.assign rfl rfl) rfl rfl rfl ?_
  refine KL.nil ?_
  refine KQ.seq ?_
  refine KC.seq ?_
  refine KC.region ?_
  refine KL.op ((by first | exact R.fieldAddr rfl Try.underlying36 rfl rfl sz5 rfl | exact R.fieldAddrP rfl Try.underlying36 rfl rfl sz5 rfl)) rfl rfl rfl ?_
  refine KL.op (R.load rfl Try.underlying5 rfl rfl (by first | exact cell_of bx rfl | assumption)) rfl rfl rfl ?_
  refine KL.call rfl rfl rfl rfl Try.call23 rfl rfl rfl (RFindK _ hx.1) ?_
  rintro _ H2 ⟨⟨a1, a2, a4, a5, rfl⟩, ox⟩
  have zc_H2 := (ox).1
  have o0 := o0.trans ox
  have hs := hs.old ox
  have bx := (ox).blk bx
  rw [hf]
  refine KL.op (R.move rfl rfl) rfl rfl rfl ?_
  refine KL.op (R.extract rfl rfl rfl) rfl rfl rfl ?_
  refine KL.op (R.extract rfl rfl rfl) rfl rfl rfl ?_
  refine KL.opM (M.alloc rfl zr58 rfl) rfl rfl rfl ?_
  rintro _ H3 ⟨rfl, n3⟩
  have z3 := n3.2.1
  have o0 := o0.trans n3.1
  have hs := hs.old n3.1
  have bx := (n3.1).blk bx
  have b3 := n3.2.2
  have bw := b3
  refine KL.opS (S.storeAgg rfl sz58 rfl rfl (rfl) (by intro u hu; simp only [List.mem_cons, List.not_mem_nil, or_false] at hu; rcases hu with rfl | rfl | rfl | rfl | rfl <;> rfl) bw (by simp)) rfl rfl ?_
  rintro H4 ⟨u4, b4⟩
  have o0 := o0.upd u4 (by omega)
  have zu4 := u4.1
  have bx := ((u4).2 _ (by omega)).trans bx
  have bw := b4
  rw [over_all (by rfl)] at bw
  refine KL.op (R.assign rfl rfl) rfl rfl rfl ?_
  refine KL.nil ?_
  refine KQ.seq ?_
  refine KC.seq ?_
  refine KC.region ?_
  refine KL.op ((by first | exact R.fieldAddr rfl Try.underlying36 rfl rfl sz5 rfl | exact R.fieldAddrP rfl Try.underlying36 rfl rfl sz5 rfl)) rfl rfl rfl ?_
  refine KL.op (R.load rfl Try.underlying5 rfl rfl (by first | exact cell_of bx rfl | exact cell_of bw rfl | assumption)) rfl rfl rfl ?_
  refine KL.opM (M.lit rfl Try.underlying23 zs5 (by decide) rfl rfl rfl) rfl rfl rfl ?_
  rintro _ H5 ⟨rfl, n5⟩
  have z5 := n5.2.1
  have o0 := o0.trans n5.1
  have bx := (n5.1).blk bx
  have bw := (n5.1).blk bw
  have b5 := n5.2.2
  have hvb : vblock (Value.slice (some ⟨Array.size H4, 0, none⟩) 1 1) = Array.size H4 := rfl
  have wo : Own 1 (EInt .u8) 5 #[] (Array.size H4) H5 _ [x.op] := Own.litI (l := [x.op]) (m := 1) n5 (by omega) rfl (by decide) (by intro y hy; simp only [List.mem_cons, List.not_mem_nil, or_false] at hy; subst hy; exact hx.1)
  refine KL.op (R.assign rfl rfl) rfl rfl rfl ?_
  refine KL.nil ?_
  refine KQ.seq ?_
  refine KC.seq ?_
  refine KC.seq ?_
  refine KC.region ?_
  refine KL.op ((by first | exact R.fieldAddr rfl Try.underlying58 rfl rfl sz5 rfl | exact R.fieldAddrP rfl Try.underlying58 rfl rfl sz5 rfl)) rfl rfl rfl ?_
  refine KL.op (R.load rfl Try.underlying5 rfl rfl (by first | exact cell_of bx rfl | exact cell_of bw rfl | assumption)) rfl rfl rfl ?_
  refine KL.op (R.eql rfl rfl rfl) rfl rfl rfl ?_
  refine KL.nil ?_
  refine KQ.seq ?_
  refine KC.condIs false rfl (by decide) ?_
  refine KC.skip ?_
  refine KQ.seq ?_
  refine KC.seq ?_
  refine KC.seq ?_
  refine KC.region ?_
  refine KL.op ((by first | exact R.fieldAddr rfl Try.underlying58 rfl rfl sz5 rfl | exact R.fieldAddrP rfl Try.underlying58 rfl rfl sz5 rfl)) rfl rfl rfl ?_
  refine KL.op (R.load rfl Try.underlying5 rfl rfl (by first | exact cell_of bx rfl | exact cell_of bw rfl | assumption)) rfl rfl rfl ?_
  refine KL.op (R.eql rfl rfl rfl) rfl rfl rfl ?_
  refine KL.nil ?_
  refine KQ.seq ?_
  refine KC.condIs false rfl (by decide) ?_
  refine KC.skip ?_
  refine KQ.seq ?_
  refine KC.seq ?_
  refine KC.seq ?_
  refine KC.region ?_
  refine KL.op ((by first | exact R.fieldAddr rfl Try.underlying58 rfl rfl sz5 rfl | exact R.fieldAddrP rfl Try.underlying58 rfl rfl sz5 rfl)) rfl rfl rfl ?_
  refine KL.op (R.load rfl Try.underlying5 rfl rfl (by first | exact cell_of bx rfl | exact cell_of bw rfl | assumption)) rfl rfl rfl ?_
  refine KL.op ((R.geq rfl rfl rfl).val (congrArg Value.bool (decide_eq_true (by decide)))) rfl rfl rfl ?_
  refine KL.op (R.move rfl rfl) rfl rfl rfl ?_
  refine KL.op ((by first | exact R.fieldAddr rfl Try.underlying58 rfl rfl sz5 rfl | exact R.fieldAddrP rfl Try.underlying58 rfl rfl sz5 rfl)) rfl rfl rfl ?_
  refine KL.op (R.load rfl Try.underlying5 rfl rfl (by first | exact cell_of bx rfl | exact cell_of bw rfl | assumption)) rfl rfl rfl ?_
  refine KL.op ((R.leq rfl rfl rfl).val (congrArg Value.bool (decide_eq_true (by decide)))) rfl rfl rfl ?_
  refine KL.op (R.pick rfl rfl rfl) rfl rfl rfl ?_
  refine KL.nil ?_
  refine KQ.seq ?_
  refine KC.condT rfl ?_
  refine KC.region ?_
  refine KL.op (R.move rfl rfl) rfl rfl rfl ?_
  refine KL.op ((by first | exact R.fieldAddr rfl Try.underlying36 rfl rfl sz33 rfl | exact R.fieldAddrP rfl Try.underlying36 rfl rfl sz33 rfl)) rfl rfl rfl ?_
  refine KL.op (R.load rfl Try.underlying33 rfl rfl (by first | exact cell_of bx rfl | exact cell_of bw rfl | assumption)) rfl rfl rfl ?_
  refine KL.op (R.convI rfl Try.underlying33 Try.underlying62 rfl (by dsimp only [InR]; omega)) rfl rfl rfl ?_
  refine KL.call rfl rfl rfl rfl Try.call24 rfl rfl rfl (Few_k _ hx.2.1) ?_
  rintro va H6 ⟨wa, ox⟩
  have zc_H6 := (ox).1
  have o0 := o0.trans ox
  have bx := (ox).blk bx
  have bw := (ox).blk bw
  have wo := wo.old ox
  have hap := wa.sl (emptyOld _) (by omega)
  have hapl := apL hx.2.1
  have lt7 := wo.lt
  refine KL.opM (M.append rfl Try.underlying23 inf5 rfl (by decide) rfl rfl wo (by exact hap) (fun _ _ h _ => h) (by omega) (by simp only [List.length_append, List.length_cons, List.length_nil, List.length_take]; omega) (by unfold maxLen; simp only [List.length_append, List.length_cons, List.length_nil]; omega)) rfl rfl rfl ?_
  rintro vp H7 ⟨w7, g7⟩
  try dsimp only at g7
  have ob7 := g7.oldB wo (by omega)
  have o0 := o0.then ob7 (by omega)
  have z7 := ob7.1
  have bx := (g7.2 _ (blk_lt bx) (by first | exact .inr (by omega) | exact .inl rfl | exact lt7.imp id (fun h => by omega))).trans bx
  have bw := (g7.2 _ (blk_lt bw) (by first | exact .inr (by omega) | exact .inl rfl | exact lt7.imp id (fun h => by omega))).trans bw
  have wo := w7
  refine KL.op (R.assign rfl rfl) rfl rfl rfl ?_
  refine KL.nil ?_
  refine KQ.seq ?_
  refine KC.seq ?_
  refine KC.seq ?_
  refine KC.region ?_
  refine KL.op ((by first | exact R.fieldAddr rfl Try.underlying58 rfl rfl sz5 rfl | exact R.fieldAddrP rfl Try.underlying58 rfl rfl sz5 rfl)) rfl rfl rfl ?_
  refine KL.op (R.load rfl Try.underlying5 rfl rfl (by first | exact cell_of bx rfl | exact cell_of bw rfl | assumption)) rfl rfl rfl ?_
  refine KL.op (R.eql rfl rfl rfl) rfl rfl rfl ?_
  refine KL.nil ?_
  refine KQ.seq ?_
  refine KC.condIs true rfl (by decide) ?_
  refine KC.region ?_
  refine KL.op (R.move rfl rfl) rfl rfl rfl ?_
  refine KL.op ((by first | exact R.fieldAddr rfl Try.underlying36 rfl rfl sz33 rfl | exact R.fieldAddrP rfl Try.underlying36 rfl rfl sz33 rfl)) rfl rfl rfl ?_
  refine KL.op (R.load rfl Try.underlying33 rfl rfl (by first | exact cell_of bx rfl | exact cell_of bw rfl | assumption)) rfl rfl rfl ?_
  refine KL.op (R.convI rfl Try.underlying33 Try.underlying62 rfl (by dsimp only [InR]; omega)) rfl rfl rfl ?_
  refine KL.call rfl rfl rfl rfl Try.call24 rfl rfl rfl (Few_k _ hx.2.2.1) ?_
  rintro va H8 ⟨wa, ox⟩
  have zc_H8 := (ox).1
  have o0 := o0.trans ox
  have bx := (ox).blk bx
  have bw := (ox).blk bw
  have wo := wo.old ox
  have hap := wa.sl (emptyOld _) (by omega)
  have hapl := apL hx.2.2.1
  have lt9 := wo.lt
  refine KL.opM (M.append rfl Try.underlying23 inf5 rfl (by decide) rfl rfl wo (by exact hap) (fun _ _ h _ => h) (by omega) (by simp only [List.length_append, List.length_cons, List.length_nil, List.length_take]; omega) (by unfold maxLen; simp only [List.length_append, List.length_cons, List.length_nil]; omega)) rfl rfl rfl ?_
  rintro vq H9 ⟨w9, g9⟩
  try dsimp only at g9
  have ob9 := g9.oldB wo (by omega)
  have o0 := o0.then ob9 (by omega)
  have z9 := ob9.1
  have bx := (g9.2 _ (blk_lt bx) (by first | exact .inr (by omega) | exact .inl rfl | exact lt9.imp id (fun h => by omega))).trans bx
  have bw := (g9.2 _ (blk_lt bw) (by first | exact .inr (by omega) | exact .inl rfl | exact lt9.imp id (fun h => by omega))).trans bw
  have wo := w9
  refine KL.op (R.assign rfl rfl) rfl rfl rfl ?_
  refine KL.nil ?_
  refine KQ.seq ?_
  refine KC.seq ?_
  refine KC.seq ?_
  refine KC.region ?_
  refine KL.op ((by first | exact R.fieldAddr rfl Try.underlying58 rfl rfl sz5 rfl | exact R.fieldAddrP rfl Try.underlying58 rfl rfl sz5 rfl)) rfl rfl rfl ?_
  refine KL.op (R.load rfl Try.underlying5 rfl rfl (by first | exact cell_of bx rfl | exact cell_of bw rfl | assumption)) rfl rfl rfl ?_
  refine KL.op ((R.eql rfl rfl rfl).val (congrArg Value.bool (decide_eq_false (by decide)))) rfl rfl rfl ?_
  refine KL.op (R.move rfl rfl) rfl rfl rfl ?_
  refine KL.op ((by first | exact R.fieldAddr rfl Try.underlying58 rfl rfl sz5 rfl | exact R.fieldAddrP rfl Try.underlying58 rfl rfl sz5 rfl)) rfl rfl rfl ?_
  refine KL.op (R.load rfl Try.underlying5 rfl rfl (by first | exact cell_of bx rfl | exact cell_of bw rfl | assumption)) rfl rfl rfl ?_
  refine KL.op ((R.eql rfl rfl rfl).val (congrArg Value.bool (decide_eq_false (by decide)))) rfl rfl rfl ?_
  refine KL.op (R.pick rfl rfl rfl) rfl rfl rfl ?_
  refine KL.nil ?_
  refine KQ.seq ?_
  refine KC.condF rfl ?_
  refine KC.skip ?_
  refine KQ.seq ?_
  refine KC.seq ?_
  refine KC.seq ?_
  refine KC.region ?_
  refine KL.op ((by first | exact R.fieldAddr rfl Try.underlying58 rfl rfl sz5 rfl | exact R.fieldAddrP rfl Try.underlying58 rfl rfl sz5 rfl)) rfl rfl rfl ?_
  refine KL.op (R.load rfl Try.underlying5 rfl rfl (by first | exact cell_of bx rfl | exact cell_of bw rfl | assumption)) rfl rfl rfl ?_
  refine KL.op (R.geq rfl rfl rfl) rfl rfl rfl ?_
  refine KL.nil ?_
  refine KQ.seq ?_
  refine KC.condIs false rfl (by decide) ?_
  refine KC.skip ?_
  refine KQ.seq ?_
  refine KC.seq ?_
  refine KC.region ?_
  refine KL.op (R.move rfl rfl) rfl rfl rfl ?_
  refine KL.op (R.assign rfl rfl) rfl rfl rfl ?_
  refine KL.nil ?_
  refine KQ.seq ?_
  refine KC.ret ?_
  refine KQ.ofRet ?_
  refine KQ.fin1 Try.results13 rfl ?_
  have e : Isp.bytes x = x.op :: (Isp.apN false x.a ++ Isp.apN false x.b) := by unfold Isp.bytes Isp.bodyE Isp.rest Isp.labsE; rw [hf]; simp
  rw [e]
  exact ⟨by simpa [List.append_assoc] using wo.weak (by omega), o0⟩

set_option maxRecDepth 100000 in
set_option maxHeartbeats 4000000 in
theorem RBytes7 {H : Heap} {x : Ins} {vl : Value} (hx : InsR x) (hll : x.l.length ≤ 100000000) (hs : Sl 1 (EInt .u32) H vl x.l) (hf : Opc.form x.op = 7) : Ct Try.prog 13 [insV x vl] H (fun u H' => Own 1 (EInt .u8) 5 #[] H.size H' u (Isp.bytes x) ∧ Old H H') := by
  refine Ct.mk Try.func13 rfl Try.ntmps13 rfl ?_
  intro W0 hW0
  have o0 : Old H H := Old.refl H
  have hs0 := hs
  have hxa := hx.2.1
  have hxb := hx.2.2.1
  dsimp only [InR] at hxa hxb
  unfold insV
  refine KC.seq ?_
  refine KC.region ?_
  refine KL.opM (M.box rfl rfl rfl) rfl rfl rfl ?_
  rintro _ H1 ⟨rfl, n1⟩
  have z1 := n1.2.1
  have o0 := o0.trans n1.1
  have hs := hs.old n1.1
  have b1 := n1.2.2
  have bx := b1
  refine KL.op (R.assign rfl rfl) rfl rfl rfl ?_
  refine KL.nil ?_
  refine KQ.seq ?_
  refine KC.seq ?_
  refine KC.region ?_
  refine KL.op ((by first | exact R.fieldAddr rfl Try.underlying36 rfl rfl sz5 rfl | exact R.fieldAddrP rfl Try.underlying36 rfl rfl sz5 rfl)) rfl rfl rfl ?_
  refine KL.op (R.load rfl Try.underlying5 rfl rfl (by first | exact cell_of bx rfl | assumption)) rfl rfl rfl ?_
  refine KL.call rfl rfl rfl rfl Try.call23 rfl rfl rfl (RFindK _ hx.1) ?_
  rintro _ H2 ⟨⟨a1, a2, a4, a5, rfl⟩, ox⟩
  have zc_H2 := (ox).1
  have o0 := o0.trans ox
  have hs := hs.old ox
  have bx := (ox).blk bx
  rw [hf]
  refine KL.op (R.move rfl rfl) rfl rfl rfl ?_
  refine KL.op (R.extract rfl rfl rfl) rfl rfl rfl ?_
  refine KL.op (R.extract rfl rfl rfl) rfl rfl rfl ?_
  refine KL.opM (M.alloc rfl zr58 rfl) rfl rfl rfl ?_
  rintro _ H3 ⟨rfl, n3⟩
  have z3 := n3.2.1
  have o0 := o0.trans n3.1
  have hs := hs.old n3.1
  have bx := (n3.1).blk bx
  have b3 := n3.2.2
  have bw := b3
  refine KL.opS (S.storeAgg rfl sz58 rfl rfl (rfl) (by intro u hu; simp only [List.mem_cons, List.not_mem_nil, or_false] at hu; rcases hu with rfl | rfl | rfl | rfl | rfl <;> rfl) bw (by simp)) rfl rfl ?_
  rintro H4 ⟨u4, b4⟩
  have o0 := o0.upd u4 (by omega)
  have zu4 := u4.1
  have bx := ((u4).2 _ (by omega)).trans bx
  have bw := b4
  rw [over_all (by rfl)] at bw
  refine KL.op (R.assign rfl rfl) rfl rfl rfl ?_
  refine KL.nil ?_
  refine KQ.seq ?_
  refine KC.seq ?_
  refine KC.region ?_
  refine KL.op ((by first | exact R.fieldAddr rfl Try.underlying36 rfl rfl sz5 rfl | exact R.fieldAddrP rfl Try.underlying36 rfl rfl sz5 rfl)) rfl rfl rfl ?_
  refine KL.op (R.load rfl Try.underlying5 rfl rfl (by first | exact cell_of bx rfl | exact cell_of bw rfl | assumption)) rfl rfl rfl ?_
  refine KL.opM (M.lit rfl Try.underlying23 zs5 (by decide) rfl rfl rfl) rfl rfl rfl ?_
  rintro _ H5 ⟨rfl, n5⟩
  have z5 := n5.2.1
  have o0 := o0.trans n5.1
  have bx := (n5.1).blk bx
  have bw := (n5.1).blk bw
  have b5 := n5.2.2
  have hvb : vblock (Value.slice (some ⟨Array.size H4, 0, none⟩) 1 1) = Array.size H4 := rfl
  have wo : Own 1 (EInt .u8) 5 #[] (Array.size H4) H5 _ [x.op] := Own.litI (l := [x.op]) (m := 1) n5 (by omega) rfl (by decide) (by intro y hy; simp only [List.mem_cons, List.not_mem_nil, or_false] at hy; subst hy; exact hx.1)
  refine KL.op (R.assign rfl rfl) rfl rfl rfl ?_
  refine KL.nil ?_
  refine KQ.seq ?_
  refine KC.seq ?_
  refine KC.seq ?_
  refine KC.region ?_
  refine KL.op ((by first | exact R.fieldAddr rfl Try.underlying58 rfl rfl sz5 rfl | exact R.fieldAddrP rfl Try.underlying58 rfl rfl sz5 rfl)) rfl rfl rfl ?_
  refine KL.op (R.load rfl Try.underlying5 rfl rfl (by first | exact cell_of bx rfl | exact cell_of bw rfl | assumption)) rfl rfl rfl ?_
  refine KL.op (R.eql rfl rfl rfl) rfl rfl rfl ?_
  refine KL.nil ?_
  refine KQ.seq ?_
  refine KC.condIs false rfl (by decide) ?_
  refine KC.skip ?_
  refine KQ.seq ?_
  refine KC.seq ?_
  refine KC.seq ?_
  refine KC.region ?_
  refine KL.op ((by first | exact R.fieldAddr rfl Try.underlying58 rfl rfl sz5 rfl | exact R.fieldAddrP rfl Try.underlying58 rfl rfl sz5 rfl)) rfl rfl rfl ?_
  refine KL.op (R.load rfl Try.underlying5 rfl rfl (by first | exact cell_of bx rfl | exact cell_of bw rfl | assumption)) rfl rfl rfl ?_
  refine KL.op (R.eql rfl rfl rfl) rfl rfl rfl ?_
  refine KL.nil ?_
  refine KQ.seq ?_
  refine KC.condIs false rfl (by decide) ?_
  refine KC.skip ?_
  refine KQ.seq ?_
  refine KC.seq ?_
  refine KC.seq ?_
  refine KC.region ?_
  refine KL.op ((by first | exact R.fieldAddr rfl Try.underlying58 rfl rfl sz5 rfl | exact R.fieldAddrP rfl Try.underlying58 rfl rfl sz5 rfl)) rfl rfl rfl ?_
  refine KL.op (R.load rfl Try.underlying5 rfl rfl (by first | exact cell_of bx rfl | exact cell_of bw rfl | assumption)) rfl rfl rfl ?_
  refine KL.op ((R.geq rfl rfl rfl).val (congrArg Value.bool (decide_eq_true (by decide)))) rfl rfl rfl ?_
  refine KL.op (R.move rfl rfl) rfl rfl rfl ?_
  refine KL.op ((by first | exact R.fieldAddr rfl Try.underlying58 rfl rfl sz5 rfl | exact R.fieldAddrP rfl Try.underlying58 rfl rfl sz5 rfl)) rfl rfl rfl ?_
  refine KL.op (R.load rfl Try.underlying5 rfl rfl (by first | exact cell_of bx rfl | exact cell_of bw rfl | assumption)) rfl rfl rfl ?_
  refine KL.op ((R.leq rfl rfl rfl).val (congrArg Value.bool (decide_eq_false (by decide)))) rfl rfl rfl ?_
  refine KL.op (R.pick rfl rfl rfl) rfl rfl rfl ?_
  refine KL.nil ?_
  refine KQ.seq ?_
  refine KC.condF rfl ?_
  refine KC.skip ?_
  refine KQ.seq ?_
  refine KC.seq ?_
  refine KC.seq ?_
  refine KC.region ?_
  refine KL.op ((by first | exact R.fieldAddr rfl Try.underlying58 rfl rfl sz5 rfl | exact R.fieldAddrP rfl Try.underlying58 rfl rfl sz5 rfl)) rfl rfl rfl ?_
  refine KL.op (R.load rfl Try.underlying5 rfl rfl (by first | exact cell_of bx rfl | exact cell_of bw rfl | assumption)) rfl rfl rfl ?_
  refine KL.op (R.eql rfl rfl rfl) rfl rfl rfl ?_
  refine KL.nil ?_
  refine KQ.seq ?_
  refine KC.condIs false rfl (by decide) ?_
  refine KC.skip ?_
  refine KQ.seq ?_
  refine KC.seq ?_
  refine KC.seq ?_
  refine KC.region ?_
  refine KL.op ((by first | exact R.fieldAddr rfl Try.underlying58 rfl rfl sz5 rfl | exact R.fieldAddrP rfl Try.underlying58 rfl rfl sz5 rfl)) rfl rfl rfl ?_
  refine KL.op (R.load rfl Try.underlying5 rfl rfl (by first | exact cell_of bx rfl | exact cell_of bw rfl | assumption)) rfl rfl rfl ?_
  refine KL.op ((R.eql rfl rfl rfl).val (congrArg Value.bool (decide_eq_false (by decide)))) rfl rfl rfl ?_
  refine KL.op (R.move rfl rfl) rfl rfl rfl ?_
  refine KL.op ((by first | exact R.fieldAddr rfl Try.underlying58 rfl rfl sz5 rfl | exact R.fieldAddrP rfl Try.underlying58 rfl rfl sz5 rfl)) rfl rfl rfl ?_
  refine KL.op (R.load rfl Try.underlying5 rfl rfl (by first | exact cell_of bx rfl | exact cell_of bw rfl | assumption)) rfl rfl rfl ?_
  refine KL.op ((R.eql rfl rfl rfl).val (congrArg Value.bool (decide_eq_true (by decide)))) rfl rfl rfl ?_
  refine KL.op (R.pick rfl rfl rfl) rfl rfl rfl ?_
  refine KL.nil ?_
  refine KQ.seq ?_
  refine KC.condT rfl ?_
  refine KC.region ?_
  refine KL.op (R.move rfl rfl) rfl rfl rfl ?_
  refine KL.opM (M.lit rfl Try.underlying23 zs5 (by decide) rfl rfl rfl) rfl rfl rfl ?_
  rintro _ H6 ⟨rfl, n6⟩
  have z6 := n6.2.1
  have o0 := o0.trans n6.1
  have bx := (n6.1).blk bx
  have bw := (n6.1).blk bw
  have wo := wo.old n6.1
  have b6 := n6.2.2
  have hap : Sl 1 (EInt .u8) H6 _ [0] := Sl.lits (l := [0]) n6 rfl (by simp) (by decide)
  have lt7 := wo.lt
  refine KL.opM (M.append rfl Try.underlying23 inf5 rfl (by decide) rfl rfl wo (by exact hap) (fun _ _ h _ => h) (by omega) (by simp only [List.length_append, List.length_cons, List.length_nil, List.length_take]; omega) (by unfold maxLen; simp only [List.length_append, List.length_cons, List.length_nil]; omega)) rfl rfl rfl ?_
  rintro vr H7 ⟨w7, g7⟩
  try dsimp only at g7
  have ob7 := g7.oldB wo (by omega)
  have o0 := o0.then ob7 (by omega)
  have z7 := ob7.1
  have bx := (g7.2 _ (blk_lt bx) (by first | exact .inr (by omega) | exact .inl rfl | exact lt7.imp id (fun h => by omega))).trans bx
  have bw := (g7.2 _ (blk_lt bw) (by first | exact .inr (by omega) | exact .inl rfl | exact lt7.imp id (fun h => by omega))).trans bw
  have wo := w7
  refine KL.op (R.assign rfl rfl) rfl rfl rfl ?_
  refine KL.nil ?_
  refine KQ.seq ?_
  refine KC.seq ?_
  refine KC.seq ?_
  refine KC.region ?_
  refine KL.op ((by first | exact R.fieldAddr rfl Try.underlying58 rfl rfl sz5 rfl | exact R.fieldAddrP rfl Try.underlying58 rfl rfl sz5 rfl)) rfl rfl rfl ?_
  refine KL.op (R.load rfl Try.underlying5 rfl rfl (by first | exact cell_of bx rfl | exact cell_of bw rfl | assumption)) rfl rfl rfl ?_
  refine KL.op (R.geq rfl rfl rfl) rfl rfl rfl ?_
  refine KL.nil ?_
  refine KQ.seq ?_
  refine KC.condIs false rfl (by decide) ?_
  refine KC.skip ?_
  refine KQ.seq ?_
  refine KC.seq ?_
  refine KC.region ?_
  refine KL.op (R.move rfl rfl) rfl rfl rfl ?_
  refine KL.op (R.assign rfl rfl) rfl rfl rfl ?_
  refine KL.nil ?_
  refine KQ.seq ?_
  refine KC.ret ?_
  refine KQ.ofRet ?_
  refine KQ.fin1 Try.results13 rfl ?_
  have e : Isp.bytes x = x.op :: [0] := by unfold Isp.bytes Isp.bodyE Isp.rest Isp.labsE; rw [hf]; simp
  rw [e]
  exact ⟨by simpa [List.append_assoc] using wo.weak (by omega), o0⟩

set_option maxRecDepth 100000 in
set_option maxHeartbeats 4000000 in
theorem RBytes8 {H : Heap} {x : Ins} {vl : Value} (hx : InsR x) (hll : x.l.length ≤ 100000000) (hs : Sl 1 (EInt .u32) H vl x.l) (hf : Opc.form x.op = 8) : Ct Try.prog 13 [insV x vl] H (fun u H' => Own 1 (EInt .u8) 5 #[] H.size H' u (Isp.bytes x) ∧ Old H H') := by
  refine Ct.mk Try.func13 rfl Try.ntmps13 rfl ?_
  intro W0 hW0
  have o0 : Old H H := Old.refl H
  have hs0 := hs
  have hxa := hx.2.1
  have hxb := hx.2.2.1
  dsimp only [InR] at hxa hxb
  unfold insV
  refine KC.seq ?_
  refine KC.region ?_
  refine KL.opM (M.box rfl rfl rfl) rfl rfl rfl ?_
  rintro _ H1 ⟨rfl, n1⟩
  have z1 := n1.2.1
  have o0 := o0.trans n1.1
  have hs := hs.old n1.1
  have b1 := n1.2.2
  have bx := b1
  refine KL.op (R.assign rfl rfl) rfl rfl rfl ?_
  refine KL.nil ?_
  refine KQ.seq ?_
  refine KC.seq ?_
  refine KC.region ?_
  refine KL.op ((by first | exact R.fieldAddr rfl Try.underlying36 rfl rfl sz5 rfl | exact R.fieldAddrP rfl Try.underlying36 rfl rfl sz5 rfl)) rfl rfl rfl ?_
  refine KL.op (R.load rfl Try.underlying5 rfl rfl (by first | exact cell_of bx rfl | assumption)) rfl rfl rfl ?_
  refine KL.call rfl rfl rfl rfl Try.call23 rfl rfl rfl (RFindK _ hx.1) ?_
  rintro _ H2 ⟨⟨a1, a2, a4, a5, rfl⟩, ox⟩
  have zc_H2 := (ox).1
  have o0 := o0.trans ox
  have hs := hs.old ox
  have bx := (ox).blk bx
  rw [hf]
  refine KL.op (R.move rfl rfl) rfl rfl rfl ?_
  refine KL.op (R.extract rfl rfl rfl) rfl rfl rfl ?_
  refine KL.op (R.extract rfl rfl rfl) rfl rfl rfl ?_
  refine KL.opM (M.alloc rfl zr58 rfl) rfl rfl rfl ?_
  rintro _ H3 ⟨rfl, n3⟩
  have z3 := n3.2.1
  have o0 := o0.trans n3.1
  have hs := hs.old n3.1
  have bx := (n3.1).blk bx
  have b3 := n3.2.2
  have bw := b3
  refine KL.opS (S.storeAgg rfl sz58 rfl rfl (rfl) (by intro u hu; simp only [List.mem_cons, List.not_mem_nil, or_false] at hu; rcases hu with rfl | rfl | rfl | rfl | rfl <;> rfl) bw (by simp)) rfl rfl ?_
  rintro H4 ⟨u4, b4⟩
  have o0 := o0.upd u4 (by omega)
  have zu4 := u4.1
  have bx := ((u4).2 _ (by omega)).trans bx
  have bw := b4
  rw [over_all (by rfl)] at bw
  refine KL.op (R.assign rfl rfl) rfl rfl rfl ?_
  refine KL.nil ?_
  refine KQ.seq ?_
  refine KC.seq ?_
  refine KC.region ?_
  refine KL.op ((by first | exact R.fieldAddr rfl Try.underlying36 rfl rfl sz5 rfl | exact R.fieldAddrP rfl Try.underlying36 rfl rfl sz5 rfl)) rfl rfl rfl ?_
  refine KL.op (R.load rfl Try.underlying5 rfl rfl (by first | exact cell_of bx rfl | exact cell_of bw rfl | assumption)) rfl rfl rfl ?_
  refine KL.opM (M.lit rfl Try.underlying23 zs5 (by decide) rfl rfl rfl) rfl rfl rfl ?_
  rintro _ H5 ⟨rfl, n5⟩
  have z5 := n5.2.1
  have o0 := o0.trans n5.1
  have bx := (n5.1).blk bx
  have bw := (n5.1).blk bw
  have b5 := n5.2.2
  have hvb : vblock (Value.slice (some ⟨Array.size H4, 0, none⟩) 1 1) = Array.size H4 := rfl
  have wo : Own 1 (EInt .u8) 5 #[] (Array.size H4) H5 _ [x.op] := Own.litI (l := [x.op]) (m := 1) n5 (by omega) rfl (by decide) (by intro y hy; simp only [List.mem_cons, List.not_mem_nil, or_false] at hy; subst hy; exact hx.1)
  refine KL.op (R.assign rfl rfl) rfl rfl rfl ?_
  refine KL.nil ?_
  refine KQ.seq ?_
  refine KC.seq ?_
  refine KC.seq ?_
  refine KC.region ?_
  refine KL.op ((by first | exact R.fieldAddr rfl Try.underlying58 rfl rfl sz5 rfl | exact R.fieldAddrP rfl Try.underlying58 rfl rfl sz5 rfl)) rfl rfl rfl ?_
  refine KL.op (R.load rfl Try.underlying5 rfl rfl (by first | exact cell_of bx rfl | exact cell_of bw rfl | assumption)) rfl rfl rfl ?_
  refine KL.op (R.eql rfl rfl rfl) rfl rfl rfl ?_
  refine KL.nil ?_
  refine KQ.seq ?_
  refine KC.condIs false rfl (by decide) ?_
  refine KC.skip ?_
  refine KQ.seq ?_
  refine KC.seq ?_
  refine KC.seq ?_
  refine KC.region ?_
  refine KL.op ((by first | exact R.fieldAddr rfl Try.underlying58 rfl rfl sz5 rfl | exact R.fieldAddrP rfl Try.underlying58 rfl rfl sz5 rfl)) rfl rfl rfl ?_
  refine KL.op (R.load rfl Try.underlying5 rfl rfl (by first | exact cell_of bx rfl | exact cell_of bw rfl | assumption)) rfl rfl rfl ?_
  refine KL.op (R.eql rfl rfl rfl) rfl rfl rfl ?_
  refine KL.nil ?_
  refine KQ.seq ?_
  refine KC.condIs false rfl (by decide) ?_
  refine KC.skip ?_
  refine KQ.seq ?_
  refine KC.seq ?_
  refine KC.seq ?_
  refine KC.region ?_
  refine KL.op ((by first | exact R.fieldAddr rfl Try.underlying58 rfl rfl sz5 rfl | exact R.fieldAddrP rfl Try.underlying58 rfl rfl sz5 rfl)) rfl rfl rfl ?_
  refine KL.op (R.load rfl Try.underlying5 rfl rfl (by first | exact cell_of bx rfl | exact cell_of bw rfl | assumption)) rfl rfl rfl ?_
  refine KL.op ((R.geq rfl rfl rfl).val (congrArg Value.bool (decide_eq_true (by decide)))) rfl rfl rfl ?_
  refine KL.op (R.move rfl rfl) rfl rfl rfl ?_
  refine KL.op ((by first | exact R.fieldAddr rfl Try.underlying58 rfl rfl sz5 rfl | exact R.fieldAddrP rfl Try.underlying58 rfl rfl sz5 rfl)) rfl rfl rfl ?_
  refine KL.op (R.load rfl Try.underlying5 rfl rfl (by first | exact cell_of bx rfl | exact cell_of bw rfl | assumption)) rfl rfl rfl ?_
  refine KL.op ((R.leq rfl rfl rfl).val (congrArg Value.bool (decide_eq_false (by decide)))) rfl rfl rfl ?_
  refine KL.op (R.pick rfl rfl rfl) rfl rfl rfl ?_
  refine KL.nil ?_
  refine KQ.seq ?_
  refine KC.condF rfl ?_
  refine KC.skip ?_
  refine KQ.seq ?_
  refine KC.seq ?_
  refine KC.seq ?_
  refine KC.region ?_
  refine KL.op ((by first | exact R.fieldAddr rfl Try.underlying58 rfl rfl sz5 rfl | exact R.fieldAddrP rfl Try.underlying58 rfl rfl sz5 rfl)) rfl rfl rfl ?_
  refine KL.op (R.load rfl Try.underlying5 rfl rfl (by first | exact cell_of bx rfl | exact cell_of bw rfl | assumption)) rfl rfl rfl ?_
  refine KL.op (R.eql rfl rfl rfl) rfl rfl rfl ?_
  refine KL.nil ?_
  refine KQ.seq ?_
  refine KC.condIs false rfl (by decide) ?_
  refine KC.skip ?_
  refine KQ.seq ?_
  refine KC.seq ?_
  refine KC.seq ?_
  refine KC.region ?_
  refine KL.op ((by first | exact R.fieldAddr rfl Try.underlying58 rfl rfl sz5 rfl | exact R.fieldAddrP rfl Try.underlying58 rfl rfl sz5 rfl)) rfl rfl rfl ?_
  refine KL.op (R.load rfl Try.underlying5 rfl rfl (by first | exact cell_of bx rfl | exact cell_of bw rfl | assumption)) rfl rfl rfl ?_
  refine KL.op ((R.eql rfl rfl rfl).val (congrArg Value.bool (decide_eq_false (by decide)))) rfl rfl rfl ?_
  refine KL.op (R.move rfl rfl) rfl rfl rfl ?_
  refine KL.op ((by first | exact R.fieldAddr rfl Try.underlying58 rfl rfl sz5 rfl | exact R.fieldAddrP rfl Try.underlying58 rfl rfl sz5 rfl)) rfl rfl rfl ?_
  refine KL.op (R.load rfl Try.underlying5 rfl rfl (by first | exact cell_of bx rfl | exact cell_of bw rfl | assumption)) rfl rfl rfl ?_
  refine KL.op ((R.eql rfl rfl rfl).val (congrArg Value.bool (decide_eq_false (by decide)))) rfl rfl rfl ?_
  refine KL.op (R.pick rfl rfl rfl) rfl rfl rfl ?_
  refine KL.nil ?_
  refine KQ.seq ?_
  refine KC.condF rfl ?_
  refine KC.skip ?_
  refine KQ.seq ?_
  refine KC.seq ?_
  refine KC.seq ?_
  refine KC.region ?_
  refine KL.op ((by first | exact R.fieldAddr rfl Try.underlying58 rfl rfl sz5 rfl | exact R.fieldAddrP rfl Try.underlying58 rfl rfl sz5 rfl)) rfl rfl rfl ?_
  refine KL.op (R.load rfl Try.underlying5 rfl rfl (by first | exact cell_of bx rfl | exact cell_of bw rfl | assumption)) rfl rfl rfl ?_
  refine KL.op (R.geq rfl rfl rfl) rfl rfl rfl ?_
  refine KL.nil ?_
  refine KQ.seq ?_
  refine KC.condIs true rfl (by decide) ?_
  refine KC.region ?_
  refine KL.op (R.move rfl rfl) rfl rfl rfl ?_
  refine KL.op ((by first | exact R.fieldAddr rfl Try.underlying36 rfl rfl sz2 rfl | exact R.fieldAddrP rfl Try.underlying36 rfl rfl sz2 rfl)) rfl rfl rfl ?_
  refine KL.op (R.load rfl Try.underlying2 rfl rfl (by first | exact cell_of bx rfl | exact cell_of bw rfl | assumption)) rfl rfl rfl ?_
  refine KL.op (R.convW rfl Try.underlying2 Try.underlying62 rfl) rfl rfl rfl ?_
  refine KL.call rfl rfl rfl rfl Try.call24 rfl rfl rfl (FewS_k _ hx.2.2.2) ?_
  rintro va H6 ⟨wa, ox⟩
  have zc_H6 := (ox).1
  have o0 := o0.trans ox
  have bx := (ox).blk bx
  have bw := (ox).blk bw
  have wo := wo.old ox
  have hap := wa.sl (emptyOld _) (by omega)
  have hapl := apS hx.2.2.2
  have lt7 := wo.lt
  refine KL.opM (M.append rfl Try.underlying23 inf5 rfl (by decide) rfl rfl wo (by exact hap) (fun _ _ h _ => h) (by omega) (by simp only [List.length_append, List.length_cons, List.length_nil, List.length_take]; omega) (by unfold maxLen; simp only [List.length_append, List.length_cons, List.length_nil]; omega)) rfl rfl rfl ?_
  rintro vs H7 ⟨w7, g7⟩
  try dsimp only at g7
  have ob7 := g7.oldB wo (by omega)
  have o0 := o0.then ob7 (by omega)
  have z7 := ob7.1
  have bx := (g7.2 _ (blk_lt bx) (by first | exact .inr (by omega) | exact .inl rfl | exact lt7.imp id (fun h => by omega))).trans bx
  have bw := (g7.2 _ (blk_lt bw) (by first | exact .inr (by omega) | exact .inl rfl | exact lt7.imp id (fun h => by omega))).trans bw
  have wo := w7
  refine KL.op (R.assign rfl rfl) rfl rfl rfl ?_
  refine KL.nil ?_
  refine KQ.seq ?_
  refine KC.seq ?_
  refine KC.region ?_
  refine KL.op (R.move rfl rfl) rfl rfl rfl ?_
  refine KL.op (R.assign rfl rfl) rfl rfl rfl ?_
  refine KL.nil ?_
  refine KQ.seq ?_
  refine KC.ret ?_
  refine KQ.ofRet ?_
  refine KQ.fin1 Try.results13 rfl ?_
  have e : Isp.bytes x = x.op :: Isp.apN true x.c := by unfold Isp.bytes Isp.bodyE Isp.rest Isp.labsE; rw [hf]; simp
  rw [e]
  exact ⟨by simpa [List.append_assoc] using wo.weak (by omega), o0⟩

set_option maxRecDepth 100000 in
set_option maxHeartbeats 4000000 in
theorem RBytes9 {H : Heap} {x : Ins} {vl : Value} (hx : InsR x) (hll : x.l.length ≤ 100000000) (hs : Sl 1 (EInt .u32) H vl x.l) (hf : Opc.form x.op = 9) : Ct Try.prog 13 [insV x vl] H (fun u H' => Own 1 (EInt .u8) 5 #[] H.size H' u (Isp.bytes x) ∧ Old H H') := by
  refine Ct.mk Try.func13 rfl Try.ntmps13 rfl ?_
  intro W0 hW0
  have o0 : Old H H := Old.refl H
  have hs0 := hs
  have hxa := hx.2.1
  have hxb := hx.2.2.1
  dsimp only [InR] at hxa hxb
  unfold insV
  refine KC.seq ?_
  refine KC.region ?_
  refine KL.opM (M.box rfl rfl rfl) rfl rfl rfl ?_
  rintro _ H1 ⟨rfl, n1⟩
  have z1 := n1.2.1
  have o0 := o0.trans n1.1
  have hs := hs.old n1.1
  have b1 := n1.2.2
  have bx := b1
  refine KL.op (R.assign rfl rfl) rfl rfl rfl ?_
  refine KL.nil ?_
  refine KQ.seq ?_
  refine KC.seq ?_
  refine KC.region ?_
  refine KL.op ((by first | exact R.fieldAddr rfl Try.underlying36 rfl rfl sz5 rfl | exact R.fieldAddrP rfl Try.underlying36 rfl rfl sz5 rfl)) rfl rfl rfl ?_
  refine KL.op (R.load rfl Try.underlying5 rfl rfl (by first | exact cell_of bx rfl | assumption)) rfl rfl rfl ?_
  refine KL.call rfl rfl rfl rfl Try.call23 rfl rfl rfl (RFindK _ hx.1) ?_
  rintro _ H2 ⟨⟨a1, a2, a4, a5, rfl⟩, ox⟩
  have zc_H2 := (ox).1
  have o0 := o0.trans ox
  have hs := hs.old ox
  have bx := (ox).blk bx
  rw [hf]
  refine KL.op (R.move rfl rfl) rfl rfl rfl ?_
  refine KL.op (R.extract rfl rfl rfl) rfl rfl rfl ?_
  refine KL.op (R.extract rfl rfl rfl) rfl rfl rfl ?_
  refine KL.opM (M.alloc rfl zr58 rfl) rfl rfl rfl ?_
  rintro _ H3 ⟨rfl, n3⟩
  have z3 := n3.2.1
  have o0 := o0.trans n3.1
  have hs := hs.old n3.1
  have bx := (n3.1).blk bx
  have b3 := n3.2.2
  have bw := b3
  refine KL.opS (S.storeAgg rfl sz58 rfl rfl (rfl) (by intro u hu; simp only [List.mem_cons, List.not_mem_nil, or_false] at hu; rcases hu with rfl | rfl | rfl | rfl | rfl <;> rfl) bw (by simp)) rfl rfl ?_
  rintro H4 ⟨u4, b4⟩
  have o0 := o0.upd u4 (by omega)
  have zu4 := u4.1
  have bx := ((u4).2 _ (by omega)).trans bx
  have bw := b4
  rw [over_all (by rfl)] at bw
  refine KL.op (R.assign rfl rfl) rfl rfl rfl ?_
  refine KL.nil ?_
  refine KQ.seq ?_
  refine KC.seq ?_
  refine KC.region ?_
  refine KL.op ((by first | exact R.fieldAddr rfl Try.underlying36 rfl rfl sz5 rfl | exact R.fieldAddrP rfl Try.underlying36 rfl rfl sz5 rfl)) rfl rfl rfl ?_
  refine KL.op (R.load rfl Try.underlying5 rfl rfl (by first | exact cell_of bx rfl | exact cell_of bw rfl | assumption)) rfl rfl rfl ?_
  refine KL.opM (M.lit rfl Try.underlying23 zs5 (by decide) rfl rfl rfl) rfl rfl rfl ?_
  rintro _ H5 ⟨rfl, n5⟩
  have z5 := n5.2.1
  have o0 := o0.trans n5.1
  have bx := (n5.1).blk bx
  have bw := (n5.1).blk bw
  have b5 := n5.2.2
  have hvb : vblock (Value.slice (some ⟨Array.size H4, 0, none⟩) 1 1) = Array.size H4 := rfl
  have wo : Own 1 (EInt .u8) 5 #[] (Array.size H4) H5 _ [x.op] := Own.litI (l := [x.op]) (m := 1) n5 (by omega) rfl (by decide) (by intro y hy; simp only [List.mem_cons, List.not_mem_nil, or_false] at hy; subst hy; exact hx.1)
  refine KL.op (R.assign rfl rfl) rfl rfl rfl ?_
  refine KL.nil ?_
  refine KQ.seq ?_
  refine KC.seq ?_
  refine KC.seq ?_
  refine KC.region ?_
  refine KL.op ((by first | exact R.fieldAddr rfl Try.underlying58 rfl rfl sz5 rfl | exact R.fieldAddrP rfl Try.underlying58 rfl rfl sz5 rfl)) rfl rfl rfl ?_
  refine KL.op (R.load rfl Try.underlying5 rfl rfl (by first | exact cell_of bx rfl | exact cell_of bw rfl | assumption)) rfl rfl rfl ?_
  refine KL.op (R.eql rfl rfl rfl) rfl rfl rfl ?_
  refine KL.nil ?_
  refine KQ.seq ?_
  refine KC.condIs false rfl (by decide) ?_
  refine KC.skip ?_
  refine KQ.seq ?_
  refine KC.seq ?_
  refine KC.seq ?_
  refine KC.region ?_
  refine KL.op ((by first | exact R.fieldAddr rfl Try.underlying58 rfl rfl sz5 rfl | exact R.fieldAddrP rfl Try.underlying58 rfl rfl sz5 rfl)) rfl rfl rfl ?_
  refine KL.op (R.load rfl Try.underlying5 rfl rfl (by first | exact cell_of bx rfl | exact cell_of bw rfl | assumption)) rfl rfl rfl ?_
  refine KL.op (R.eql rfl rfl rfl) rfl rfl rfl ?_
  refine KL.nil ?_
  refine KQ.seq ?_
  refine KC.condIs false rfl (by decide) ?_
  refine KC.skip ?_
  refine KQ.seq ?_
  refine KC.seq ?_
  refine KC.seq ?_
  refine KC.region ?_
  refine KL.op ((by first | exact R.fieldAddr rfl Try.underlying58 rfl rfl sz5 rfl | exact R.fieldAddrP rfl Try.underlying58 rfl rfl sz5 rfl)) rfl rfl rfl ?_
  refine KL.op (R.load rfl Try.underlying5 rfl rfl (by first | exact cell_of bx rfl | exact cell_of bw rfl | assumption)) rfl rfl rfl ?_
  refine KL.op ((R.geq rfl rfl rfl).val (congrArg Value.bool (decide_eq_true (by decide)))) rfl rfl rfl ?_
  refine KL.op (R.move rfl rfl) rfl rfl rfl ?_
  refine KL.op ((by first | exact R.fieldAddr rfl Try.underlying58 rfl rfl sz5 rfl | exact R.fieldAddrP rfl Try.underlying58 rfl rfl sz5 rfl)) rfl rfl rfl ?_
  refine KL.op (R.load rfl Try.underlying5 rfl rfl (by first | exact cell_of bx rfl | exact cell_of bw rfl | assumption)) rfl rfl rfl ?_
  refine KL.op ((R.leq rfl rfl rfl).val (congrArg Value.bool (decide_eq_false (by decide)))) rfl rfl rfl ?_
  refine KL.op (R.pick rfl rfl rfl) rfl rfl rfl ?_
  refine KL.nil ?_
  refine KQ.seq ?_
  refine KC.condF rfl ?_
  refine KC.skip ?_
  refine KQ.seq ?_
  refine KC.seq ?_
  refine KC.seq ?_
  refine KC.region ?_
  refine KL.op ((by first | exact R.fieldAddr rfl Try.underlying58 rfl rfl sz5 rfl | exact R.fieldAddrP rfl Try.underlying58 rfl rfl sz5 rfl)) rfl rfl rfl ?_
  refine KL.op (R.load rfl Try.underlying5 rfl rfl (by first | exact cell_of bx rfl | exact cell_of bw rfl | assumption)) rfl rfl rfl ?_
  refine KL.op (R.eql rfl rfl rfl) rfl rfl rfl ?_
  refine KL.nil ?_
  refine KQ.seq ?_
  refine KC.condIs false rfl (by decide) ?_
  refine KC.skip ?_
  refine KQ.seq ?_
  refine KC.seq ?_
  refine KC.seq ?_
  refine KC.region ?_
  refine KL.op ((by first | exact R.fieldAddr rfl Try.underlying58 rfl rfl sz5 rfl | exact R.fieldAddrP rfl Try.underlying58 rfl rfl sz5 rfl)) rfl rfl rfl ?_
  refine KL.op (R.load rfl Try.underlying5 rfl rfl (by first | exact cell_of bx rfl | exact cell_of bw rfl | assumption)) rfl rfl rfl ?_
  refine KL.op ((R.eql rfl rfl rfl).val (congrArg Value.bool (decide_eq_false (by decide)))) rfl rfl rfl ?_
  refine KL.op (R.move rfl rfl) rfl rfl rfl ?_
  refine KL.op ((by first | exact R.fieldAddr rfl Try.underlying58 rfl rfl sz5 rfl | exact R.fieldAddrP rfl Try.underlying58 rfl rfl sz5 rfl)) rfl rfl rfl ?_
  refine KL.op (R.load rfl Try.underlying5 rfl rfl (by first | exact cell_of bx rfl | exact cell_of bw rfl | assumption)) rfl rfl rfl ?_
  refine KL.op ((R.eql rfl rfl rfl).val (congrArg Value.bool (decide_eq_false (by decide)))) rfl rfl rfl ?_
  refine KL.op (R.pick rfl rfl rfl) rfl rfl rfl ?_
  refine KL.nil ?_
  refine KQ.seq ?_
  refine KC.condF rfl ?_
  refine KC.skip ?_
  refine KQ.seq ?_
  refine KC.seq ?_
  refine KC.seq ?_
  refine KC.region ?_
  refine KL.op ((by first | exact R.fieldAddr rfl Try.underlying58 rfl rfl sz5 rfl | exact R.fieldAddrP rfl Try.underlying58 rfl rfl sz5 rfl)) rfl rfl rfl ?_
  refine KL.op (R.load rfl Try.underlying5 rfl rfl (by first | exact cell_of bx rfl | exact cell_of bw rfl | assumption)) rfl rfl rfl ?_
  refine KL.op (R.geq rfl rfl rfl) rfl rfl rfl ?_
  refine KL.nil ?_
  refine KQ.seq ?_
  refine KC.condIs true rfl (by decide) ?_
  refine KC.region ?_
  refine KL.op (R.move rfl rfl) rfl rfl rfl ?_
  refine KL.op ((by first | exact R.fieldAddr rfl Try.underlying36 rfl rfl sz2 rfl | exact R.fieldAddrP rfl Try.underlying36 rfl rfl sz2 rfl)) rfl rfl rfl ?_
  refine KL.op (R.load rfl Try.underlying2 rfl rfl (by first | exact cell_of bx rfl | exact cell_of bw rfl | assumption)) rfl rfl rfl ?_
  refine KL.op (R.convW rfl Try.underlying2 Try.underlying62 rfl) rfl rfl rfl ?_
  refine KL.call rfl rfl rfl rfl Try.call24 rfl rfl rfl (FewS_k _ hx.2.2.2) ?_
  rintro va H6 ⟨wa, ox⟩
  have zc_H6 := (ox).1
  have o0 := o0.trans ox
  have bx := (ox).blk bx
  have bw := (ox).blk bw
  have wo := wo.old ox
  have hap := wa.sl (emptyOld _) (by omega)
  have hapl := apS hx.2.2.2
  have lt7 := wo.lt
  refine KL.opM (M.append rfl Try.underlying23 inf5 rfl (by decide) rfl rfl wo (by exact hap) (fun _ _ h _ => h) (by omega) (by simp only [List.length_append, List.length_cons, List.length_nil, List.length_take]; omega) (by unfold maxLen; simp only [List.length_append, List.length_cons, List.length_nil]; omega)) rfl rfl rfl ?_
  rintro vs H7 ⟨w7, g7⟩
  try dsimp only at g7
  have ob7 := g7.oldB wo (by omega)
  have o0 := o0.then ob7 (by omega)
  have z7 := ob7.1
  have bx := (g7.2 _ (blk_lt bx) (by first | exact .inr (by omega) | exact .inl rfl | exact lt7.imp id (fun h => by omega))).trans bx
  have bw := (g7.2 _ (blk_lt bw) (by first | exact .inr (by omega) | exact .inl rfl | exact lt7.imp id (fun h => by omega))).trans bw
  have wo := w7
  refine KL.op (R.assign rfl rfl) rfl rfl rfl ?_
  refine KL.nil ?_
  refine KQ.seq ?_
  refine KC.seq ?_
  refine KC.region ?_
  refine KL.op (R.move rfl rfl) rfl rfl rfl ?_
  refine KL.op (R.assign rfl rfl) rfl rfl rfl ?_
  refine KL.nil ?_
  refine KQ.seq ?_
  refine KC.ret ?_
  refine KQ.ofRet ?_
  refine KQ.fin1 Try.results13 rfl ?_
  have e : Isp.bytes x = x.op :: Isp.apN true x.c := by unfold Isp.bytes Isp.bodyE Isp.rest Isp.labsE; rw [hf]; simp
  rw [e]
  exact ⟨by simpa [List.append_assoc] using wo.weak (by omega), o0⟩

theorem RBytes_any {H : Heap} {x : Ins} {vl : Value} (hx : InsR x) (hll : x.l.length ≤ 100000000) (hs : Sl 1 (EInt .u32) H vl x.l) (hM : Isp.May x) : Ct Try.prog 13 [insV x vl] H (fun u H' => Own 1 (EInt .u8) 5 #[] H.size H' u (Isp.bytes x) ∧ Old H H') := by
  have hfr := Isp.form_range hx.1
  have hc : Opc.form x.op = 0 ∨ Opc.form x.op = 1 ∨ Opc.form x.op = 2 ∨ Opc.form x.op = 3 ∨ Opc.form x.op = 4 ∨ Opc.form x.op = 5 ∨ Opc.form x.op = 6 ∨ Opc.form x.op = 7 ∨ Opc.form x.op = 8 ∨ Opc.form x.op = 9 := by omega
  rcases hc with h | h | h | h | h | h | h | h | h | h
  · exact RBytes0 hx hll hs h
  · exact RBytes1 hx hll hs h (by have := ((Isp.may_iff hx (by omega) (fun y hy => hs.rng y hy)).1 hM).2.1; omega)
  · exact RBytes2 hx hll hs h
  · exact RBytes3 hx hll hs h
  · exact RBytes4 hx hll hs h
  · exact RBytes5 hx hll hs h
  · exact RBytes6 hx hll hs h
  · exact RBytes7 hx hll hs h
  · exact RBytes8 hx hll hs h
  · exact RBytes9 hx hll hs h
end Go.Proofs.Ytnjodpgahbpiaaa
