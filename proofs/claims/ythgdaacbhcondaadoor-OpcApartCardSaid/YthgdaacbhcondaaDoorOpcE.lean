/- The statements of package gabellelaw03, walked. No condition but the table of blanks. -/
import Derived.Test.YthgdaacbhcondaaDoorOpcD
import Derived.Test.YthgdaacbhcondaaDoorKAny
import Derived.Test.YthgdaacbhcondaaDoorKRow
namespace Go.Proofs.YthgdaacbhcondaaDoor
open Go Go.RowKit
set_option linter.unusedVariables false
set_option linter.unusedSimpArgs false
set_option linter.unnecessarySimpa false
namespace Opc
def nm (op : Int) : List Int := names.getD op.toNat default
theorem all_ops {p : Int → Prop} (h : ∀ i : Fin 256, p (i.1 : Int)) {op : Int} (r : InR .u8 op) : p op := by
  dsimp only [InR] at r
  have := h ⟨op.toNat, by omega⟩
  simpa only [Int.toNat_of_nonneg r.1] using this
set_option maxRecDepth 100000 in
theorem table {op : Int} (r : InR .u8 op) : known op = (rfind op).isSome ∧ float op = rfloat op ∧ form op = ((rfind op).getD Row.zero).form ∧ width op = ((rfind op).getD Row.zero).width ∧ nm op = ((rfind op).getD Row.zero).name ∧ sig op = rsig op :=
  all_ops (p := fun op => known op = (rfind op).isSome ∧ float op = rfloat op ∧ form op = ((rfind op).getD Row.zero).form ∧ width op = ((rfind op).getD Row.zero).width ∧ nm op = ((rfind op).getD Row.zero).name ∧ sig op = rsig op) (by decide +kernel) r
set_option maxRecDepth 100000 in
theorem rows_idx : ∀ r ∈ rows, idx r.name = some r.op.toNat ∧ 0 ≤ r.op := by decide +kernel
set_option maxRecDepth 100000 in
theorem names_rows : ∀ l ∈ names, l = [] ∨ ∃ r ∈ rows, r.name = l := by decide +kernel
theorem find_named (n : List Int) : find n = .tuple #[.int .u8 ((named n).getD Row.zero).op, .bool (named n).isSome] := by
  cases hn : named n with
  | some r =>
    have h1 := List.mem_of_find?_eq_some hn
    have h2 : r.name = n := by simpa using List.find?_some hn
    have h3 := rows_idx r h1
    rw [h2] at h3
    rw [find, h3.1]
    simp only [Option.getD_some, Option.isSome_some, Int.toNat_of_nonneg h3.2]
  | none =>
    have h1 : ∀ r ∈ rows, r.name ≠ n := by
      intro r hr
      have := List.find?_eq_none.1 hn r hr
      simpa using this
    have h2 : idx n = none := by
      refine idx_none fun j hj => ?_
      rintro ⟨e, h0⟩
      rcases names_rows _ (names_get hj) with h | ⟨r, hr, h⟩
      · exact h0 (by rw [← e, h])
      · exact h1 r hr (by rw [h, e])
    rw [find, h2]; rfl
set_option maxRecDepth 100000 in
theorem apart {op : Int} (r : InR .u8 op) : (known op = true → float op = false) ∧ known op = (!decide (nm op = [])) ∧ (known op = true → idx (nm op) = some op.toNat) ∧ (sig op).1.length ≤ 2 ∧ (sig op).2.1.length ≤ 1 ∧ (∀ t ∈ (sig op).1 ++ (sig op).2.1, t = 127 ∨ t = 126) ∧ ((sig op).2.2 = false → (sig op).1 = [] ∧ (sig op).2.1 = []) ∧ ((sig op).2.2 = true → known op = true) ∧
    (decide (form op = 6) = decide (0 < width op)) ∧ ((sig op).2.2 = true → decide ((sig op).2.1.length = 0) = (decide (form op = 6) && decide ((sig op).1.length = 2))) :=
  all_ops (p := fun op => (known op = true → float op = false) ∧ known op = (!decide (nm op = [])) ∧ (known op = true → idx (nm op) = some op.toNat) ∧ (sig op).1.length ≤ 2 ∧ (sig op).2.1.length ≤ 1 ∧ (∀ t ∈ (sig op).1 ++ (sig op).2.1, t = 127 ∨ t = 126) ∧ ((sig op).2.2 = false → (sig op).1 = [] ∧ (sig op).2.1 = []) ∧ ((sig op).2.2 = true → known op = true) ∧
    (decide (form op = 6) = decide (0 < width op)) ∧ ((sig op).2.2 = true → decide ((sig op).2.1.length = 0) = (decide (form op = 6) && decide ((sig op).1.length = 2)))) (by decide +kernel) r
theorem nm_apart {op other : Int} (r : InR .u8 op) (s : InR .u8 other) (hne : op ≠ other) (h0 : nm op ≠ []) : nm op ≠ nm other := by
  intro e
  have a := apart r
  have b := apart s
  have k1 : known op = true := by rw [a.2.1]; simp [h0]
  have k2 : known other = true := by rw [b.2.1]; simp [← e, h0]
  have e1 := a.2.2.1 k1
  have e2 := b.2.2.1 k2
  rw [e, e2] at e1
  dsimp only [InR] at r s
  injection e1 with e1
  omega
end Opc
set_option maxRecDepth 100000 in
set_option maxHeartbeats 4000000 in
theorem OpcTable_any {H : Heap} (op : Int) (ra : InR .u8 op) (hT : TabA H) : Ct Tryd.prog 3 [.int .u8 op] H (fun u H' => u = .bool true ∧ Old H H') := by
  refine Ct.mk Tryd.func3 rfl Tryd.ntmps3 rfl ?_
  intro W0 hW0
  have o0 : Old H H := Old.refl H
  have ht := Opc.table ra
  have hrg := Opc.rfind_range op
  refine KC.seq ?_
  refine KC.region ?_
  refine KL.op (R.assign rfl rfl) rfl rfl rfl ?_
  refine KL.nil ?_
  refine KQ.seq ?_
  refine KC.seq ?_
  refine KC.seq ?_
  refine KC.region ?_
  refine KL.call rfl rfl rfl rfl Tryd.call6 rfl rfl rfl (known_any hT) ?_
  rintro _ H1 ⟨rfl, ox⟩
  have zc_H1 := (ox).1
  have o0 := o0.trans ox
  refine KL.op (R.not rfl rfl) rfl rfl rfl ?_
  refine KL.nil ?_
  refine KQ.seq ?_
  refine KC.condF rfl ?_
  refine KC.skip ?_
  refine KQ.seq ?_
  refine KC.seq ?_
  refine KC.region ?_
  refine KL.op (R.move rfl rfl) rfl rfl rfl ?_
  refine KL.call rfl rfl rfl rfl Tryd.call7 rfl rfl rfl (RFind_any _) ?_
  rintro _ H2 ⟨rfl, ox⟩
  have zc_H2 := (ox).1
  have o0 := o0.trans ox
  refine KL.op (R.move rfl rfl) rfl rfl rfl ?_
  refine KL.op (R.extract rfl rfl rfl) rfl rfl rfl ?_
  refine KL.op (R.extract rfl rfl rfl) rfl rfl rfl ?_
  refine KL.opM (M.alloc rfl zr24 rfl) rfl rfl rfl ?_
  rintro _ H3 ⟨rfl, n3⟩
  have z3 := n3.2.1
  have o0 := o0.trans n3.1
  have b3 := n3.2.2
  have b3 := b3
  refine KL.opS (S.storeAgg (us := (((Opc.rfind op).getD Opc.Row.zero)).cells) rfl sz24 rfl rfl (rfl) (by intro u hu; simp only [Opc.Row.cells, List.mem_cons, List.not_mem_nil, or_false] at hu; rcases hu with rfl | rfl | rfl | rfl | rfl <;> rfl) b3 (by simp [Opc.Row.cells])) rfl rfl ?_
  rintro H4 ⟨u4, b4⟩
  have o0 := o0.upd u4 (by omega)
  have zu4 := u4.1
  have b3 := b4
  rw [over_all (by simp [Opc.Row.cells])] at b3
  refine KL.op (R.assign rfl rfl) rfl rfl rfl ?_
  refine KL.nil ?_
  refine KQ.seq ?_
  refine KC.seq ?_
  refine KC.region ?_
  refine KL.op (R.move rfl rfl) rfl rfl rfl ?_
  refine KL.call rfl rfl rfl rfl Tryd.call8 rfl rfl rfl (Sig_k op (p := (Opc.sig op).1) (r := (Opc.sig op).2.1) (ok := (Opc.sig op).2.2) rfl) ?_
  rintro _ H5 ⟨ox, va, vb, rfl, sa, sb⟩
  have zc_H5 := (ox).1
  have o0 := o0.trans ox
  have b3 := (ox).blk b3
  refine KL.op (R.move rfl rfl) rfl rfl rfl ?_
  refine KL.op (R.extract rfl rfl rfl) rfl rfl rfl ?_
  refine KL.op (R.extract rfl rfl rfl) rfl rfl rfl ?_
  refine KL.op (R.extract rfl rfl rfl) rfl rfl rfl ?_
  refine KL.op (R.assign rfl rfl) rfl rfl rfl ?_
  refine KL.op (R.assign rfl rfl) rfl rfl rfl ?_
  refine KL.op (R.assign rfl rfl) rfl rfl rfl ?_
  refine KL.nil ?_
  refine KQ.seq ?_
  refine KC.seq ?_
  refine KC.region ?_
  refine KL.op (R.move rfl rfl) rfl rfl rfl ?_
  refine KL.call rfl rfl rfl rfl Tryd.call9 rfl rfl rfl (RSig_any op) ?_
  rintro _ H6 ⟨ox, vx, vy, rfl, sx, sy⟩
  have zc_H6 := (ox).1
  have o0 := o0.trans ox
  have b3 := (ox).blk b3
  have sa := sa.old ox
  have sb := sb.old ox
  rw [← ht.2.2.2.2.2] at sx sy
  refine KL.op (R.move rfl rfl) rfl rfl rfl ?_
  refine KL.op (R.extract rfl rfl rfl) rfl rfl rfl ?_
  refine KL.op (R.extract rfl rfl rfl) rfl rfl rfl ?_
  refine KL.op (R.extract rfl rfl rfl) rfl rfl rfl ?_
  refine KL.op (R.assign rfl rfl) rfl rfl rfl ?_
  refine KL.op (R.assign rfl rfl) rfl rfl rfl ?_
  refine KL.op (R.assign rfl rfl) rfl rfl rfl ?_
  refine KL.nil ?_
  refine KQ.seq ?_
  refine KC.seq ?_
  have os : Old H6 H6 := Old.refl _
  have ob := o0
  have b3S := b3
  have saS := sa
  have sbS := sb
  have sxS := sx
  have syS := sy
  refine KC.text (clOf [(1, 2), (6, 2), (8, 2), (13, 2), (20, 2), (27, 2)]) (fun _ Hc => Old H6 Hc) (by kernel_rfl) (by kernel_rfl) (fun _ => Old.refl _) ?_
  refine KP.op rfl (fun Hg og => by have b3 := og.blk b3S; have sa := saS.old og; have sb := sbS.old og; have sx := sxS.old og; have sy := syS.old og; have o0 := ob.trans og; exact R.move rfl rfl) rfl rfl rfl ?_
  refine KP.call rfl rfl rfl rfl rfl Tryd.call10 rfl rfl rfl (Known_k _) (fun _ _ h _ _ _ => h.2 ▸ os) ?_
  rintro _ _ ⟨rfl, rfl⟩
  refine KP.op rfl (fun Hg og => by have b3 := og.blk b3S; have sa := saS.old og; have sb := sbS.old og; have sx := sxS.old og; have sy := syS.old og; have o0 := ob.trans og; exact R.move rfl rfl) rfl rfl rfl ?_
  refine KP.op rfl (fun Hg og => by have b3 := og.blk b3S; have sa := saS.old og; have sb := sbS.old og; have sx := sxS.old og; have sy := syS.old og; have o0 := ob.trans og; exact (R.eqlB rfl Tryd.underlying4 rfl rfl).val (congrArg Value.bool (show _ = true from by simp only [ht.1, beq_self_eq_true]))) rfl rfl rfl ?_
  refine KP.op rfl (fun Hg og => by have b3 := og.blk b3S; have sa := saS.old og; have sb := sbS.old og; have sx := sxS.old og; have sy := syS.old og; have o0 := ob.trans og; exact R.move rfl rfl) rfl rfl rfl ?_
  refine KP.op rfl (fun Hg og => by have b3 := og.blk b3S; have sa := saS.old og; have sb := sbS.old og; have sx := sxS.old og; have sy := syS.old og; have o0 := ob.trans og; exact R.move rfl rfl) rfl rfl rfl ?_
  refine KP.call rfl rfl rfl rfl rfl Tryd.call11 rfl rfl rfl (Float_k _) (fun _ _ h _ _ _ => h.2 ▸ os) ?_
  rintro _ _ ⟨rfl, rfl⟩
  refine KP.op rfl (fun Hg og => by have b3 := og.blk b3S; have sa := saS.old og; have sb := sbS.old og; have sx := sxS.old og; have sy := syS.old og; have o0 := ob.trans og; exact R.move rfl rfl) rfl rfl rfl ?_
  refine KP.call rfl rfl rfl rfl rfl Tryd.call12 rfl rfl rfl (RFloat_any _) (fun _ _ h _ _ _ => os.trans h.2) ?_
  rintro _ H7 ⟨rfl, ox⟩
  have zc_H7 := (ox).1
  have o0 := o0.trans ox
  have os := os.trans ox
  have b3 := (ox).blk b3
  have sa := sa.old ox
  have sb := sb.old ox
  have sx := sx.old ox
  have sy := sy.old ox
  refine KP.op rfl (fun Hg og => by have b3 := og.blk b3S; have sa := saS.old og; have sb := sbS.old og; have sx := sxS.old og; have sy := syS.old og; have o0 := ob.trans og; exact (R.eqlB rfl Tryd.underlying4 rfl rfl).val (congrArg Value.bool (show _ = true from by simp only [ht.2.1, beq_self_eq_true]))) rfl rfl rfl ?_
  refine KP.op rfl (fun Hg og => by have b3 := og.blk b3S; have sa := saS.old og; have sb := sbS.old og; have sx := sxS.old og; have sy := syS.old og; have o0 := ob.trans og; exact R.pick rfl rfl rfl) rfl rfl rfl ?_
  refine KP.op rfl (fun Hg og => by have b3 := og.blk b3S; have sa := saS.old og; have sb := sbS.old og; have sx := sxS.old og; have sy := syS.old og; have o0 := ob.trans og; exact R.move rfl rfl) rfl rfl rfl ?_
  refine KP.op rfl (fun Hg og => by have b3 := og.blk b3S; have sa := saS.old og; have sb := sbS.old og; have sx := sxS.old og; have sy := syS.old og; have o0 := ob.trans og; exact R.move rfl rfl) rfl rfl rfl ?_
  refine KP.call rfl rfl rfl rfl rfl Tryd.call13 rfl rfl rfl (Form_k _) (fun _ _ h _ _ _ => h.2 ▸ os) ?_
  rintro _ _ ⟨rfl, rfl⟩
  refine KP.op rfl (fun Hg og => by have b3 := og.blk b3S; have sa := saS.old og; have sb := sbS.old og; have sx := sxS.old og; have sy := syS.old og; have o0 := ob.trans og; exact (by first | exact R.fieldAddr rfl Tryd.underlying24 rfl rfl sz5 rfl | exact R.fieldAddrP rfl Tryd.underlying24 rfl rfl sz5 rfl)) rfl rfl rfl ?_
  refine KP.op rfl (fun Hg og => by have b3 := og.blk b3S; have sa := saS.old og; have sb := sbS.old og; have sx := sxS.old og; have sy := syS.old og; have o0 := ob.trans og; exact R.load rfl Tryd.underlying5 rfl rfl (cell_of b3 rfl)) rfl rfl rfl ?_
  refine KP.op rfl (fun Hg og => by have b3 := og.blk b3S; have sa := saS.old og; have sb := sbS.old og; have sx := sxS.old og; have sy := syS.old og; have o0 := ob.trans og; exact (R.eql rfl rfl rfl).val (congrArg Value.bool (decide_eq_true (by exact ht.2.2.1)))) rfl rfl rfl ?_
  refine KP.op rfl (fun Hg og => by have b3 := og.blk b3S; have sa := saS.old og; have sb := sbS.old og; have sx := sxS.old og; have sy := syS.old og; have o0 := ob.trans og; exact R.pick rfl rfl rfl) rfl rfl rfl ?_
  refine KP.op rfl (fun Hg og => by have b3 := og.blk b3S; have sa := saS.old og; have sb := sbS.old og; have sx := sxS.old og; have sy := syS.old og; have o0 := ob.trans og; exact R.move rfl rfl) rfl rfl rfl ?_
  refine KP.op rfl (fun Hg og => by have b3 := og.blk b3S; have sa := saS.old og; have sb := sbS.old og; have sx := sxS.old og; have sy := syS.old og; have o0 := ob.trans og; exact R.move rfl rfl) rfl rfl rfl ?_
  refine KP.call rfl rfl rfl rfl rfl Tryd.call14 rfl rfl rfl (Width_any _) (fun _ _ h _ _ _ => h.2 ▸ os) ?_
  rintro _ _ ⟨rfl, rfl⟩
  refine KP.op rfl (fun Hg og => by have b3 := og.blk b3S; have sa := saS.old og; have sb := sbS.old og; have sx := sxS.old og; have sy := syS.old og; have o0 := ob.trans og; exact (by first | exact R.fieldAddr rfl Tryd.underlying24 rfl rfl sz3 rfl | exact R.fieldAddrP rfl Tryd.underlying24 rfl rfl sz3 rfl)) rfl rfl rfl ?_
  refine KP.op rfl (fun Hg og => by have b3 := og.blk b3S; have sa := saS.old og; have sb := sbS.old og; have sx := sxS.old og; have sy := syS.old og; have o0 := ob.trans og; exact R.load rfl Tryd.underlying3 rfl rfl (cell_of b3 rfl)) rfl rfl rfl ?_
  refine KP.op rfl (fun Hg og => by have b3 := og.blk b3S; have sa := saS.old og; have sb := sbS.old og; have sx := sxS.old og; have sy := syS.old og; have o0 := ob.trans og; exact (R.eql rfl rfl rfl).val (congrArg Value.bool (decide_eq_true (by exact ht.2.2.2.1)))) rfl rfl rfl ?_
  refine KP.op rfl (fun Hg og => by have b3 := og.blk b3S; have sa := saS.old og; have sb := sbS.old og; have sx := sxS.old og; have sy := syS.old og; have o0 := ob.trans og; exact R.pick rfl rfl rfl) rfl rfl rfl ?_
  refine KP.op rfl (fun Hg og => by have b3 := og.blk b3S; have sa := saS.old og; have sb := sbS.old og; have sx := sxS.old og; have sy := syS.old og; have o0 := ob.trans og; exact R.move rfl rfl) rfl rfl rfl ?_
  refine KP.op rfl (fun Hg og => by have b3 := og.blk b3S; have sa := saS.old og; have sb := sbS.old og; have sx := sxS.old og; have sy := syS.old og; have o0 := ob.trans og; exact R.move rfl rfl) rfl rfl rfl ?_
  refine KP.call rfl rfl rfl rfl rfl Tryd.call15 rfl rfl rfl (Name_any _ ra (hT.old o0)) (fun _ _ h _ _ _ => os.trans h.2) ?_
  rintro _ H8 ⟨rfl, ox⟩
  have zc_H8 := (ox).1
  have o0 := o0.trans ox
  have os := os.trans ox
  have b3 := (ox).blk b3
  have sa := sa.old ox
  have sb := sb.old ox
  have sx := sx.old ox
  have sy := sy.old ox
  refine KP.op rfl (fun Hg og => by have b3 := og.blk b3S; have sa := saS.old og; have sb := sbS.old og; have sx := sxS.old og; have sy := syS.old og; have o0 := ob.trans og; exact (by first | exact R.fieldAddr rfl Tryd.underlying24 rfl rfl sz9 rfl | exact R.fieldAddrP rfl Tryd.underlying24 rfl rfl sz9 rfl)) rfl rfl rfl ?_
  refine KP.op rfl (fun Hg og => by have b3 := og.blk b3S; have sa := saS.old og; have sb := sbS.old og; have sx := sxS.old og; have sy := syS.old og; have o0 := ob.trans og; exact R.load rfl Tryd.underlying9 rfl rfl (cell_of b3 rfl)) rfl rfl rfl ?_
  refine KP.op rfl (fun Hg og => by have b3 := og.blk b3S; have sa := saS.old og; have sb := sbS.old og; have sx := sxS.old og; have sy := syS.old og; have o0 := ob.trans og; exact (R.eqlStr rfl rfl rfl).val (congrArg Value.bool ((sv_eq (Opc.names_range _ (names_get (by dsimp only [InR] at ra; omega))) hrg.1).trans (decide_eq_true ht.2.2.2.2.1)))) rfl rfl rfl ?_
  refine KP.op rfl (fun Hg og => by have b3 := og.blk b3S; have sa := saS.old og; have sb := sbS.old og; have sx := sxS.old og; have sy := syS.old og; have o0 := ob.trans og; exact R.pick rfl rfl rfl) rfl rfl rfl ?_
  refine KP.op rfl (fun Hg og => by have b3 := og.blk b3S; have sa := saS.old og; have sb := sbS.old og; have sx := sxS.old og; have sy := syS.old og; have o0 := ob.trans og; exact R.move rfl rfl) rfl rfl rfl ?_
  refine KP.op rfl (fun Hg og => by have b3 := og.blk b3S; have sa := saS.old og; have sb := sbS.old og; have sx := sxS.old og; have sy := syS.old og; have o0 := ob.trans og; exact R.move rfl rfl) rfl rfl rfl ?_
  refine KP.op rfl (fun Hg og => by have b3 := og.blk b3S; have sa := saS.old og; have sb := sbS.old og; have sx := sxS.old og; have sy := syS.old og; have o0 := ob.trans og; exact R.convBS rfl Tryd.underlying27 Tryd.underlying5 Tryd.underlying9 rfl sa) rfl rfl rfl ?_
  refine KP.op rfl (fun Hg og => by have b3 := og.blk b3S; have sa := saS.old og; have sb := sbS.old og; have sx := sxS.old og; have sy := syS.old og; have o0 := ob.trans og; exact R.move rfl rfl) rfl rfl rfl ?_
  refine KP.op rfl (fun Hg og => by have b3 := og.blk b3S; have sa := saS.old og; have sb := sbS.old og; have sx := sxS.old og; have sy := syS.old og; have o0 := ob.trans og; exact R.convBS rfl Tryd.underlying27 Tryd.underlying5 Tryd.underlying9 rfl sx) rfl rfl rfl ?_
  refine KP.op rfl (fun Hg og => by have b3 := og.blk b3S; have sa := saS.old og; have sb := sbS.old og; have sx := sxS.old og; have sy := syS.old og; have o0 := ob.trans og; exact (R.eqlStr rfl rfl rfl).val (congrArg Value.bool (beq_self_eq_true _))) rfl rfl rfl ?_
  refine KP.op rfl (fun Hg og => by have b3 := og.blk b3S; have sa := saS.old og; have sb := sbS.old og; have sx := sxS.old og; have sy := syS.old og; have o0 := ob.trans og; exact R.pick rfl rfl rfl) rfl rfl rfl ?_
  refine KP.op rfl (fun Hg og => by have b3 := og.blk b3S; have sa := saS.old og; have sb := sbS.old og; have sx := sxS.old og; have sy := syS.old og; have o0 := ob.trans og; exact R.move rfl rfl) rfl rfl rfl ?_
  refine KP.op rfl (fun Hg og => by have b3 := og.blk b3S; have sa := saS.old og; have sb := sbS.old og; have sx := sxS.old og; have sy := syS.old og; have o0 := ob.trans og; exact R.move rfl rfl) rfl rfl rfl ?_
  refine KP.op rfl (fun Hg og => by have b3 := og.blk b3S; have sa := saS.old og; have sb := sbS.old og; have sx := sxS.old og; have sy := syS.old og; have o0 := ob.trans og; exact R.convBS rfl Tryd.underlying27 Tryd.underlying5 Tryd.underlying9 rfl sb) rfl rfl rfl ?_
  refine KP.op rfl (fun Hg og => by have b3 := og.blk b3S; have sa := saS.old og; have sb := sbS.old og; have sx := sxS.old og; have sy := syS.old og; have o0 := ob.trans og; exact R.move rfl rfl) rfl rfl rfl ?_
  refine KP.op rfl (fun Hg og => by have b3 := og.blk b3S; have sa := saS.old og; have sb := sbS.old og; have sx := sxS.old og; have sy := syS.old og; have o0 := ob.trans og; exact R.convBS rfl Tryd.underlying27 Tryd.underlying5 Tryd.underlying9 rfl sy) rfl rfl rfl ?_
  refine KP.op rfl (fun Hg og => by have b3 := og.blk b3S; have sa := saS.old og; have sb := sbS.old og; have sx := sxS.old og; have sy := syS.old og; have o0 := ob.trans og; exact (R.eqlStr rfl rfl rfl).val (congrArg Value.bool (beq_self_eq_true _))) rfl rfl rfl ?_
  refine KP.op rfl (fun Hg og => by have b3 := og.blk b3S; have sa := saS.old og; have sb := sbS.old og; have sx := sxS.old og; have sy := syS.old og; have o0 := ob.trans og; exact R.pick rfl rfl rfl) rfl rfl rfl ?_
  refine KP.op rfl (fun Hg og => by have b3 := og.blk b3S; have sa := saS.old og; have sb := sbS.old og; have sx := sxS.old og; have sy := syS.old og; have o0 := ob.trans og; exact R.move rfl rfl) rfl rfl rfl ?_
  refine KP.op rfl (fun Hg og => by have b3 := og.blk b3S; have sa := saS.old og; have sb := sbS.old og; have sx := sxS.old og; have sy := syS.old og; have o0 := ob.trans og; exact R.move rfl rfl) rfl rfl rfl ?_
  refine KP.op rfl (fun Hg og => by have b3 := og.blk b3S; have sa := saS.old og; have sb := sbS.old og; have sx := sxS.old og; have sy := syS.old og; have o0 := ob.trans og; exact R.move rfl rfl) rfl rfl rfl ?_
  refine KP.op rfl (fun Hg og => by have b3 := og.blk b3S; have sa := saS.old og; have sb := sbS.old og; have sx := sxS.old og; have sy := syS.old og; have o0 := ob.trans og; exact (R.eqlB rfl Tryd.underlying4 rfl rfl).val (congrArg Value.bool (show _ = true from by simp only [ht.2.2.2.2.2, beq_self_eq_true]))) rfl rfl rfl ?_
  refine KP.op rfl (fun Hg og => by have b3 := og.blk b3S; have sa := saS.old og; have sb := sbS.old og; have sx := sxS.old og; have sy := syS.old og; have o0 := ob.trans og; exact R.pick rfl rfl rfl) rfl rfl rfl ?_
  refine KP.op rfl (fun Hg og => by have b3 := og.blk b3S; have sa := saS.old og; have sb := sbS.old og; have sx := sxS.old og; have sy := syS.old og; have o0 := ob.trans og; exact R.assign rfl rfl) rfl rfl rfl ?_
  refine KP.nil ?_
  refine KQ.seq ?_
  refine KC.ret ?_
  refine KQ.ofRet ?_
  refine KQ.fin1 Tryd.results3 rfl ?_
  exact ⟨rfl, o0⟩

set_option maxRecDepth 100000 in
set_option maxHeartbeats 4000000 in
theorem OpcFinds_any {H : Heap} (s : ByteArray) (hT : TabA H) : Ct Tryd.prog 4 [.string s] H (fun u H' => u = .bool true ∧ Old H H') := by
  refine Ct.mk Tryd.func4 rfl Tryd.ntmps4 rfl ?_
  intro W0 hW0
  have o0 : Old H H := Old.refl H
  refine KC.seq ?_
  refine KC.region ?_
  refine KL.op (R.assign rfl rfl) rfl rfl rfl ?_
  refine KL.nil ?_
  refine KQ.seq ?_
  refine KC.seq ?_
  refine KC.seq ?_
  refine KC.region ?_
  refine KL.call rfl rfl rfl rfl Tryd.call6 rfl rfl rfl (known_any hT) ?_
  rintro _ H1 ⟨rfl, ox⟩
  have zc_H1 := (ox).1
  have o0 := o0.trans ox
  refine KL.op (R.not rfl rfl) rfl rfl rfl ?_
  refine KL.nil ?_
  refine KQ.seq ?_
  refine KC.condF rfl ?_
  refine KC.skip ?_
  refine KQ.seq ?_
  refine KC.seq ?_
  refine KC.region ?_
  refine KL.op (R.move rfl rfl) rfl rfl rfl ?_
  refine KL.call rfl rfl rfl rfl Tryd.call16 rfl rfl rfl (Named_any _) ?_
  rintro _ H2 ⟨rfl, ox⟩
  have zc_H2 := (ox).1
  have o0 := o0.trans ox
  refine KL.op (R.move rfl rfl) rfl rfl rfl ?_
  refine KL.op (R.extract rfl rfl rfl) rfl rfl rfl ?_
  refine KL.op (R.extract rfl rfl rfl) rfl rfl rfl ?_
  refine KL.opM (M.alloc rfl zr24 rfl) rfl rfl rfl ?_
  rintro _ H3 ⟨rfl, n3⟩
  have z3 := n3.2.1
  have o0 := o0.trans n3.1
  have b3 := n3.2.2
  have b3 := b3
  refine KL.opS (S.storeAgg (us := (((Opc.named (ints s)).getD Opc.Row.zero)).cells) rfl sz24 rfl rfl (rfl) (by intro u hu; simp only [Opc.Row.cells, List.mem_cons, List.not_mem_nil, or_false] at hu; rcases hu with rfl | rfl | rfl | rfl | rfl <;> rfl) b3 (by simp [Opc.Row.cells])) rfl rfl ?_
  rintro H4 ⟨u4, b4⟩
  have o0 := o0.upd u4 (by omega)
  have zu4 := u4.1
  have b3 := b4
  rw [over_all (by simp [Opc.Row.cells])] at b3
  refine KL.op (R.assign rfl rfl) rfl rfl rfl ?_
  refine KL.nil ?_
  refine KQ.seq ?_
  refine KC.seq ?_
  refine KC.region ?_
  refine KL.op (R.move rfl rfl) rfl rfl rfl ?_
  refine KL.call rfl rfl rfl rfl Tryd.call17 rfl rfl rfl (Ct.isO _ (Find_any s (hT.old o0)) (Opc.find_named _)) ?_
  rintro _ H5 ⟨rfl, ox⟩
  have zc_H5 := (ox).1
  have o0 := o0.trans ox
  have b3 := (ox).blk b3
  refine KL.op (R.move rfl rfl) rfl rfl rfl ?_
  refine KL.op (R.extract rfl rfl rfl) rfl rfl rfl ?_
  refine KL.op (R.extract rfl rfl rfl) rfl rfl rfl ?_
  refine KL.op (R.assign rfl rfl) rfl rfl rfl ?_
  refine KL.op (R.assign rfl rfl) rfl rfl rfl ?_
  refine KL.nil ?_
  refine KQ.seq ?_
  refine KC.seq ?_
  refine KC.region ?_
  refine KL.op (R.move rfl rfl) rfl rfl rfl ?_
  refine KL.op ((by first | exact R.fieldAddr rfl Tryd.underlying24 rfl rfl sz5 rfl | exact R.fieldAddrP rfl Tryd.underlying24 rfl rfl sz5 rfl)) rfl rfl rfl ?_
  refine KL.op (R.load rfl Tryd.underlying5 rfl rfl (cell_of b3 rfl)) rfl rfl rfl ?_
  refine KL.op ((R.eql rfl rfl rfl).val (congrArg Value.bool (decide_eq_true (by rfl)))) rfl rfl rfl ?_
  refine KL.op (R.move rfl rfl) rfl rfl rfl ?_
  refine KL.op (R.move rfl rfl) rfl rfl rfl ?_
  refine KL.op (R.move rfl rfl) rfl rfl rfl ?_
  refine KL.op ((R.eqlB rfl Tryd.underlying4 rfl rfl).val (congrArg Value.bool (beq_self_eq_true _))) rfl rfl rfl ?_
  refine KL.op (R.pick rfl rfl rfl) rfl rfl rfl ?_
  refine KL.op (R.assign rfl rfl) rfl rfl rfl ?_
  refine KL.nil ?_
  refine KQ.seq ?_
  refine KC.ret ?_
  refine KQ.ofRet ?_
  refine KQ.fin1 Tryd.results4 rfl ?_
  exact ⟨rfl, o0⟩

theorem getD_mem {l : List Int} {k : Nat} (h : k < l.length) : l.getD k default ∈ l := by
  rw [List.getD_eq_getElem?_getD, List.getElem?_eq_getElem h]; exact List.getElem_mem h
set_option maxRecDepth 100000 in
set_option maxHeartbeats 4000000 in
theorem Apart_tt {H : Heap} (op other : Int) (ra : InR .u8 op) (rb : InR .u8 other) (hT : TabA H) (p r : List Int) (hk : Opc.known op = true) (hs : Opc.sig op = (p, r, true)) : Ct Tryd.prog 5 [.int .u8 op, .int .u8 other] H (fun u H' => u = .bool true ∧ Old H H') := by
  refine Ct.mk Tryd.func5 rfl Tryd.ntmps5 rfl ?_
  intro W0 hW0
  have o0 : Old H H := Old.refl H
  have hap := Opc.apart ra
  have hnm : ¬ (Opc.nm op = []) := by have := hap.2.1; rw [hk] at this; simpa using this.symm
  rw [hs] at hap
  have hp2 : p.length ≤ 2 := hap.2.2.2.1
  have hr2 : r.length ≤ 1 := hap.2.2.2.2.1
  refine KC.seq ?_
  refine KC.region ?_
  refine KL.op (R.assign rfl rfl) rfl rfl rfl ?_
  refine KL.nil ?_
  refine KQ.seq ?_
  refine KC.seq ?_
  refine KC.seq ?_
  refine KC.region ?_
  refine KL.call rfl rfl rfl rfl Tryd.call6 rfl rfl rfl (known_any hT) ?_
  rintro _ H1 ⟨rfl, ox⟩
  have zc_H1 := (ox).1
  have o0 := o0.trans ox
  refine KL.op (R.not rfl rfl) rfl rfl rfl ?_
  refine KL.nil ?_
  refine KQ.seq ?_
  refine KC.condF rfl ?_
  refine KC.skip ?_
  refine KQ.seq ?_
  refine KC.seq ?_
  refine KC.region ?_
  refine KL.op (R.move rfl rfl) rfl rfl rfl ?_
  refine KL.call rfl rfl rfl rfl Tryd.call15 rfl rfl rfl (Name_any op ra (hT.old o0)) ?_
  rintro _ H2 ⟨rfl, ox⟩
  have zc_H2 := (ox).1
  have o0 := o0.trans ox
  refine KL.op (R.assign rfl rfl) rfl rfl rfl ?_
  refine KL.nil ?_
  refine KQ.seq ?_
  refine KC.seq ?_
  refine KC.seq ?_
  refine KC.region ?_
  refine KL.op (R.move rfl rfl) rfl rfl rfl ?_
  refine KL.call rfl rfl rfl rfl Tryd.call10 rfl rfl rfl (Ct.is (.bool true) (Known_k op) (congrArg Value.bool hk)) ?_
  rintro _ _ ⟨rfl, rfl⟩
  refine KL.op (R.move rfl rfl) rfl rfl rfl ?_
  refine KL.op (R.move rfl rfl) rfl rfl rfl ?_
  refine KL.call rfl rfl rfl rfl Tryd.call11 rfl rfl rfl (Ct.is (.bool false) (Float_k op) (congrArg Value.bool (hap.1 hk))) ?_
  rintro _ _ ⟨rfl, rfl⟩
  refine KL.op (R.pick rfl rfl rfl) rfl rfl rfl ?_
  refine KL.op (R.move rfl rfl) rfl rfl rfl ?_
  refine KL.op (R.move rfl rfl) rfl rfl rfl ?_
  refine KL.call rfl rfl rfl rfl Tryd.call10 rfl rfl rfl (Ct.is (.bool true) (Known_k op) (congrArg Value.bool hk)) ?_
  rintro _ _ ⟨rfl, rfl⟩
  refine KL.op (R.move rfl rfl) rfl rfl rfl ?_
  refine KL.op ((R.neqStr rfl rfl rfl).val (congrArg (fun b => Value.bool (!b)) ((sv_cmp0 (Opc.names_range _ (names_get (k := op.toNat) (by dsimp only [InR] at ra; omega)))).trans (decide_eq_false hnm)))) rfl rfl rfl ?_
  refine KL.op (R.neqB rfl Tryd.underlying4 rfl rfl) rfl rfl rfl ?_
  refine KL.op (R.pick rfl rfl rfl) rfl rfl rfl ?_
  refine KL.op (R.move rfl rfl) rfl rfl rfl ?_
  refine KL.op (R.move rfl rfl) rfl rfl rfl ?_
  refine KL.op (R.move rfl rfl) rfl rfl rfl ?_
  refine KL.op (R.neq rfl rfl rfl) rfl rfl rfl ?_
  refine KL.op (R.move rfl rfl) rfl rfl rfl ?_
  refine KL.case (d := 35) rfl ?_ ?_
  · intro hg35
    try simp only [decide_eq_true_eq, decide_eq_false_iff_not, Bool.not_eq_true', Bool.not_eq_false', Bool.and_eq_true, Bool.or_eq_false_iff] at hg35
    refine KL.op (R.move rfl rfl) rfl rfl rfl ?_
    refine KL.op ((R.neqStr rfl rfl rfl).val (congrArg (fun b => Value.bool (!b)) ((sv_cmp0 (Opc.names_range _ (names_get (k := op.toNat) (by dsimp only [InR] at ra; omega)))).trans (decide_eq_false hnm)))) rfl rfl rfl ?_
    refine KL.op (R.pick rfl rfl rfl) rfl rfl rfl ?_
    refine KL.op (R.move rfl rfl) rfl rfl rfl ?_
    refine KL.op (R.move rfl rfl) rfl rfl rfl ?_
    refine KL.op (R.move rfl rfl) rfl rfl rfl ?_
    refine KL.call rfl rfl rfl rfl Tryd.call15 rfl rfl rfl (Name_any other rb (hT.old o0)) ?_
    rintro _ H3 ⟨rfl, ox⟩
    have zc_H3 := (ox).1
    have o0 := o0.trans ox
    refine KL.op ((R.eqlStr rfl rfl rfl).val (congrArg Value.bool ((sv_eq (Opc.names_range _ (names_get (k := op.toNat) (by dsimp only [InR] at ra; omega))) (Opc.names_range _ (names_get (k := other.toNat) (by dsimp only [InR] at rb; omega)))).trans (decide_eq_false (Opc.nm_apart ra rb (by simp_all) hnm))))) rfl rfl rfl ?_
    refine KL.op (R.pick rfl rfl rfl) rfl rfl rfl ?_
    refine KL.op (R.pick rfl rfl rfl) rfl rfl rfl ?_
    refine KL.nil ?_
    refine KQ.seq ?_
    refine KC.condF rfl ?_
    refine KC.skip ?_
    refine KQ.seq ?_
    refine KC.seq ?_
    refine KC.seq ?_
    refine KC.region ?_
    refine KL.op (R.move rfl rfl) rfl rfl rfl ?_
    refine KL.call rfl rfl rfl rfl Tryd.call17 rfl rfl rfl (Ct.isO (.tuple #[.int .u8 op, .bool true]) (Find_any _ (hT.old o0)) (by rw [ints_bstr (Opc.names_range _ (names_get (k := op.toNat) (by dsimp only [InR] at ra; omega))), Opc.find, show Opc.idx (Opc.names.getD op.toNat default) = some op.toNat from hap.2.2.1 hk]; simp only [Int.toNat_of_nonneg ra.1])) ?_
    rintro _ H4 ⟨rfl, ox⟩
    have zc_H4 := (ox).1
    have o0 := o0.trans ox
    refine KL.op (R.move rfl rfl) rfl rfl rfl ?_
    refine KL.op (R.extract rfl rfl rfl) rfl rfl rfl ?_
    refine KL.op (R.extract rfl rfl rfl) rfl rfl rfl ?_
    refine KL.op (R.assign rfl rfl) rfl rfl rfl ?_
    refine KL.op (R.assign rfl rfl) rfl rfl rfl ?_
    refine KL.nil ?_
    refine KQ.seq ?_
    refine KC.seq ?_
    refine KC.region ?_
    refine KL.op (R.move rfl rfl) rfl rfl rfl ?_
    refine KL.call rfl rfl rfl rfl Tryd.call10 rfl rfl rfl (Ct.is (.bool true) (Known_k op) (congrArg Value.bool hk)) ?_
    rintro _ _ ⟨rfl, rfl⟩
    refine KL.op (R.move rfl rfl) rfl rfl rfl ?_
    refine KL.op (R.move rfl rfl) rfl rfl rfl ?_
    refine KL.op (R.not rfl rfl) rfl rfl rfl ?_
    refine KL.op (R.move rfl rfl) rfl rfl rfl ?_
    refine KL.op (R.move rfl rfl) rfl rfl rfl ?_
    refine KL.op (R.move rfl rfl) rfl rfl rfl ?_
    refine KL.op ((R.neq rfl rfl rfl).val ((congrArg (fun b => Value.bool (!b)) (decide_eq_true (by rfl))))) rfl rfl rfl ?_
    refine KL.op (R.pick rfl rfl rfl) rfl rfl rfl ?_
    refine KL.op (R.pick rfl rfl rfl) rfl rfl rfl ?_
    refine KL.nil ?_
    refine KQ.seq ?_
    refine KC.condF rfl ?_
    refine KC.skip ?_
    refine KQ.seq ?_
    refine KC.seq ?_
    refine KC.region ?_
    refine KL.op (R.move rfl rfl) rfl rfl rfl ?_
    refine KL.call rfl rfl rfl rfl Tryd.call8 rfl rfl rfl (Sig_k op (p := p) (r := r) (ok := true) hs) ?_
    rintro _ H5 ⟨ox, va, vb, rfl, sa, sb⟩
    have zc_H5 := (ox).1
    have o0 := o0.trans ox
    have oS : Old H5 H5 := Old.refl _
    have sa0 := sa
    have sb0 := sb
    refine KL.op (R.move rfl rfl) rfl rfl rfl ?_
    refine KL.op (R.extract rfl rfl rfl) rfl rfl rfl ?_
    refine KL.op (R.extract rfl rfl rfl) rfl rfl rfl ?_
    refine KL.op (R.extract rfl rfl rfl) rfl rfl rfl ?_
    refine KL.op (R.assign rfl rfl) rfl rfl rfl ?_
    refine KL.op (R.assign rfl rfl) rfl rfl rfl ?_
    refine KL.op (R.assign rfl rfl) rfl rfl rfl ?_
    refine KL.nil ?_
    refine KQ.seq ?_
    refine KC.seq ?_
    refine KC.seq ?_
    refine KC.region ?_
    refine KL.opM (M.lit rfl Tryd.underlying27 zs5 (by decide) rfl rfl rfl) rfl rfl rfl ?_
    rintro _ H6 ⟨rfl, n6⟩
    have z6 := n6.2.1
    have o0 := o0.trans n6.1
    have sa := sa.old n6.1
    have sb := sb.old n6.1
    have oS := oS.trans n6.1
    have b6 := n6.2.2
    have wa : Own 1 (EInt .u8) 5 #[] (Array.size H5) H6 (.slice (some ⟨Array.size H5, 0, none⟩) 0 0) [] := Own.litI (l := []) n6 (Nat.le_refl _) rfl (by decide) (by intro x hx; cases hx)
    have z68 := o0.1
    refine KL.op (R.move rfl rfl) rfl rfl rfl ?_
    have lt7 := wa.lt
    refine KL.opM (M.append rfl Tryd.underlying27 inf5 rfl (by decide) rfl rfl wa (by exact (sa0.old oS)) (fun _ _ h _ => h) (by omega) (by simp; omega) (by unfold maxLen; simp; omega)) rfl rfl rfl ?_
    rintro v70 H7 ⟨w7, g7⟩
    try dsimp only at g7
    have ob7 := g7.oldB wa (by omega)
    have o0 := o0.then ob7 (by omega)
    have z7 := ob7.1
    have oS := oS.then ob7 (by omega)
    have wa := w7
    refine KL.op (R.move rfl rfl) rfl rfl rfl ?_
    have lt8 := wa.lt
    refine KL.opM (M.append rfl Tryd.underlying27 inf5 rfl (by decide) rfl rfl wa (by exact (sb0.old oS)) (fun _ _ h _ => h) (by omega) (by simp; omega) (by unfold maxLen; simp; omega)) rfl rfl rfl ?_
    rintro v72 H8 ⟨w8, g8⟩
    try dsimp only at g8
    have ob8 := g8.oldB wa (by omega)
    have o0 := o0.then ob8 (by omega)
    have z8 := ob8.1
    have oS := oS.then ob8 (by omega)
    have wa := w8
    have wa : Own 1 (EInt .u8) 5 #[] (Array.size H5) H8 v72 (p ++ r) := by simpa using wa
    refine KL.op (R.lenO rfl Tryd.underlying27 rfl wa) rfl rfl rfl ?_
    refine KL.op (R.move rfl rfl) rfl rfl rfl ?_
    refine KL.nil ?_
    refine KQ.seq ?_
    refine KC.block ?_
    refine KC.loopD (κ := Nat) [75, 76, 77, 12, 78, 79, 80, 81, 82, 83, 4, 84, 74] (fun k => [(74, .int .i64 (k : Nat))]) (fun k Hl => H8 = Hl) (fun k => (p ++ r).length - k) 0 ?_ ?_ ?_
    · exact (Sub.cons rfl (Ext.sub (Ext.refl _ _)))
    · exact rfl
    · rintro k H9 rfl
      refine KC.seq ?_
      refine KC.region ?_
      refine KL.op (R.lss rfl rfl rfl) rfl rfl rfl ?_
      refine KL.nil ?_
      refine KQ.seq ?_
      refine KC.seq ?_
      refine KC.iteL rfl ?_ ?_
      · intro hc75
        try simp only [decide_eq_true_eq, decide_eq_false_iff_not, Bool.not_eq_true', Bool.not_eq_false', Bool.and_eq_true, Bool.or_eq_false_iff] at hc75
        have hlen : (p ++ r).length ≤ 3 := by simp; omega
        have ht := hap.2.2.2.2.2.1 _ (getD_mem (l := p ++ r) (k := k) (by omega))
        refine KC.skip ?_
        refine KQ.seq ?_
        refine KC.seq ?_
        refine KC.block ?_
        refine KC.seq ?_
        refine KC.region ?_
        refine KL.op (R.indexO1 (j := k) rfl Tryd.underlying27 sz5 rfl rfl wa rfl (by omega)) rfl rfl rfl ?_
        refine KL.op (R.load rfl Tryd.underlying5 rfl rfl (wa.int k (by omega)).1) rfl rfl rfl ?_
        refine KL.op (R.assign rfl rfl) rfl rfl rfl ?_
        refine KL.nil ?_
        refine KQ.seq ?_
        refine KC.seq ?_
        refine KC.region ?_
        refine KL.op (R.move rfl rfl) rfl rfl rfl ?_
        refine KL.op (R.neq rfl rfl rfl) rfl rfl rfl ?_
        refine KL.op (R.move rfl rfl) rfl rfl rfl ?_
        refine KL.case (d := 80) rfl ?_ ?_
        · intro hg80
          try simp only [decide_eq_true_eq, decide_eq_false_iff_not, Bool.not_eq_true', Bool.not_eq_false', Bool.and_eq_true, Bool.or_eq_false_iff] at hg80
          refine KL.op (R.move rfl rfl) rfl rfl rfl ?_
          refine KL.op ((R.neq rfl rfl rfl).val ((congrArg (fun b => Value.bool (!b)) (decide_eq_true (by rcases ht with ht | ht <;> simp_all))))) rfl rfl rfl ?_
          refine KL.op (R.pick rfl rfl rfl) rfl rfl rfl ?_
          refine KL.nil ?_
          refine KQ.seq ?_
          refine KC.condF rfl ?_
          refine KC.skip ?_
          refine KQ.normBlock ?_
          refine KQ.seq ?_
          refine KC.region ?_
          refine KL.op ((R.add rfl rfl rfl (by dsimp only [InR]; omega)).val (congrArg (Value.int .i64) (show (k : Int) + 1 = ((k + 1 : Nat) : Int) by omega))) rfl rfl rfl ?_
          refine KL.op (R.move rfl rfl) rfl rfl rfl ?_
          refine KL.nil ?_
          refine KQ.again (k + 1) ?_ ?_ ?_
          · exact (Sub.cons rfl (Ext.sub (by repeat (first | exact Ext.refl _ _ | refine Ext.put rfl ?_ | refine Ext.drop rfl ?_))))
          · omega
          · exact rfl
        · intro hg80
          try simp only [decide_eq_true_eq, decide_eq_false_iff_not, Bool.not_eq_true', Bool.not_eq_false', Bool.and_eq_true, Bool.or_eq_false_iff] at hg80
          refine KL.skip rfl rfl rfl ?_
          refine KL.skip rfl rfl rfl ?_
          refine KL.op (R.pick rfl rfl rfl) rfl rfl rfl ?_
          refine KL.nil ?_
          refine KQ.seq ?_
          refine KC.condF rfl ?_
          refine KC.skip ?_
          refine KQ.normBlock ?_
          refine KQ.seq ?_
          refine KC.region ?_
          refine KL.op ((R.add rfl rfl rfl (by dsimp only [InR]; omega)).val (congrArg (Value.int .i64) (show (k : Int) + 1 = ((k + 1 : Nat) : Int) by omega))) rfl rfl rfl ?_
          refine KL.op (R.move rfl rfl) rfl rfl rfl ?_
          refine KL.nil ?_
          refine KQ.again (k + 1) ?_ ?_ ?_
          · exact (Sub.cons rfl (Ext.sub (by repeat (first | exact Ext.refl _ _ | refine Ext.put rfl ?_ | refine Ext.drop rfl ?_))))
          · omega
          · exact rfl
      · intro hc75
        try simp only [decide_eq_true_eq, decide_eq_false_iff_not, Bool.not_eq_true', Bool.not_eq_false', Bool.and_eq_true, Bool.or_eq_false_iff] at hc75
        refine KC.exit ?_
        refine KQ.exitThen ?_
        refine KQ.exitThen ?_
        refine KQ.hit ?_
        refine KQ.seq ?_
        refine KC.seq ?_
        refine KC.region ?_
        refine KL.op (R.move rfl rfl) rfl rfl rfl ?_
        refine KL.call rfl rfl rfl rfl Tryd.call13 rfl rfl rfl (Form_k op) ?_
        rintro _ _ ⟨rfl, rfl⟩
        refine KL.op (R.eql rfl rfl rfl) rfl rfl rfl ?_
        refine KL.op (R.assign rfl rfl) rfl rfl rfl ?_
        refine KL.nil ?_
        refine KQ.seq ?_
        refine KC.seq ?_
        refine KC.seq ?_
        refine KC.region ?_
        refine KL.op (R.move rfl rfl) rfl rfl rfl ?_
        refine KL.op (R.lenS rfl Tryd.underlying27 rfl sa0) rfl rfl rfl ?_
        refine KL.op ((R.gtr rfl rfl rfl).val (congrArg Value.bool (decide_eq_false (by omega)))) rfl rfl rfl ?_
        refine KL.op (R.move rfl rfl) rfl rfl rfl ?_
        refine KL.op (R.move rfl rfl) rfl rfl rfl ?_
        refine KL.op (R.lenS rfl Tryd.underlying27 rfl sb0) rfl rfl rfl ?_
        refine KL.op ((R.gtr rfl rfl rfl).val (congrArg Value.bool (decide_eq_false (by omega)))) rfl rfl rfl ?_
        refine KL.op (R.pick rfl rfl rfl) rfl rfl rfl ?_
        refine KL.op (R.move rfl rfl) rfl rfl rfl ?_
        refine KL.op (R.move rfl rfl) rfl rfl rfl ?_
        refine KL.op (R.not rfl rfl) rfl rfl rfl ?_
        refine KL.op (R.move rfl rfl) rfl rfl rfl ?_
        refine KL.skip rfl rfl rfl ?_
        refine KL.skip rfl rfl rfl ?_
        refine KL.skip rfl rfl rfl ?_
        refine KL.skip rfl rfl rfl ?_
        refine KL.skip rfl rfl rfl ?_
        refine KL.skip rfl rfl rfl ?_
        refine KL.op (R.pick rfl rfl rfl) rfl rfl rfl ?_
        refine KL.op (R.pick rfl rfl rfl) rfl rfl rfl ?_
        refine KL.op (R.move rfl rfl) rfl rfl rfl ?_
        refine KL.op (R.move rfl rfl) rfl rfl rfl ?_
        refine KL.op (R.move rfl rfl) rfl rfl rfl ?_
        refine KL.op (R.move rfl rfl) rfl rfl rfl ?_
        refine KL.call rfl rfl rfl rfl Tryd.call10 rfl rfl rfl (Ct.is (.bool true) (Known_k op) (congrArg Value.bool hk)) ?_
        rintro _ _ ⟨rfl, rfl⟩
        refine KL.op (R.not rfl rfl) rfl rfl rfl ?_
        refine KL.op (R.pick rfl rfl rfl) rfl rfl rfl ?_
        refine KL.op (R.pick rfl rfl rfl) rfl rfl rfl ?_
        refine KL.op (R.move rfl rfl) rfl rfl rfl ?_
        refine KL.op (R.move rfl rfl) rfl rfl rfl ?_
        refine KL.op (R.move rfl rfl) rfl rfl rfl ?_
        refine KL.call rfl rfl rfl rfl Tryd.call14 rfl rfl rfl (Width_any op) ?_
        rintro _ _ ⟨rfl, rfl⟩
        refine KL.op (R.gtr rfl rfl rfl) rfl rfl rfl ?_
        refine KL.op ((R.neqB rfl Tryd.underlying4 rfl rfl).val (congrArg Value.bool (show (!(decide (Opc.form op = 6) == decide (0 < Opc.width op))) = false by rw [hap.2.2.2.2.2.2.2.2.1, beq_self_eq_true]; rfl))) rfl rfl rfl ?_
        refine KL.op (R.pick rfl rfl rfl) rfl rfl rfl ?_
        refine KL.nil ?_
        refine KQ.seq ?_
        refine KC.condF rfl ?_
        refine KC.skip ?_
        refine KQ.seq ?_
        refine KC.seq ?_
        refine KC.region ?_
        refine KL.op (R.move rfl rfl) rfl rfl rfl ?_
        refine KL.op (R.not rfl rfl) rfl rfl rfl ?_
        refine KL.op (R.move rfl rfl) rfl rfl rfl ?_
        refine KL.op (R.move rfl rfl) rfl rfl rfl ?_
        refine KL.op (R.lenS rfl Tryd.underlying27 rfl sb0) rfl rfl rfl ?_
        refine KL.op (R.eql rfl rfl rfl) rfl rfl rfl ?_
        refine KL.op (R.move rfl rfl) rfl rfl rfl ?_
        refine KL.op (R.move rfl rfl) rfl rfl rfl ?_
        refine KL.case (d := 130) rfl ?_ ?_
        · intro hg130
          try simp only [decide_eq_true_eq, decide_eq_false_iff_not, Bool.not_eq_true', Bool.not_eq_false', Bool.and_eq_true, Bool.or_eq_false_iff] at hg130
          refine KL.op (R.move rfl rfl) rfl rfl rfl ?_
          refine KL.op (R.lenS rfl Tryd.underlying27 rfl sa0) rfl rfl rfl ?_
          refine KL.op (R.eql rfl rfl rfl) rfl rfl rfl ?_
          refine KL.op (R.pick rfl rfl rfl) rfl rfl rfl ?_
          refine KL.op ((R.eqlB rfl Tryd.underlying4 rfl rfl).val (congrArg Value.bool (show _ = true from by have e := hap.2.2.2.2.2.2.2.2.2 rfl; first | (simp_all; done) | (simp_all; omega)))) rfl rfl rfl ?_
          refine KL.op (R.pick rfl rfl rfl) rfl rfl rfl ?_
          refine KL.op (R.assign rfl rfl) rfl rfl rfl ?_
          refine KL.nil ?_
          refine KQ.seq ?_
          refine KC.ret ?_
          refine KQ.ofRet ?_
          refine KQ.fin1 Tryd.results5 rfl ?_
          exact ⟨rfl, o0⟩
        · intro hg130
          try simp only [decide_eq_true_eq, decide_eq_false_iff_not, Bool.not_eq_true', Bool.not_eq_false', Bool.and_eq_true, Bool.or_eq_false_iff] at hg130
          refine KL.skip rfl rfl rfl ?_
          refine KL.skip rfl rfl rfl ?_
          refine KL.skip rfl rfl rfl ?_
          refine KL.op (R.pick rfl rfl rfl) rfl rfl rfl ?_
          refine KL.op ((R.eqlB rfl Tryd.underlying4 rfl rfl).val (congrArg Value.bool (show _ = true from by have e := hap.2.2.2.2.2.2.2.2.2 rfl; first | (simp_all; done) | (simp_all; omega)))) rfl rfl rfl ?_
          refine KL.op (R.pick rfl rfl rfl) rfl rfl rfl ?_
          refine KL.op (R.assign rfl rfl) rfl rfl rfl ?_
          refine KL.nil ?_
          refine KQ.seq ?_
          refine KC.ret ?_
          refine KQ.ofRet ?_
          refine KQ.fin1 Tryd.results5 rfl ?_
          exact ⟨rfl, o0⟩
  · intro hg35
    try simp only [decide_eq_true_eq, decide_eq_false_iff_not, Bool.not_eq_true', Bool.not_eq_false', Bool.and_eq_true, Bool.or_eq_false_iff] at hg35
    refine KL.skip rfl rfl rfl ?_
    refine KL.skip rfl rfl rfl ?_
    refine KL.op (R.pick rfl rfl rfl) rfl rfl rfl ?_
    refine KL.op (R.move rfl rfl) rfl rfl rfl ?_
    refine KL.skip rfl rfl rfl ?_
    refine KL.skip rfl rfl rfl ?_
    refine KL.skip rfl rfl rfl ?_
    refine KL.skip rfl rfl rfl ?_
    refine KL.op (R.pick rfl rfl rfl) rfl rfl rfl ?_
    refine KL.op (R.pick rfl rfl rfl) rfl rfl rfl ?_
    refine KL.nil ?_
    refine KQ.seq ?_
    refine KC.condF rfl ?_
    refine KC.skip ?_
    refine KQ.seq ?_
    refine KC.seq ?_
    refine KC.seq ?_
    refine KC.region ?_
    refine KL.op (R.move rfl rfl) rfl rfl rfl ?_
    refine KL.call rfl rfl rfl rfl Tryd.call17 rfl rfl rfl (Ct.isO (.tuple #[.int .u8 op, .bool true]) (Find_any _ (hT.old o0)) (by rw [ints_bstr (Opc.names_range _ (names_get (k := op.toNat) (by dsimp only [InR] at ra; omega))), Opc.find, show Opc.idx (Opc.names.getD op.toNat default) = some op.toNat from hap.2.2.1 hk]; simp only [Int.toNat_of_nonneg ra.1])) ?_
    rintro _ H10 ⟨rfl, ox⟩
    have zc_H10 := (ox).1
    have o0 := o0.trans ox
    refine KL.op (R.move rfl rfl) rfl rfl rfl ?_
    refine KL.op (R.extract rfl rfl rfl) rfl rfl rfl ?_
    refine KL.op (R.extract rfl rfl rfl) rfl rfl rfl ?_
    refine KL.op (R.assign rfl rfl) rfl rfl rfl ?_
    refine KL.op (R.assign rfl rfl) rfl rfl rfl ?_
    refine KL.nil ?_
    refine KQ.seq ?_
    refine KC.seq ?_
    refine KC.region ?_
    refine KL.op (R.move rfl rfl) rfl rfl rfl ?_
    refine KL.call rfl rfl rfl rfl Tryd.call10 rfl rfl rfl (Ct.is (.bool true) (Known_k op) (congrArg Value.bool hk)) ?_
    rintro _ _ ⟨rfl, rfl⟩
    refine KL.op (R.move rfl rfl) rfl rfl rfl ?_
    refine KL.op (R.move rfl rfl) rfl rfl rfl ?_
    refine KL.op (R.not rfl rfl) rfl rfl rfl ?_
    refine KL.op (R.move rfl rfl) rfl rfl rfl ?_
    refine KL.op (R.move rfl rfl) rfl rfl rfl ?_
    refine KL.op (R.move rfl rfl) rfl rfl rfl ?_
    refine KL.op ((R.neq rfl rfl rfl).val ((congrArg (fun b => Value.bool (!b)) (decide_eq_true (by rfl))))) rfl rfl rfl ?_
    refine KL.op (R.pick rfl rfl rfl) rfl rfl rfl ?_
    refine KL.op (R.pick rfl rfl rfl) rfl rfl rfl ?_
    refine KL.nil ?_
    refine KQ.seq ?_
    refine KC.condF rfl ?_
    refine KC.skip ?_
    refine KQ.seq ?_
    refine KC.seq ?_
    refine KC.region ?_
    refine KL.op (R.move rfl rfl) rfl rfl rfl ?_
    refine KL.call rfl rfl rfl rfl Tryd.call8 rfl rfl rfl (Sig_k op (p := p) (r := r) (ok := true) hs) ?_
    rintro _ H11 ⟨ox, va, vb, rfl, sa, sb⟩
    have zc_H11 := (ox).1
    have o0 := o0.trans ox
    have oS : Old H11 H11 := Old.refl _
    have sa0 := sa
    have sb0 := sb
    refine KL.op (R.move rfl rfl) rfl rfl rfl ?_
    refine KL.op (R.extract rfl rfl rfl) rfl rfl rfl ?_
    refine KL.op (R.extract rfl rfl rfl) rfl rfl rfl ?_
    refine KL.op (R.extract rfl rfl rfl) rfl rfl rfl ?_
    refine KL.op (R.assign rfl rfl) rfl rfl rfl ?_
    refine KL.op (R.assign rfl rfl) rfl rfl rfl ?_
    refine KL.op (R.assign rfl rfl) rfl rfl rfl ?_
    refine KL.nil ?_
    refine KQ.seq ?_
    refine KC.seq ?_
    refine KC.seq ?_
    refine KC.region ?_
    refine KL.opM (M.lit rfl Tryd.underlying27 zs5 (by decide) rfl rfl rfl) rfl rfl rfl ?_
    rintro _ H12 ⟨rfl, n12⟩
    have z12 := n12.2.1
    have o0 := o0.trans n12.1
    have sa := sa.old n12.1
    have sb := sb.old n12.1
    have oS := oS.trans n12.1
    have b12 := n12.2.2
    have wa : Own 1 (EInt .u8) 5 #[] (Array.size H11) H12 (.slice (some ⟨Array.size H11, 0, none⟩) 0 0) [] := Own.litI (l := []) n12 (Nat.le_refl _) rfl (by decide) (by intro x hx; cases hx)
    have z68 := o0.1
    refine KL.op (R.move rfl rfl) rfl rfl rfl ?_
    have lt13 := wa.lt
    refine KL.opM (M.append rfl Tryd.underlying27 inf5 rfl (by decide) rfl rfl wa (by exact (sa0.old oS)) (fun _ _ h _ => h) (by omega) (by simp; omega) (by unfold maxLen; simp; omega)) rfl rfl rfl ?_
    rintro v70 H13 ⟨w13, g13⟩
    try dsimp only at g13
    have ob13 := g13.oldB wa (by omega)
    have o0 := o0.then ob13 (by omega)
    have z13 := ob13.1
    have oS := oS.then ob13 (by omega)
    have wa := w13
    refine KL.op (R.move rfl rfl) rfl rfl rfl ?_
    have lt14 := wa.lt
    refine KL.opM (M.append rfl Tryd.underlying27 inf5 rfl (by decide) rfl rfl wa (by exact (sb0.old oS)) (fun _ _ h _ => h) (by omega) (by simp; omega) (by unfold maxLen; simp; omega)) rfl rfl rfl ?_
    rintro v72 H14 ⟨w14, g14⟩
    try dsimp only at g14
    have ob14 := g14.oldB wa (by omega)
    have o0 := o0.then ob14 (by omega)
    have z14 := ob14.1
    have oS := oS.then ob14 (by omega)
    have wa := w14
    have wa : Own 1 (EInt .u8) 5 #[] (Array.size H11) H14 v72 (p ++ r) := by simpa using wa
    refine KL.op (R.lenO rfl Tryd.underlying27 rfl wa) rfl rfl rfl ?_
    refine KL.op (R.move rfl rfl) rfl rfl rfl ?_
    refine KL.nil ?_
    refine KQ.seq ?_
    refine KC.block ?_
    refine KC.loopD (κ := Nat) [75, 76, 77, 12, 78, 79, 80, 81, 82, 83, 4, 84, 74] (fun k => [(74, .int .i64 (k : Nat))]) (fun k Hl => H14 = Hl) (fun k => (p ++ r).length - k) 0 ?_ ?_ ?_
    · exact (Sub.cons rfl (Ext.sub (Ext.refl _ _)))
    · exact rfl
    · rintro k H15 rfl
      refine KC.seq ?_
      refine KC.region ?_
      refine KL.op (R.lss rfl rfl rfl) rfl rfl rfl ?_
      refine KL.nil ?_
      refine KQ.seq ?_
      refine KC.seq ?_
      refine KC.iteL rfl ?_ ?_
      · intro hc75
        try simp only [decide_eq_true_eq, decide_eq_false_iff_not, Bool.not_eq_true', Bool.not_eq_false', Bool.and_eq_true, Bool.or_eq_false_iff] at hc75
        have hlen : (p ++ r).length ≤ 3 := by simp; omega
        have ht := hap.2.2.2.2.2.1 _ (getD_mem (l := p ++ r) (k := k) (by omega))
        refine KC.skip ?_
        refine KQ.seq ?_
        refine KC.seq ?_
        refine KC.block ?_
        refine KC.seq ?_
        refine KC.region ?_
        refine KL.op (R.indexO1 (j := k) rfl Tryd.underlying27 sz5 rfl rfl wa rfl (by omega)) rfl rfl rfl ?_
        refine KL.op (R.load rfl Tryd.underlying5 rfl rfl (wa.int k (by omega)).1) rfl rfl rfl ?_
        refine KL.op (R.assign rfl rfl) rfl rfl rfl ?_
        refine KL.nil ?_
        refine KQ.seq ?_
        refine KC.seq ?_
        refine KC.region ?_
        refine KL.op (R.move rfl rfl) rfl rfl rfl ?_
        refine KL.op (R.neq rfl rfl rfl) rfl rfl rfl ?_
        refine KL.op (R.move rfl rfl) rfl rfl rfl ?_
        refine KL.case (d := 80) rfl ?_ ?_
        · intro hg80
          try simp only [decide_eq_true_eq, decide_eq_false_iff_not, Bool.not_eq_true', Bool.not_eq_false', Bool.and_eq_true, Bool.or_eq_false_iff] at hg80
          refine KL.op (R.move rfl rfl) rfl rfl rfl ?_
          refine KL.op ((R.neq rfl rfl rfl).val ((congrArg (fun b => Value.bool (!b)) (decide_eq_true (by rcases ht with ht | ht <;> simp_all))))) rfl rfl rfl ?_
          refine KL.op (R.pick rfl rfl rfl) rfl rfl rfl ?_
          refine KL.nil ?_
          refine KQ.seq ?_
          refine KC.condF rfl ?_
          refine KC.skip ?_
          refine KQ.normBlock ?_
          refine KQ.seq ?_
          refine KC.region ?_
          refine KL.op ((R.add rfl rfl rfl (by dsimp only [InR]; omega)).val (congrArg (Value.int .i64) (show (k : Int) + 1 = ((k + 1 : Nat) : Int) by omega))) rfl rfl rfl ?_
          refine KL.op (R.move rfl rfl) rfl rfl rfl ?_
          refine KL.nil ?_
          refine KQ.again (k + 1) ?_ ?_ ?_
          · exact (Sub.cons rfl (Ext.sub (by repeat (first | exact Ext.refl _ _ | refine Ext.put rfl ?_ | refine Ext.drop rfl ?_))))
          · omega
          · exact rfl
        · intro hg80
          try simp only [decide_eq_true_eq, decide_eq_false_iff_not, Bool.not_eq_true', Bool.not_eq_false', Bool.and_eq_true, Bool.or_eq_false_iff] at hg80
          refine KL.skip rfl rfl rfl ?_
          refine KL.skip rfl rfl rfl ?_
          refine KL.op (R.pick rfl rfl rfl) rfl rfl rfl ?_
          refine KL.nil ?_
          refine KQ.seq ?_
          refine KC.condF rfl ?_
          refine KC.skip ?_
          refine KQ.normBlock ?_
          refine KQ.seq ?_
          refine KC.region ?_
          refine KL.op ((R.add rfl rfl rfl (by dsimp only [InR]; omega)).val (congrArg (Value.int .i64) (show (k : Int) + 1 = ((k + 1 : Nat) : Int) by omega))) rfl rfl rfl ?_
          refine KL.op (R.move rfl rfl) rfl rfl rfl ?_
          refine KL.nil ?_
          refine KQ.again (k + 1) ?_ ?_ ?_
          · exact (Sub.cons rfl (Ext.sub (by repeat (first | exact Ext.refl _ _ | refine Ext.put rfl ?_ | refine Ext.drop rfl ?_))))
          · omega
          · exact rfl
      · intro hc75
        try simp only [decide_eq_true_eq, decide_eq_false_iff_not, Bool.not_eq_true', Bool.not_eq_false', Bool.and_eq_true, Bool.or_eq_false_iff] at hc75
        refine KC.exit ?_
        refine KQ.exitThen ?_
        refine KQ.exitThen ?_
        refine KQ.hit ?_
        refine KQ.seq ?_
        refine KC.seq ?_
        refine KC.region ?_
        refine KL.op (R.move rfl rfl) rfl rfl rfl ?_
        refine KL.call rfl rfl rfl rfl Tryd.call13 rfl rfl rfl (Form_k op) ?_
        rintro _ _ ⟨rfl, rfl⟩
        refine KL.op (R.eql rfl rfl rfl) rfl rfl rfl ?_
        refine KL.op (R.assign rfl rfl) rfl rfl rfl ?_
        refine KL.nil ?_
        refine KQ.seq ?_
        refine KC.seq ?_
        refine KC.seq ?_
        refine KC.region ?_
        refine KL.op (R.move rfl rfl) rfl rfl rfl ?_
        refine KL.op (R.lenS rfl Tryd.underlying27 rfl sa0) rfl rfl rfl ?_
        refine KL.op ((R.gtr rfl rfl rfl).val (congrArg Value.bool (decide_eq_false (by omega)))) rfl rfl rfl ?_
        refine KL.op (R.move rfl rfl) rfl rfl rfl ?_
        refine KL.op (R.move rfl rfl) rfl rfl rfl ?_
        refine KL.op (R.lenS rfl Tryd.underlying27 rfl sb0) rfl rfl rfl ?_
        refine KL.op ((R.gtr rfl rfl rfl).val (congrArg Value.bool (decide_eq_false (by omega)))) rfl rfl rfl ?_
        refine KL.op (R.pick rfl rfl rfl) rfl rfl rfl ?_
        refine KL.op (R.move rfl rfl) rfl rfl rfl ?_
        refine KL.op (R.move rfl rfl) rfl rfl rfl ?_
        refine KL.op (R.not rfl rfl) rfl rfl rfl ?_
        refine KL.op (R.move rfl rfl) rfl rfl rfl ?_
        refine KL.skip rfl rfl rfl ?_
        refine KL.skip rfl rfl rfl ?_
        refine KL.skip rfl rfl rfl ?_
        refine KL.skip rfl rfl rfl ?_
        refine KL.skip rfl rfl rfl ?_
        refine KL.skip rfl rfl rfl ?_
        refine KL.op (R.pick rfl rfl rfl) rfl rfl rfl ?_
        refine KL.op (R.pick rfl rfl rfl) rfl rfl rfl ?_
        refine KL.op (R.move rfl rfl) rfl rfl rfl ?_
        refine KL.op (R.move rfl rfl) rfl rfl rfl ?_
        refine KL.op (R.move rfl rfl) rfl rfl rfl ?_
        refine KL.op (R.move rfl rfl) rfl rfl rfl ?_
        refine KL.call rfl rfl rfl rfl Tryd.call10 rfl rfl rfl (Ct.is (.bool true) (Known_k op) (congrArg Value.bool hk)) ?_
        rintro _ _ ⟨rfl, rfl⟩
        refine KL.op (R.not rfl rfl) rfl rfl rfl ?_
        refine KL.op (R.pick rfl rfl rfl) rfl rfl rfl ?_
        refine KL.op (R.pick rfl rfl rfl) rfl rfl rfl ?_
        refine KL.op (R.move rfl rfl) rfl rfl rfl ?_
        refine KL.op (R.move rfl rfl) rfl rfl rfl ?_
        refine KL.op (R.move rfl rfl) rfl rfl rfl ?_
        refine KL.call rfl rfl rfl rfl Tryd.call14 rfl rfl rfl (Width_any op) ?_
        rintro _ _ ⟨rfl, rfl⟩
        refine KL.op (R.gtr rfl rfl rfl) rfl rfl rfl ?_
        refine KL.op ((R.neqB rfl Tryd.underlying4 rfl rfl).val (congrArg Value.bool (show (!(decide (Opc.form op = 6) == decide (0 < Opc.width op))) = false by rw [hap.2.2.2.2.2.2.2.2.1, beq_self_eq_true]; rfl))) rfl rfl rfl ?_
        refine KL.op (R.pick rfl rfl rfl) rfl rfl rfl ?_
        refine KL.nil ?_
        refine KQ.seq ?_
        refine KC.condF rfl ?_
        refine KC.skip ?_
        refine KQ.seq ?_
        refine KC.seq ?_
        refine KC.region ?_
        refine KL.op (R.move rfl rfl) rfl rfl rfl ?_
        refine KL.op (R.not rfl rfl) rfl rfl rfl ?_
        refine KL.op (R.move rfl rfl) rfl rfl rfl ?_
        refine KL.op (R.move rfl rfl) rfl rfl rfl ?_
        refine KL.op (R.lenS rfl Tryd.underlying27 rfl sb0) rfl rfl rfl ?_
        refine KL.op (R.eql rfl rfl rfl) rfl rfl rfl ?_
        refine KL.op (R.move rfl rfl) rfl rfl rfl ?_
        refine KL.op (R.move rfl rfl) rfl rfl rfl ?_
        refine KL.case (d := 130) rfl ?_ ?_
        · intro hg130
          try simp only [decide_eq_true_eq, decide_eq_false_iff_not, Bool.not_eq_true', Bool.not_eq_false', Bool.and_eq_true, Bool.or_eq_false_iff] at hg130
          refine KL.op (R.move rfl rfl) rfl rfl rfl ?_
          refine KL.op (R.lenS rfl Tryd.underlying27 rfl sa0) rfl rfl rfl ?_
          refine KL.op (R.eql rfl rfl rfl) rfl rfl rfl ?_
          refine KL.op (R.pick rfl rfl rfl) rfl rfl rfl ?_
          refine KL.op ((R.eqlB rfl Tryd.underlying4 rfl rfl).val (congrArg Value.bool (show _ = true from by have e := hap.2.2.2.2.2.2.2.2.2 rfl; first | (simp_all; done) | (simp_all; omega)))) rfl rfl rfl ?_
          refine KL.op (R.pick rfl rfl rfl) rfl rfl rfl ?_
          refine KL.op (R.assign rfl rfl) rfl rfl rfl ?_
          refine KL.nil ?_
          refine KQ.seq ?_
          refine KC.ret ?_
          refine KQ.ofRet ?_
          refine KQ.fin1 Tryd.results5 rfl ?_
          exact ⟨rfl, o0⟩
        · intro hg130
          try simp only [decide_eq_true_eq, decide_eq_false_iff_not, Bool.not_eq_true', Bool.not_eq_false', Bool.and_eq_true, Bool.or_eq_false_iff] at hg130
          refine KL.skip rfl rfl rfl ?_
          refine KL.skip rfl rfl rfl ?_
          refine KL.skip rfl rfl rfl ?_
          refine KL.op (R.pick rfl rfl rfl) rfl rfl rfl ?_
          refine KL.op ((R.eqlB rfl Tryd.underlying4 rfl rfl).val (congrArg Value.bool (show _ = true from by have e := hap.2.2.2.2.2.2.2.2.2 rfl; first | (simp_all; done) | (simp_all; omega)))) rfl rfl rfl ?_
          refine KL.op (R.pick rfl rfl rfl) rfl rfl rfl ?_
          refine KL.op (R.assign rfl rfl) rfl rfl rfl ?_
          refine KL.nil ?_
          refine KQ.seq ?_
          refine KC.ret ?_
          refine KQ.ofRet ?_
          refine KQ.fin1 Tryd.results5 rfl ?_
          exact ⟨rfl, o0⟩

set_option maxRecDepth 100000 in
set_option maxHeartbeats 4000000 in
theorem Apart_tf {H : Heap} (op other : Int) (ra : InR .u8 op) (rb : InR .u8 other) (hT : TabA H) (p r : List Int) (hk : Opc.known op = true) (hs : Opc.sig op = (p, r, false)) : Ct Tryd.prog 5 [.int .u8 op, .int .u8 other] H (fun u H' => u = .bool true ∧ Old H H') := by
  refine Ct.mk Tryd.func5 rfl Tryd.ntmps5 rfl ?_
  intro W0 hW0
  have o0 : Old H H := Old.refl H
  have hap := Opc.apart ra
  have hnm : ¬ (Opc.nm op = []) := by have := hap.2.1; rw [hk] at this; simpa using this.symm
  rw [hs] at hap
  have hp2 : p.length ≤ 2 := hap.2.2.2.1
  have hr2 : r.length ≤ 1 := hap.2.2.2.2.1
  refine KC.seq ?_
  refine KC.region ?_
  refine KL.op (R.assign rfl rfl) rfl rfl rfl ?_
  refine KL.nil ?_
  refine KQ.seq ?_
  refine KC.seq ?_
  refine KC.seq ?_
  refine KC.region ?_
  refine KL.call rfl rfl rfl rfl Tryd.call6 rfl rfl rfl (known_any hT) ?_
  rintro _ H1 ⟨rfl, ox⟩
  have zc_H1 := (ox).1
  have o0 := o0.trans ox
  refine KL.op (R.not rfl rfl) rfl rfl rfl ?_
  refine KL.nil ?_
  refine KQ.seq ?_
  refine KC.condF rfl ?_
  refine KC.skip ?_
  refine KQ.seq ?_
  refine KC.seq ?_
  refine KC.region ?_
  refine KL.op (R.move rfl rfl) rfl rfl rfl ?_
  refine KL.call rfl rfl rfl rfl Tryd.call15 rfl rfl rfl (Name_any op ra (hT.old o0)) ?_
  rintro _ H2 ⟨rfl, ox⟩
  have zc_H2 := (ox).1
  have o0 := o0.trans ox
  refine KL.op (R.assign rfl rfl) rfl rfl rfl ?_
  refine KL.nil ?_
  refine KQ.seq ?_
  refine KC.seq ?_
  refine KC.seq ?_
  refine KC.region ?_
  refine KL.op (R.move rfl rfl) rfl rfl rfl ?_
  refine KL.call rfl rfl rfl rfl Tryd.call10 rfl rfl rfl (Ct.is (.bool true) (Known_k op) (congrArg Value.bool hk)) ?_
  rintro _ _ ⟨rfl, rfl⟩
  refine KL.op (R.move rfl rfl) rfl rfl rfl ?_
  refine KL.op (R.move rfl rfl) rfl rfl rfl ?_
  refine KL.call rfl rfl rfl rfl Tryd.call11 rfl rfl rfl (Ct.is (.bool false) (Float_k op) (congrArg Value.bool (hap.1 hk))) ?_
  rintro _ _ ⟨rfl, rfl⟩
  refine KL.op (R.pick rfl rfl rfl) rfl rfl rfl ?_
  refine KL.op (R.move rfl rfl) rfl rfl rfl ?_
  refine KL.op (R.move rfl rfl) rfl rfl rfl ?_
  refine KL.call rfl rfl rfl rfl Tryd.call10 rfl rfl rfl (Ct.is (.bool true) (Known_k op) (congrArg Value.bool hk)) ?_
  rintro _ _ ⟨rfl, rfl⟩
  refine KL.op (R.move rfl rfl) rfl rfl rfl ?_
  refine KL.op ((R.neqStr rfl rfl rfl).val (congrArg (fun b => Value.bool (!b)) ((sv_cmp0 (Opc.names_range _ (names_get (k := op.toNat) (by dsimp only [InR] at ra; omega)))).trans (decide_eq_false hnm)))) rfl rfl rfl ?_
  refine KL.op (R.neqB rfl Tryd.underlying4 rfl rfl) rfl rfl rfl ?_
  refine KL.op (R.pick rfl rfl rfl) rfl rfl rfl ?_
  refine KL.op (R.move rfl rfl) rfl rfl rfl ?_
  refine KL.op (R.move rfl rfl) rfl rfl rfl ?_
  refine KL.op (R.move rfl rfl) rfl rfl rfl ?_
  refine KL.op (R.neq rfl rfl rfl) rfl rfl rfl ?_
  refine KL.op (R.move rfl rfl) rfl rfl rfl ?_
  refine KL.case (d := 35) rfl ?_ ?_
  · intro hg35
    try simp only [decide_eq_true_eq, decide_eq_false_iff_not, Bool.not_eq_true', Bool.not_eq_false', Bool.and_eq_true, Bool.or_eq_false_iff] at hg35
    refine KL.op (R.move rfl rfl) rfl rfl rfl ?_
    refine KL.op ((R.neqStr rfl rfl rfl).val (congrArg (fun b => Value.bool (!b)) ((sv_cmp0 (Opc.names_range _ (names_get (k := op.toNat) (by dsimp only [InR] at ra; omega)))).trans (decide_eq_false hnm)))) rfl rfl rfl ?_
    refine KL.op (R.pick rfl rfl rfl) rfl rfl rfl ?_
    refine KL.op (R.move rfl rfl) rfl rfl rfl ?_
    refine KL.op (R.move rfl rfl) rfl rfl rfl ?_
    refine KL.op (R.move rfl rfl) rfl rfl rfl ?_
    refine KL.call rfl rfl rfl rfl Tryd.call15 rfl rfl rfl (Name_any other rb (hT.old o0)) ?_
    rintro _ H3 ⟨rfl, ox⟩
    have zc_H3 := (ox).1
    have o0 := o0.trans ox
    refine KL.op ((R.eqlStr rfl rfl rfl).val (congrArg Value.bool ((sv_eq (Opc.names_range _ (names_get (k := op.toNat) (by dsimp only [InR] at ra; omega))) (Opc.names_range _ (names_get (k := other.toNat) (by dsimp only [InR] at rb; omega)))).trans (decide_eq_false (Opc.nm_apart ra rb (by simp_all) hnm))))) rfl rfl rfl ?_
    refine KL.op (R.pick rfl rfl rfl) rfl rfl rfl ?_
    refine KL.op (R.pick rfl rfl rfl) rfl rfl rfl ?_
    refine KL.nil ?_
    refine KQ.seq ?_
    refine KC.condF rfl ?_
    refine KC.skip ?_
    refine KQ.seq ?_
    refine KC.seq ?_
    refine KC.seq ?_
    refine KC.region ?_
    refine KL.op (R.move rfl rfl) rfl rfl rfl ?_
    refine KL.call rfl rfl rfl rfl Tryd.call17 rfl rfl rfl (Ct.isO (.tuple #[.int .u8 op, .bool true]) (Find_any _ (hT.old o0)) (by rw [ints_bstr (Opc.names_range _ (names_get (k := op.toNat) (by dsimp only [InR] at ra; omega))), Opc.find, show Opc.idx (Opc.names.getD op.toNat default) = some op.toNat from hap.2.2.1 hk]; simp only [Int.toNat_of_nonneg ra.1])) ?_
    rintro _ H4 ⟨rfl, ox⟩
    have zc_H4 := (ox).1
    have o0 := o0.trans ox
    refine KL.op (R.move rfl rfl) rfl rfl rfl ?_
    refine KL.op (R.extract rfl rfl rfl) rfl rfl rfl ?_
    refine KL.op (R.extract rfl rfl rfl) rfl rfl rfl ?_
    refine KL.op (R.assign rfl rfl) rfl rfl rfl ?_
    refine KL.op (R.assign rfl rfl) rfl rfl rfl ?_
    refine KL.nil ?_
    refine KQ.seq ?_
    refine KC.seq ?_
    refine KC.region ?_
    refine KL.op (R.move rfl rfl) rfl rfl rfl ?_
    refine KL.call rfl rfl rfl rfl Tryd.call10 rfl rfl rfl (Ct.is (.bool true) (Known_k op) (congrArg Value.bool hk)) ?_
    rintro _ _ ⟨rfl, rfl⟩
    refine KL.op (R.move rfl rfl) rfl rfl rfl ?_
    refine KL.op (R.move rfl rfl) rfl rfl rfl ?_
    refine KL.op (R.not rfl rfl) rfl rfl rfl ?_
    refine KL.op (R.move rfl rfl) rfl rfl rfl ?_
    refine KL.op (R.move rfl rfl) rfl rfl rfl ?_
    refine KL.op (R.move rfl rfl) rfl rfl rfl ?_
    refine KL.op ((R.neq rfl rfl rfl).val ((congrArg (fun b => Value.bool (!b)) (decide_eq_true (by rfl))))) rfl rfl rfl ?_
    refine KL.op (R.pick rfl rfl rfl) rfl rfl rfl ?_
    refine KL.op (R.pick rfl rfl rfl) rfl rfl rfl ?_
    refine KL.nil ?_
    refine KQ.seq ?_
    refine KC.condF rfl ?_
    refine KC.skip ?_
    refine KQ.seq ?_
    refine KC.seq ?_
    refine KC.region ?_
    refine KL.op (R.move rfl rfl) rfl rfl rfl ?_
    refine KL.call rfl rfl rfl rfl Tryd.call8 rfl rfl rfl (Sig_k op (p := p) (r := r) (ok := false) hs) ?_
    rintro _ H5 ⟨ox, va, vb, rfl, sa, sb⟩
    have zc_H5 := (ox).1
    have o0 := o0.trans ox
    have oS : Old H5 H5 := Old.refl _
    have sa0 := sa
    have sb0 := sb
    refine KL.op (R.move rfl rfl) rfl rfl rfl ?_
    refine KL.op (R.extract rfl rfl rfl) rfl rfl rfl ?_
    refine KL.op (R.extract rfl rfl rfl) rfl rfl rfl ?_
    refine KL.op (R.extract rfl rfl rfl) rfl rfl rfl ?_
    refine KL.op (R.assign rfl rfl) rfl rfl rfl ?_
    refine KL.op (R.assign rfl rfl) rfl rfl rfl ?_
    refine KL.op (R.assign rfl rfl) rfl rfl rfl ?_
    refine KL.nil ?_
    refine KQ.seq ?_
    refine KC.seq ?_
    refine KC.seq ?_
    refine KC.region ?_
    refine KL.opM (M.lit rfl Tryd.underlying27 zs5 (by decide) rfl rfl rfl) rfl rfl rfl ?_
    rintro _ H6 ⟨rfl, n6⟩
    have z6 := n6.2.1
    have o0 := o0.trans n6.1
    have sa := sa.old n6.1
    have sb := sb.old n6.1
    have oS := oS.trans n6.1
    have b6 := n6.2.2
    have wa : Own 1 (EInt .u8) 5 #[] (Array.size H5) H6 (.slice (some ⟨Array.size H5, 0, none⟩) 0 0) [] := Own.litI (l := []) n6 (Nat.le_refl _) rfl (by decide) (by intro x hx; cases hx)
    have z68 := o0.1
    refine KL.op (R.move rfl rfl) rfl rfl rfl ?_
    have lt7 := wa.lt
    refine KL.opM (M.append rfl Tryd.underlying27 inf5 rfl (by decide) rfl rfl wa (by exact (sa0.old oS)) (fun _ _ h _ => h) (by omega) (by simp; omega) (by unfold maxLen; simp; omega)) rfl rfl rfl ?_
    rintro v70 H7 ⟨w7, g7⟩
    try dsimp only at g7
    have ob7 := g7.oldB wa (by omega)
    have o0 := o0.then ob7 (by omega)
    have z7 := ob7.1
    have oS := oS.then ob7 (by omega)
    have wa := w7
    refine KL.op (R.move rfl rfl) rfl rfl rfl ?_
    have lt8 := wa.lt
    refine KL.opM (M.append rfl Tryd.underlying27 inf5 rfl (by decide) rfl rfl wa (by exact (sb0.old oS)) (fun _ _ h _ => h) (by omega) (by simp; omega) (by unfold maxLen; simp; omega)) rfl rfl rfl ?_
    rintro v72 H8 ⟨w8, g8⟩
    try dsimp only at g8
    have ob8 := g8.oldB wa (by omega)
    have o0 := o0.then ob8 (by omega)
    have z8 := ob8.1
    have oS := oS.then ob8 (by omega)
    have wa := w8
    have wa : Own 1 (EInt .u8) 5 #[] (Array.size H5) H8 v72 (p ++ r) := by simpa using wa
    refine KL.op (R.lenO rfl Tryd.underlying27 rfl wa) rfl rfl rfl ?_
    refine KL.op (R.move rfl rfl) rfl rfl rfl ?_
    refine KL.nil ?_
    refine KQ.seq ?_
    refine KC.block ?_
    refine KC.loopD (κ := Nat) [75, 76, 77, 12, 78, 79, 80, 81, 82, 83, 4, 84, 74] (fun k => [(74, .int .i64 (k : Nat))]) (fun k Hl => H8 = Hl) (fun k => (p ++ r).length - k) 0 ?_ ?_ ?_
    · exact (Sub.cons rfl (Ext.sub (Ext.refl _ _)))
    · exact rfl
    · rintro k H9 rfl
      refine KC.seq ?_
      refine KC.region ?_
      refine KL.op (R.lss rfl rfl rfl) rfl rfl rfl ?_
      refine KL.nil ?_
      refine KQ.seq ?_
      refine KC.seq ?_
      refine KC.iteL rfl ?_ ?_
      · intro hc75
        try simp only [decide_eq_true_eq, decide_eq_false_iff_not, Bool.not_eq_true', Bool.not_eq_false', Bool.and_eq_true, Bool.or_eq_false_iff] at hc75
        have hlen : (p ++ r).length ≤ 3 := by simp; omega
        have ht := hap.2.2.2.2.2.1 _ (getD_mem (l := p ++ r) (k := k) (by omega))
        refine KC.skip ?_
        refine KQ.seq ?_
        refine KC.seq ?_
        refine KC.block ?_
        refine KC.seq ?_
        refine KC.region ?_
        refine KL.op (R.indexO1 (j := k) rfl Tryd.underlying27 sz5 rfl rfl wa rfl (by omega)) rfl rfl rfl ?_
        refine KL.op (R.load rfl Tryd.underlying5 rfl rfl (wa.int k (by omega)).1) rfl rfl rfl ?_
        refine KL.op (R.assign rfl rfl) rfl rfl rfl ?_
        refine KL.nil ?_
        refine KQ.seq ?_
        refine KC.seq ?_
        refine KC.region ?_
        refine KL.op (R.move rfl rfl) rfl rfl rfl ?_
        refine KL.op (R.neq rfl rfl rfl) rfl rfl rfl ?_
        refine KL.op (R.move rfl rfl) rfl rfl rfl ?_
        refine KL.case (d := 80) rfl ?_ ?_
        · intro hg80
          try simp only [decide_eq_true_eq, decide_eq_false_iff_not, Bool.not_eq_true', Bool.not_eq_false', Bool.and_eq_true, Bool.or_eq_false_iff] at hg80
          refine KL.op (R.move rfl rfl) rfl rfl rfl ?_
          refine KL.op ((R.neq rfl rfl rfl).val ((congrArg (fun b => Value.bool (!b)) (decide_eq_true (by rcases ht with ht | ht <;> simp_all))))) rfl rfl rfl ?_
          refine KL.op (R.pick rfl rfl rfl) rfl rfl rfl ?_
          refine KL.nil ?_
          refine KQ.seq ?_
          refine KC.condF rfl ?_
          refine KC.skip ?_
          refine KQ.normBlock ?_
          refine KQ.seq ?_
          refine KC.region ?_
          refine KL.op ((R.add rfl rfl rfl (by dsimp only [InR]; omega)).val (congrArg (Value.int .i64) (show (k : Int) + 1 = ((k + 1 : Nat) : Int) by omega))) rfl rfl rfl ?_
          refine KL.op (R.move rfl rfl) rfl rfl rfl ?_
          refine KL.nil ?_
          refine KQ.again (k + 1) ?_ ?_ ?_
          · exact (Sub.cons rfl (Ext.sub (by repeat (first | exact Ext.refl _ _ | refine Ext.put rfl ?_ | refine Ext.drop rfl ?_))))
          · omega
          · exact rfl
        · intro hg80
          try simp only [decide_eq_true_eq, decide_eq_false_iff_not, Bool.not_eq_true', Bool.not_eq_false', Bool.and_eq_true, Bool.or_eq_false_iff] at hg80
          refine KL.skip rfl rfl rfl ?_
          refine KL.skip rfl rfl rfl ?_
          refine KL.op (R.pick rfl rfl rfl) rfl rfl rfl ?_
          refine KL.nil ?_
          refine KQ.seq ?_
          refine KC.condF rfl ?_
          refine KC.skip ?_
          refine KQ.normBlock ?_
          refine KQ.seq ?_
          refine KC.region ?_
          refine KL.op ((R.add rfl rfl rfl (by dsimp only [InR]; omega)).val (congrArg (Value.int .i64) (show (k : Int) + 1 = ((k + 1 : Nat) : Int) by omega))) rfl rfl rfl ?_
          refine KL.op (R.move rfl rfl) rfl rfl rfl ?_
          refine KL.nil ?_
          refine KQ.again (k + 1) ?_ ?_ ?_
          · exact (Sub.cons rfl (Ext.sub (by repeat (first | exact Ext.refl _ _ | refine Ext.put rfl ?_ | refine Ext.drop rfl ?_))))
          · omega
          · exact rfl
      · intro hc75
        try simp only [decide_eq_true_eq, decide_eq_false_iff_not, Bool.not_eq_true', Bool.not_eq_false', Bool.and_eq_true, Bool.or_eq_false_iff] at hc75
        refine KC.exit ?_
        refine KQ.exitThen ?_
        refine KQ.exitThen ?_
        refine KQ.hit ?_
        refine KQ.seq ?_
        refine KC.seq ?_
        refine KC.region ?_
        refine KL.op (R.move rfl rfl) rfl rfl rfl ?_
        refine KL.call rfl rfl rfl rfl Tryd.call13 rfl rfl rfl (Form_k op) ?_
        rintro _ _ ⟨rfl, rfl⟩
        refine KL.op (R.eql rfl rfl rfl) rfl rfl rfl ?_
        refine KL.op (R.assign rfl rfl) rfl rfl rfl ?_
        refine KL.nil ?_
        refine KQ.seq ?_
        refine KC.seq ?_
        refine KC.seq ?_
        refine KC.region ?_
        refine KL.op (R.move rfl rfl) rfl rfl rfl ?_
        refine KL.op (R.lenS rfl Tryd.underlying27 rfl sa0) rfl rfl rfl ?_
        refine KL.op ((R.gtr rfl rfl rfl).val (congrArg Value.bool (decide_eq_false (by omega)))) rfl rfl rfl ?_
        refine KL.op (R.move rfl rfl) rfl rfl rfl ?_
        refine KL.op (R.move rfl rfl) rfl rfl rfl ?_
        refine KL.op (R.lenS rfl Tryd.underlying27 rfl sb0) rfl rfl rfl ?_
        refine KL.op ((R.gtr rfl rfl rfl).val (congrArg Value.bool (decide_eq_false (by omega)))) rfl rfl rfl ?_
        refine KL.op (R.pick rfl rfl rfl) rfl rfl rfl ?_
        refine KL.op (R.move rfl rfl) rfl rfl rfl ?_
        refine KL.op (R.move rfl rfl) rfl rfl rfl ?_
        refine KL.op (R.not rfl rfl) rfl rfl rfl ?_
        refine KL.op (R.move rfl rfl) rfl rfl rfl ?_
        refine KL.op (R.move rfl rfl) rfl rfl rfl ?_
        refine KL.op (R.lenS rfl Tryd.underlying27 rfl sa0) rfl rfl rfl ?_
        refine KL.op (R.move rfl rfl) rfl rfl rfl ?_
        refine KL.op (R.lenS rfl Tryd.underlying27 rfl sb0) rfl rfl rfl ?_
        refine KL.op (R.add rfl rfl rfl (by dsimp only [InR]; omega)) rfl rfl rfl ?_
        refine KL.op ((R.gtr rfl rfl rfl).val (congrArg Value.bool (decide_eq_false (by obtain ⟨e1, e2⟩ := hap.2.2.2.2.2.2.1 rfl; subst e1; subst e2; simp)))) rfl rfl rfl ?_
        refine KL.op (R.pick rfl rfl rfl) rfl rfl rfl ?_
        refine KL.op (R.pick rfl rfl rfl) rfl rfl rfl ?_
        refine KL.op (R.move rfl rfl) rfl rfl rfl ?_
        refine KL.op (R.move rfl rfl) rfl rfl rfl ?_
        refine KL.op (R.move rfl rfl) rfl rfl rfl ?_
        refine KL.skip rfl rfl rfl ?_
        refine KL.skip rfl rfl rfl ?_
        refine KL.skip rfl rfl rfl ?_
        refine KL.op (R.pick rfl rfl rfl) rfl rfl rfl ?_
        refine KL.op (R.pick rfl rfl rfl) rfl rfl rfl ?_
        refine KL.op (R.move rfl rfl) rfl rfl rfl ?_
        refine KL.op (R.move rfl rfl) rfl rfl rfl ?_
        refine KL.op (R.move rfl rfl) rfl rfl rfl ?_
        refine KL.call rfl rfl rfl rfl Tryd.call14 rfl rfl rfl (Width_any op) ?_
        rintro _ _ ⟨rfl, rfl⟩
        refine KL.op (R.gtr rfl rfl rfl) rfl rfl rfl ?_
        refine KL.op ((R.neqB rfl Tryd.underlying4 rfl rfl).val (congrArg Value.bool (show (!(decide (Opc.form op = 6) == decide (0 < Opc.width op))) = false by rw [hap.2.2.2.2.2.2.2.2.1, beq_self_eq_true]; rfl))) rfl rfl rfl ?_
        refine KL.op (R.pick rfl rfl rfl) rfl rfl rfl ?_
        refine KL.nil ?_
        refine KQ.seq ?_
        refine KC.condF rfl ?_
        refine KC.skip ?_
        refine KQ.seq ?_
        refine KC.seq ?_
        refine KC.region ?_
        refine KL.op (R.move rfl rfl) rfl rfl rfl ?_
        refine KL.op (R.not rfl rfl) rfl rfl rfl ?_
        refine KL.op (R.move rfl rfl) rfl rfl rfl ?_
        refine KL.skip rfl rfl rfl ?_
        refine KL.skip rfl rfl rfl ?_
        refine KL.skip rfl rfl rfl ?_
        refine KL.skip rfl rfl rfl ?_
        refine KL.skip rfl rfl rfl ?_
        refine KL.skip rfl rfl rfl ?_
        refine KL.skip rfl rfl rfl ?_
        refine KL.skip rfl rfl rfl ?_
        refine KL.skip rfl rfl rfl ?_
        refine KL.skip rfl rfl rfl ?_
        refine KL.op (R.pick rfl rfl rfl) rfl rfl rfl ?_
        refine KL.op (R.assign rfl rfl) rfl rfl rfl ?_
        refine KL.nil ?_
        refine KQ.seq ?_
        refine KC.ret ?_
        refine KQ.ofRet ?_
        refine KQ.fin1 Tryd.results5 rfl ?_
        exact ⟨rfl, o0⟩
  · intro hg35
    try simp only [decide_eq_true_eq, decide_eq_false_iff_not, Bool.not_eq_true', Bool.not_eq_false', Bool.and_eq_true, Bool.or_eq_false_iff] at hg35
    refine KL.skip rfl rfl rfl ?_
    refine KL.skip rfl rfl rfl ?_
    refine KL.op (R.pick rfl rfl rfl) rfl rfl rfl ?_
    refine KL.op (R.move rfl rfl) rfl rfl rfl ?_
    refine KL.skip rfl rfl rfl ?_
    refine KL.skip rfl rfl rfl ?_
    refine KL.skip rfl rfl rfl ?_
    refine KL.skip rfl rfl rfl ?_
    refine KL.op (R.pick rfl rfl rfl) rfl rfl rfl ?_
    refine KL.op (R.pick rfl rfl rfl) rfl rfl rfl ?_
    refine KL.nil ?_
    refine KQ.seq ?_
    refine KC.condF rfl ?_
    refine KC.skip ?_
    refine KQ.seq ?_
    refine KC.seq ?_
    refine KC.seq ?_
    refine KC.region ?_
    refine KL.op (R.move rfl rfl) rfl rfl rfl ?_
    refine KL.call rfl rfl rfl rfl Tryd.call17 rfl rfl rfl (Ct.isO (.tuple #[.int .u8 op, .bool true]) (Find_any _ (hT.old o0)) (by rw [ints_bstr (Opc.names_range _ (names_get (k := op.toNat) (by dsimp only [InR] at ra; omega))), Opc.find, show Opc.idx (Opc.names.getD op.toNat default) = some op.toNat from hap.2.2.1 hk]; simp only [Int.toNat_of_nonneg ra.1])) ?_
    rintro _ H10 ⟨rfl, ox⟩
    have zc_H10 := (ox).1
    have o0 := o0.trans ox
    refine KL.op (R.move rfl rfl) rfl rfl rfl ?_
    refine KL.op (R.extract rfl rfl rfl) rfl rfl rfl ?_
    refine KL.op (R.extract rfl rfl rfl) rfl rfl rfl ?_
    refine KL.op (R.assign rfl rfl) rfl rfl rfl ?_
    refine KL.op (R.assign rfl rfl) rfl rfl rfl ?_
    refine KL.nil ?_
    refine KQ.seq ?_
    refine KC.seq ?_
    refine KC.region ?_
    refine KL.op (R.move rfl rfl) rfl rfl rfl ?_
    refine KL.call rfl rfl rfl rfl Tryd.call10 rfl rfl rfl (Ct.is (.bool true) (Known_k op) (congrArg Value.bool hk)) ?_
    rintro _ _ ⟨rfl, rfl⟩
    refine KL.op (R.move rfl rfl) rfl rfl rfl ?_
    refine KL.op (R.move rfl rfl) rfl rfl rfl ?_
    refine KL.op (R.not rfl rfl) rfl rfl rfl ?_
    refine KL.op (R.move rfl rfl) rfl rfl rfl ?_
    refine KL.op (R.move rfl rfl) rfl rfl rfl ?_
    refine KL.op (R.move rfl rfl) rfl rfl rfl ?_
    refine KL.op ((R.neq rfl rfl rfl).val ((congrArg (fun b => Value.bool (!b)) (decide_eq_true (by rfl))))) rfl rfl rfl ?_
    refine KL.op (R.pick rfl rfl rfl) rfl rfl rfl ?_
    refine KL.op (R.pick rfl rfl rfl) rfl rfl rfl ?_
    refine KL.nil ?_
    refine KQ.seq ?_
    refine KC.condF rfl ?_
    refine KC.skip ?_
    refine KQ.seq ?_
    refine KC.seq ?_
    refine KC.region ?_
    refine KL.op (R.move rfl rfl) rfl rfl rfl ?_
    refine KL.call rfl rfl rfl rfl Tryd.call8 rfl rfl rfl (Sig_k op (p := p) (r := r) (ok := false) hs) ?_
    rintro _ H11 ⟨ox, va, vb, rfl, sa, sb⟩
    have zc_H11 := (ox).1
    have o0 := o0.trans ox
    have oS : Old H11 H11 := Old.refl _
    have sa0 := sa
    have sb0 := sb
    refine KL.op (R.move rfl rfl) rfl rfl rfl ?_
    refine KL.op (R.extract rfl rfl rfl) rfl rfl rfl ?_
    refine KL.op (R.extract rfl rfl rfl) rfl rfl rfl ?_
    refine KL.op (R.extract rfl rfl rfl) rfl rfl rfl ?_
    refine KL.op (R.assign rfl rfl) rfl rfl rfl ?_
    refine KL.op (R.assign rfl rfl) rfl rfl rfl ?_
    refine KL.op (R.assign rfl rfl) rfl rfl rfl ?_
    refine KL.nil ?_
    refine KQ.seq ?_
    refine KC.seq ?_
    refine KC.seq ?_
    refine KC.region ?_
    refine KL.opM (M.lit rfl Tryd.underlying27 zs5 (by decide) rfl rfl rfl) rfl rfl rfl ?_
    rintro _ H12 ⟨rfl, n12⟩
    have z12 := n12.2.1
    have o0 := o0.trans n12.1
    have sa := sa.old n12.1
    have sb := sb.old n12.1
    have oS := oS.trans n12.1
    have b12 := n12.2.2
    have wa : Own 1 (EInt .u8) 5 #[] (Array.size H11) H12 (.slice (some ⟨Array.size H11, 0, none⟩) 0 0) [] := Own.litI (l := []) n12 (Nat.le_refl _) rfl (by decide) (by intro x hx; cases hx)
    have z68 := o0.1
    refine KL.op (R.move rfl rfl) rfl rfl rfl ?_
    have lt13 := wa.lt
    refine KL.opM (M.append rfl Tryd.underlying27 inf5 rfl (by decide) rfl rfl wa (by exact (sa0.old oS)) (fun _ _ h _ => h) (by omega) (by simp; omega) (by unfold maxLen; simp; omega)) rfl rfl rfl ?_
    rintro v70 H13 ⟨w13, g13⟩
    try dsimp only at g13
    have ob13 := g13.oldB wa (by omega)
    have o0 := o0.then ob13 (by omega)
    have z13 := ob13.1
    have oS := oS.then ob13 (by omega)
    have wa := w13
    refine KL.op (R.move rfl rfl) rfl rfl rfl ?_
    have lt14 := wa.lt
    refine KL.opM (M.append rfl Tryd.underlying27 inf5 rfl (by decide) rfl rfl wa (by exact (sb0.old oS)) (fun _ _ h _ => h) (by omega) (by simp; omega) (by unfold maxLen; simp; omega)) rfl rfl rfl ?_
    rintro v72 H14 ⟨w14, g14⟩
    try dsimp only at g14
    have ob14 := g14.oldB wa (by omega)
    have o0 := o0.then ob14 (by omega)
    have z14 := ob14.1
    have oS := oS.then ob14 (by omega)
    have wa := w14
    have wa : Own 1 (EInt .u8) 5 #[] (Array.size H11) H14 v72 (p ++ r) := by simpa using wa
    refine KL.op (R.lenO rfl Tryd.underlying27 rfl wa) rfl rfl rfl ?_
    refine KL.op (R.move rfl rfl) rfl rfl rfl ?_
    refine KL.nil ?_
    refine KQ.seq ?_
    refine KC.block ?_
    refine KC.loopD (κ := Nat) [75, 76, 77, 12, 78, 79, 80, 81, 82, 83, 4, 84, 74] (fun k => [(74, .int .i64 (k : Nat))]) (fun k Hl => H14 = Hl) (fun k => (p ++ r).length - k) 0 ?_ ?_ ?_
    · exact (Sub.cons rfl (Ext.sub (Ext.refl _ _)))
    · exact rfl
    · rintro k H15 rfl
      refine KC.seq ?_
      refine KC.region ?_
      refine KL.op (R.lss rfl rfl rfl) rfl rfl rfl ?_
      refine KL.nil ?_
      refine KQ.seq ?_
      refine KC.seq ?_
      refine KC.iteL rfl ?_ ?_
      · intro hc75
        try simp only [decide_eq_true_eq, decide_eq_false_iff_not, Bool.not_eq_true', Bool.not_eq_false', Bool.and_eq_true, Bool.or_eq_false_iff] at hc75
        have hlen : (p ++ r).length ≤ 3 := by simp; omega
        have ht := hap.2.2.2.2.2.1 _ (getD_mem (l := p ++ r) (k := k) (by omega))
        refine KC.skip ?_
        refine KQ.seq ?_
        refine KC.seq ?_
        refine KC.block ?_
        refine KC.seq ?_
        refine KC.region ?_
        refine KL.op (R.indexO1 (j := k) rfl Tryd.underlying27 sz5 rfl rfl wa rfl (by omega)) rfl rfl rfl ?_
        refine KL.op (R.load rfl Tryd.underlying5 rfl rfl (wa.int k (by omega)).1) rfl rfl rfl ?_
        refine KL.op (R.assign rfl rfl) rfl rfl rfl ?_
        refine KL.nil ?_
        refine KQ.seq ?_
        refine KC.seq ?_
        refine KC.region ?_
        refine KL.op (R.move rfl rfl) rfl rfl rfl ?_
        refine KL.op (R.neq rfl rfl rfl) rfl rfl rfl ?_
        refine KL.op (R.move rfl rfl) rfl rfl rfl ?_
        refine KL.case (d := 80) rfl ?_ ?_
        · intro hg80
          try simp only [decide_eq_true_eq, decide_eq_false_iff_not, Bool.not_eq_true', Bool.not_eq_false', Bool.and_eq_true, Bool.or_eq_false_iff] at hg80
          refine KL.op (R.move rfl rfl) rfl rfl rfl ?_
          refine KL.op ((R.neq rfl rfl rfl).val ((congrArg (fun b => Value.bool (!b)) (decide_eq_true (by rcases ht with ht | ht <;> simp_all))))) rfl rfl rfl ?_
          refine KL.op (R.pick rfl rfl rfl) rfl rfl rfl ?_
          refine KL.nil ?_
          refine KQ.seq ?_
          refine KC.condF rfl ?_
          refine KC.skip ?_
          refine KQ.normBlock ?_
          refine KQ.seq ?_
          refine KC.region ?_
          refine KL.op ((R.add rfl rfl rfl (by dsimp only [InR]; omega)).val (congrArg (Value.int .i64) (show (k : Int) + 1 = ((k + 1 : Nat) : Int) by omega))) rfl rfl rfl ?_
          refine KL.op (R.move rfl rfl) rfl rfl rfl ?_
          refine KL.nil ?_
          refine KQ.again (k + 1) ?_ ?_ ?_
          · exact (Sub.cons rfl (Ext.sub (by repeat (first | exact Ext.refl _ _ | refine Ext.put rfl ?_ | refine Ext.drop rfl ?_))))
          · omega
          · exact rfl
        · intro hg80
          try simp only [decide_eq_true_eq, decide_eq_false_iff_not, Bool.not_eq_true', Bool.not_eq_false', Bool.and_eq_true, Bool.or_eq_false_iff] at hg80
          refine KL.skip rfl rfl rfl ?_
          refine KL.skip rfl rfl rfl ?_
          refine KL.op (R.pick rfl rfl rfl) rfl rfl rfl ?_
          refine KL.nil ?_
          refine KQ.seq ?_
          refine KC.condF rfl ?_
          refine KC.skip ?_
          refine KQ.normBlock ?_
          refine KQ.seq ?_
          refine KC.region ?_
          refine KL.op ((R.add rfl rfl rfl (by dsimp only [InR]; omega)).val (congrArg (Value.int .i64) (show (k : Int) + 1 = ((k + 1 : Nat) : Int) by omega))) rfl rfl rfl ?_
          refine KL.op (R.move rfl rfl) rfl rfl rfl ?_
          refine KL.nil ?_
          refine KQ.again (k + 1) ?_ ?_ ?_
          · exact (Sub.cons rfl (Ext.sub (by repeat (first | exact Ext.refl _ _ | refine Ext.put rfl ?_ | refine Ext.drop rfl ?_))))
          · omega
          · exact rfl
      · intro hc75
        try simp only [decide_eq_true_eq, decide_eq_false_iff_not, Bool.not_eq_true', Bool.not_eq_false', Bool.and_eq_true, Bool.or_eq_false_iff] at hc75
        refine KC.exit ?_
        refine KQ.exitThen ?_
        refine KQ.exitThen ?_
        refine KQ.hit ?_
        refine KQ.seq ?_
        refine KC.seq ?_
        refine KC.region ?_
        refine KL.op (R.move rfl rfl) rfl rfl rfl ?_
        refine KL.call rfl rfl rfl rfl Tryd.call13 rfl rfl rfl (Form_k op) ?_
        rintro _ _ ⟨rfl, rfl⟩
        refine KL.op (R.eql rfl rfl rfl) rfl rfl rfl ?_
        refine KL.op (R.assign rfl rfl) rfl rfl rfl ?_
        refine KL.nil ?_
        refine KQ.seq ?_
        refine KC.seq ?_
        refine KC.seq ?_
        refine KC.region ?_
        refine KL.op (R.move rfl rfl) rfl rfl rfl ?_
        refine KL.op (R.lenS rfl Tryd.underlying27 rfl sa0) rfl rfl rfl ?_
        refine KL.op ((R.gtr rfl rfl rfl).val (congrArg Value.bool (decide_eq_false (by omega)))) rfl rfl rfl ?_
        refine KL.op (R.move rfl rfl) rfl rfl rfl ?_
        refine KL.op (R.move rfl rfl) rfl rfl rfl ?_
        refine KL.op (R.lenS rfl Tryd.underlying27 rfl sb0) rfl rfl rfl ?_
        refine KL.op ((R.gtr rfl rfl rfl).val (congrArg Value.bool (decide_eq_false (by omega)))) rfl rfl rfl ?_
        refine KL.op (R.pick rfl rfl rfl) rfl rfl rfl ?_
        refine KL.op (R.move rfl rfl) rfl rfl rfl ?_
        refine KL.op (R.move rfl rfl) rfl rfl rfl ?_
        refine KL.op (R.not rfl rfl) rfl rfl rfl ?_
        refine KL.op (R.move rfl rfl) rfl rfl rfl ?_
        refine KL.op (R.move rfl rfl) rfl rfl rfl ?_
        refine KL.op (R.lenS rfl Tryd.underlying27 rfl sa0) rfl rfl rfl ?_
        refine KL.op (R.move rfl rfl) rfl rfl rfl ?_
        refine KL.op (R.lenS rfl Tryd.underlying27 rfl sb0) rfl rfl rfl ?_
        refine KL.op (R.add rfl rfl rfl (by dsimp only [InR]; omega)) rfl rfl rfl ?_
        refine KL.op ((R.gtr rfl rfl rfl).val (congrArg Value.bool (decide_eq_false (by obtain ⟨e1, e2⟩ := hap.2.2.2.2.2.2.1 rfl; subst e1; subst e2; simp)))) rfl rfl rfl ?_
        refine KL.op (R.pick rfl rfl rfl) rfl rfl rfl ?_
        refine KL.op (R.pick rfl rfl rfl) rfl rfl rfl ?_
        refine KL.op (R.move rfl rfl) rfl rfl rfl ?_
        refine KL.op (R.move rfl rfl) rfl rfl rfl ?_
        refine KL.op (R.move rfl rfl) rfl rfl rfl ?_
        refine KL.skip rfl rfl rfl ?_
        refine KL.skip rfl rfl rfl ?_
        refine KL.skip rfl rfl rfl ?_
        refine KL.op (R.pick rfl rfl rfl) rfl rfl rfl ?_
        refine KL.op (R.pick rfl rfl rfl) rfl rfl rfl ?_
        refine KL.op (R.move rfl rfl) rfl rfl rfl ?_
        refine KL.op (R.move rfl rfl) rfl rfl rfl ?_
        refine KL.op (R.move rfl rfl) rfl rfl rfl ?_
        refine KL.call rfl rfl rfl rfl Tryd.call14 rfl rfl rfl (Width_any op) ?_
        rintro _ _ ⟨rfl, rfl⟩
        refine KL.op (R.gtr rfl rfl rfl) rfl rfl rfl ?_
        refine KL.op ((R.neqB rfl Tryd.underlying4 rfl rfl).val (congrArg Value.bool (show (!(decide (Opc.form op = 6) == decide (0 < Opc.width op))) = false by rw [hap.2.2.2.2.2.2.2.2.1, beq_self_eq_true]; rfl))) rfl rfl rfl ?_
        refine KL.op (R.pick rfl rfl rfl) rfl rfl rfl ?_
        refine KL.nil ?_
        refine KQ.seq ?_
        refine KC.condF rfl ?_
        refine KC.skip ?_
        refine KQ.seq ?_
        refine KC.seq ?_
        refine KC.region ?_
        refine KL.op (R.move rfl rfl) rfl rfl rfl ?_
        refine KL.op (R.not rfl rfl) rfl rfl rfl ?_
        refine KL.op (R.move rfl rfl) rfl rfl rfl ?_
        refine KL.skip rfl rfl rfl ?_
        refine KL.skip rfl rfl rfl ?_
        refine KL.skip rfl rfl rfl ?_
        refine KL.skip rfl rfl rfl ?_
        refine KL.skip rfl rfl rfl ?_
        refine KL.skip rfl rfl rfl ?_
        refine KL.skip rfl rfl rfl ?_
        refine KL.skip rfl rfl rfl ?_
        refine KL.skip rfl rfl rfl ?_
        refine KL.skip rfl rfl rfl ?_
        refine KL.op (R.pick rfl rfl rfl) rfl rfl rfl ?_
        refine KL.op (R.assign rfl rfl) rfl rfl rfl ?_
        refine KL.nil ?_
        refine KQ.seq ?_
        refine KC.ret ?_
        refine KQ.ofRet ?_
        refine KQ.fin1 Tryd.results5 rfl ?_
        exact ⟨rfl, o0⟩

set_option maxRecDepth 100000 in
set_option maxHeartbeats 4000000 in
theorem Apart_ff {H : Heap} (op other : Int) (ra : InR .u8 op) (rb : InR .u8 other) (hT : TabA H) (p r : List Int) (hk : Opc.known op = false) (hs : Opc.sig op = (p, r, false)) : Ct Tryd.prog 5 [.int .u8 op, .int .u8 other] H (fun u H' => u = .bool true ∧ Old H H') := by
  refine Ct.mk Tryd.func5 rfl Tryd.ntmps5 rfl ?_
  intro W0 hW0
  have o0 : Old H H := Old.refl H
  have hap := Opc.apart ra
  have hnm : (Opc.nm op = []) := by have := hap.2.1; rw [hk] at this; simpa using this.symm
  rw [hs] at hap
  have hp2 : p.length ≤ 2 := hap.2.2.2.1
  have hr2 : r.length ≤ 1 := hap.2.2.2.2.1
  refine KC.seq ?_
  refine KC.region ?_
  refine KL.op (R.assign rfl rfl) rfl rfl rfl ?_
  refine KL.nil ?_
  refine KQ.seq ?_
  refine KC.seq ?_
  refine KC.seq ?_
  refine KC.region ?_
  refine KL.call rfl rfl rfl rfl Tryd.call6 rfl rfl rfl (known_any hT) ?_
  rintro _ H1 ⟨rfl, ox⟩
  have zc_H1 := (ox).1
  have o0 := o0.trans ox
  refine KL.op (R.not rfl rfl) rfl rfl rfl ?_
  refine KL.nil ?_
  refine KQ.seq ?_
  refine KC.condF rfl ?_
  refine KC.skip ?_
  refine KQ.seq ?_
  refine KC.seq ?_
  refine KC.region ?_
  refine KL.op (R.move rfl rfl) rfl rfl rfl ?_
  refine KL.call rfl rfl rfl rfl Tryd.call15 rfl rfl rfl (Name_any op ra (hT.old o0)) ?_
  rintro _ H2 ⟨rfl, ox⟩
  have zc_H2 := (ox).1
  have o0 := o0.trans ox
  refine KL.op (R.assign rfl rfl) rfl rfl rfl ?_
  refine KL.nil ?_
  refine KQ.seq ?_
  refine KC.seq ?_
  refine KC.seq ?_
  refine KC.region ?_
  refine KL.op (R.move rfl rfl) rfl rfl rfl ?_
  refine KL.call rfl rfl rfl rfl Tryd.call10 rfl rfl rfl (Ct.is (.bool false) (Known_k op) (congrArg Value.bool hk)) ?_
  rintro _ _ ⟨rfl, rfl⟩
  refine KL.op (R.move rfl rfl) rfl rfl rfl ?_
  refine KL.skip rfl rfl rfl ?_
  refine KL.skip rfl rfl rfl ?_
  refine KL.op (R.pick rfl rfl rfl) rfl rfl rfl ?_
  refine KL.op (R.move rfl rfl) rfl rfl rfl ?_
  refine KL.op (R.move rfl rfl) rfl rfl rfl ?_
  refine KL.call rfl rfl rfl rfl Tryd.call10 rfl rfl rfl (Ct.is (.bool false) (Known_k op) (congrArg Value.bool hk)) ?_
  rintro _ _ ⟨rfl, rfl⟩
  refine KL.op (R.move rfl rfl) rfl rfl rfl ?_
  refine KL.op ((R.neqStr rfl rfl rfl).val (congrArg (fun b => Value.bool (!b)) ((sv_cmp0 (Opc.names_range _ (names_get (k := op.toNat) (by dsimp only [InR] at ra; omega)))).trans (decide_eq_true hnm)))) rfl rfl rfl ?_
  refine KL.op (R.neqB rfl Tryd.underlying4 rfl rfl) rfl rfl rfl ?_
  refine KL.op (R.pick rfl rfl rfl) rfl rfl rfl ?_
  refine KL.op (R.move rfl rfl) rfl rfl rfl ?_
  refine KL.op (R.move rfl rfl) rfl rfl rfl ?_
  refine KL.op (R.move rfl rfl) rfl rfl rfl ?_
  refine KL.op (R.neq rfl rfl rfl) rfl rfl rfl ?_
  refine KL.op (R.move rfl rfl) rfl rfl rfl ?_
  refine KL.case (d := 35) rfl ?_ ?_
  · intro hg35
    try simp only [decide_eq_true_eq, decide_eq_false_iff_not, Bool.not_eq_true', Bool.not_eq_false', Bool.and_eq_true, Bool.or_eq_false_iff] at hg35
    refine KL.op (R.move rfl rfl) rfl rfl rfl ?_
    refine KL.op ((R.neqStr rfl rfl rfl).val (congrArg (fun b => Value.bool (!b)) ((sv_cmp0 (Opc.names_range _ (names_get (k := op.toNat) (by dsimp only [InR] at ra; omega)))).trans (decide_eq_true hnm)))) rfl rfl rfl ?_
    refine KL.op (R.pick rfl rfl rfl) rfl rfl rfl ?_
    refine KL.op (R.move rfl rfl) rfl rfl rfl ?_
    refine KL.skip rfl rfl rfl ?_
    refine KL.skip rfl rfl rfl ?_
    refine KL.skip rfl rfl rfl ?_
    refine KL.skip rfl rfl rfl ?_
    refine KL.op (R.pick rfl rfl rfl) rfl rfl rfl ?_
    refine KL.op (R.pick rfl rfl rfl) rfl rfl rfl ?_
    refine KL.nil ?_
    refine KQ.seq ?_
    refine KC.condF rfl ?_
    refine KC.skip ?_
    refine KQ.seq ?_
    refine KC.seq ?_
    refine KC.seq ?_
    refine KC.region ?_
    refine KL.op (R.move rfl rfl) rfl rfl rfl ?_
    refine KL.call rfl rfl rfl rfl Tryd.call17 rfl rfl rfl (Ct.isO (.tuple #[.int .u8 0, .bool false]) (Find_any _ (hT.old o0)) (by rw [ints_bstr (Opc.names_range _ (names_get (k := op.toNat) (by dsimp only [InR] at ra; omega))), Opc.find, show Opc.names.getD op.toNat default = [] from hnm]; rfl)) ?_
    rintro _ H3 ⟨rfl, ox⟩
    have zc_H3 := (ox).1
    have o0 := o0.trans ox
    refine KL.op (R.move rfl rfl) rfl rfl rfl ?_
    refine KL.op (R.extract rfl rfl rfl) rfl rfl rfl ?_
    refine KL.op (R.extract rfl rfl rfl) rfl rfl rfl ?_
    refine KL.op (R.assign rfl rfl) rfl rfl rfl ?_
    refine KL.op (R.assign rfl rfl) rfl rfl rfl ?_
    refine KL.nil ?_
    refine KQ.seq ?_
    refine KC.seq ?_
    refine KC.region ?_
    refine KL.op (R.move rfl rfl) rfl rfl rfl ?_
    refine KL.call rfl rfl rfl rfl Tryd.call10 rfl rfl rfl (Ct.is (.bool false) (Known_k op) (congrArg Value.bool hk)) ?_
    rintro _ _ ⟨rfl, rfl⟩
    refine KL.op (R.move rfl rfl) rfl rfl rfl ?_
    refine KL.skip rfl rfl rfl ?_
    refine KL.skip rfl rfl rfl ?_
    refine KL.skip rfl rfl rfl ?_
    refine KL.skip rfl rfl rfl ?_
    refine KL.skip rfl rfl rfl ?_
    refine KL.skip rfl rfl rfl ?_
    refine KL.skip rfl rfl rfl ?_
    refine KL.op (R.pick rfl rfl rfl) rfl rfl rfl ?_
    refine KL.nil ?_
    refine KQ.seq ?_
    refine KC.condF rfl ?_
    refine KC.skip ?_
    refine KQ.seq ?_
    refine KC.seq ?_
    refine KC.region ?_
    refine KL.op (R.move rfl rfl) rfl rfl rfl ?_
    refine KL.call rfl rfl rfl rfl Tryd.call8 rfl rfl rfl (Sig_k op (p := p) (r := r) (ok := false) hs) ?_
    rintro _ H4 ⟨ox, va, vb, rfl, sa, sb⟩
    have zc_H4 := (ox).1
    have o0 := o0.trans ox
    have oS : Old H4 H4 := Old.refl _
    have sa0 := sa
    have sb0 := sb
    refine KL.op (R.move rfl rfl) rfl rfl rfl ?_
    refine KL.op (R.extract rfl rfl rfl) rfl rfl rfl ?_
    refine KL.op (R.extract rfl rfl rfl) rfl rfl rfl ?_
    refine KL.op (R.extract rfl rfl rfl) rfl rfl rfl ?_
    refine KL.op (R.assign rfl rfl) rfl rfl rfl ?_
    refine KL.op (R.assign rfl rfl) rfl rfl rfl ?_
    refine KL.op (R.assign rfl rfl) rfl rfl rfl ?_
    refine KL.nil ?_
    refine KQ.seq ?_
    refine KC.seq ?_
    refine KC.seq ?_
    refine KC.region ?_
    refine KL.opM (M.lit rfl Tryd.underlying27 zs5 (by decide) rfl rfl rfl) rfl rfl rfl ?_
    rintro _ H5 ⟨rfl, n5⟩
    have z5 := n5.2.1
    have o0 := o0.trans n5.1
    have sa := sa.old n5.1
    have sb := sb.old n5.1
    have oS := oS.trans n5.1
    have b5 := n5.2.2
    have wa : Own 1 (EInt .u8) 5 #[] (Array.size H4) H5 (.slice (some ⟨Array.size H4, 0, none⟩) 0 0) [] := Own.litI (l := []) n5 (Nat.le_refl _) rfl (by decide) (by intro x hx; cases hx)
    have z68 := o0.1
    refine KL.op (R.move rfl rfl) rfl rfl rfl ?_
    have lt6 := wa.lt
    refine KL.opM (M.append rfl Tryd.underlying27 inf5 rfl (by decide) rfl rfl wa (by exact (sa0.old oS)) (fun _ _ h _ => h) (by omega) (by simp; omega) (by unfold maxLen; simp; omega)) rfl rfl rfl ?_
    rintro v70 H6 ⟨w6, g6⟩
    try dsimp only at g6
    have ob6 := g6.oldB wa (by omega)
    have o0 := o0.then ob6 (by omega)
    have z6 := ob6.1
    have oS := oS.then ob6 (by omega)
    have wa := w6
    refine KL.op (R.move rfl rfl) rfl rfl rfl ?_
    have lt7 := wa.lt
    refine KL.opM (M.append rfl Tryd.underlying27 inf5 rfl (by decide) rfl rfl wa (by exact (sb0.old oS)) (fun _ _ h _ => h) (by omega) (by simp; omega) (by unfold maxLen; simp; omega)) rfl rfl rfl ?_
    rintro v72 H7 ⟨w7, g7⟩
    try dsimp only at g7
    have ob7 := g7.oldB wa (by omega)
    have o0 := o0.then ob7 (by omega)
    have z7 := ob7.1
    have oS := oS.then ob7 (by omega)
    have wa := w7
    have wa : Own 1 (EInt .u8) 5 #[] (Array.size H4) H7 v72 (p ++ r) := by simpa using wa
    refine KL.op (R.lenO rfl Tryd.underlying27 rfl wa) rfl rfl rfl ?_
    refine KL.op (R.move rfl rfl) rfl rfl rfl ?_
    refine KL.nil ?_
    refine KQ.seq ?_
    refine KC.block ?_
    refine KC.loopD (κ := Nat) [75, 76, 77, 12, 78, 79, 80, 81, 82, 83, 4, 84, 74] (fun k => [(74, .int .i64 (k : Nat))]) (fun k Hl => H7 = Hl) (fun k => (p ++ r).length - k) 0 ?_ ?_ ?_
    · exact (Sub.cons rfl (Ext.sub (Ext.refl _ _)))
    · exact rfl
    · rintro k H8 rfl
      refine KC.seq ?_
      refine KC.region ?_
      refine KL.op (R.lss rfl rfl rfl) rfl rfl rfl ?_
      refine KL.nil ?_
      refine KQ.seq ?_
      refine KC.seq ?_
      refine KC.iteL rfl ?_ ?_
      · intro hc75
        try simp only [decide_eq_true_eq, decide_eq_false_iff_not, Bool.not_eq_true', Bool.not_eq_false', Bool.and_eq_true, Bool.or_eq_false_iff] at hc75
        have hlen : (p ++ r).length ≤ 3 := by simp; omega
        have ht := hap.2.2.2.2.2.1 _ (getD_mem (l := p ++ r) (k := k) (by omega))
        refine KC.skip ?_
        refine KQ.seq ?_
        refine KC.seq ?_
        refine KC.block ?_
        refine KC.seq ?_
        refine KC.region ?_
        refine KL.op (R.indexO1 (j := k) rfl Tryd.underlying27 sz5 rfl rfl wa rfl (by omega)) rfl rfl rfl ?_
        refine KL.op (R.load rfl Tryd.underlying5 rfl rfl (wa.int k (by omega)).1) rfl rfl rfl ?_
        refine KL.op (R.assign rfl rfl) rfl rfl rfl ?_
        refine KL.nil ?_
        refine KQ.seq ?_
        refine KC.seq ?_
        refine KC.region ?_
        refine KL.op (R.move rfl rfl) rfl rfl rfl ?_
        refine KL.op (R.neq rfl rfl rfl) rfl rfl rfl ?_
        refine KL.op (R.move rfl rfl) rfl rfl rfl ?_
        refine KL.case (d := 80) rfl ?_ ?_
        · intro hg80
          try simp only [decide_eq_true_eq, decide_eq_false_iff_not, Bool.not_eq_true', Bool.not_eq_false', Bool.and_eq_true, Bool.or_eq_false_iff] at hg80
          refine KL.op (R.move rfl rfl) rfl rfl rfl ?_
          refine KL.op ((R.neq rfl rfl rfl).val ((congrArg (fun b => Value.bool (!b)) (decide_eq_true (by rcases ht with ht | ht <;> simp_all))))) rfl rfl rfl ?_
          refine KL.op (R.pick rfl rfl rfl) rfl rfl rfl ?_
          refine KL.nil ?_
          refine KQ.seq ?_
          refine KC.condF rfl ?_
          refine KC.skip ?_
          refine KQ.normBlock ?_
          refine KQ.seq ?_
          refine KC.region ?_
          refine KL.op ((R.add rfl rfl rfl (by dsimp only [InR]; omega)).val (congrArg (Value.int .i64) (show (k : Int) + 1 = ((k + 1 : Nat) : Int) by omega))) rfl rfl rfl ?_
          refine KL.op (R.move rfl rfl) rfl rfl rfl ?_
          refine KL.nil ?_
          refine KQ.again (k + 1) ?_ ?_ ?_
          · exact (Sub.cons rfl (Ext.sub (by repeat (first | exact Ext.refl _ _ | refine Ext.put rfl ?_ | refine Ext.drop rfl ?_))))
          · omega
          · exact rfl
        · intro hg80
          try simp only [decide_eq_true_eq, decide_eq_false_iff_not, Bool.not_eq_true', Bool.not_eq_false', Bool.and_eq_true, Bool.or_eq_false_iff] at hg80
          refine KL.skip rfl rfl rfl ?_
          refine KL.skip rfl rfl rfl ?_
          refine KL.op (R.pick rfl rfl rfl) rfl rfl rfl ?_
          refine KL.nil ?_
          refine KQ.seq ?_
          refine KC.condF rfl ?_
          refine KC.skip ?_
          refine KQ.normBlock ?_
          refine KQ.seq ?_
          refine KC.region ?_
          refine KL.op ((R.add rfl rfl rfl (by dsimp only [InR]; omega)).val (congrArg (Value.int .i64) (show (k : Int) + 1 = ((k + 1 : Nat) : Int) by omega))) rfl rfl rfl ?_
          refine KL.op (R.move rfl rfl) rfl rfl rfl ?_
          refine KL.nil ?_
          refine KQ.again (k + 1) ?_ ?_ ?_
          · exact (Sub.cons rfl (Ext.sub (by repeat (first | exact Ext.refl _ _ | refine Ext.put rfl ?_ | refine Ext.drop rfl ?_))))
          · omega
          · exact rfl
      · intro hc75
        try simp only [decide_eq_true_eq, decide_eq_false_iff_not, Bool.not_eq_true', Bool.not_eq_false', Bool.and_eq_true, Bool.or_eq_false_iff] at hc75
        refine KC.exit ?_
        refine KQ.exitThen ?_
        refine KQ.exitThen ?_
        refine KQ.hit ?_
        refine KQ.seq ?_
        refine KC.seq ?_
        refine KC.region ?_
        refine KL.op (R.move rfl rfl) rfl rfl rfl ?_
        refine KL.call rfl rfl rfl rfl Tryd.call13 rfl rfl rfl (Form_k op) ?_
        rintro _ _ ⟨rfl, rfl⟩
        refine KL.op (R.eql rfl rfl rfl) rfl rfl rfl ?_
        refine KL.op (R.assign rfl rfl) rfl rfl rfl ?_
        refine KL.nil ?_
        refine KQ.seq ?_
        refine KC.seq ?_
        refine KC.seq ?_
        refine KC.region ?_
        refine KL.op (R.move rfl rfl) rfl rfl rfl ?_
        refine KL.op (R.lenS rfl Tryd.underlying27 rfl sa0) rfl rfl rfl ?_
        refine KL.op ((R.gtr rfl rfl rfl).val (congrArg Value.bool (decide_eq_false (by omega)))) rfl rfl rfl ?_
        refine KL.op (R.move rfl rfl) rfl rfl rfl ?_
        refine KL.op (R.move rfl rfl) rfl rfl rfl ?_
        refine KL.op (R.lenS rfl Tryd.underlying27 rfl sb0) rfl rfl rfl ?_
        refine KL.op ((R.gtr rfl rfl rfl).val (congrArg Value.bool (decide_eq_false (by omega)))) rfl rfl rfl ?_
        refine KL.op (R.pick rfl rfl rfl) rfl rfl rfl ?_
        refine KL.op (R.move rfl rfl) rfl rfl rfl ?_
        refine KL.op (R.move rfl rfl) rfl rfl rfl ?_
        refine KL.op (R.not rfl rfl) rfl rfl rfl ?_
        refine KL.op (R.move rfl rfl) rfl rfl rfl ?_
        refine KL.op (R.move rfl rfl) rfl rfl rfl ?_
        refine KL.op (R.lenS rfl Tryd.underlying27 rfl sa0) rfl rfl rfl ?_
        refine KL.op (R.move rfl rfl) rfl rfl rfl ?_
        refine KL.op (R.lenS rfl Tryd.underlying27 rfl sb0) rfl rfl rfl ?_
        refine KL.op (R.add rfl rfl rfl (by dsimp only [InR]; omega)) rfl rfl rfl ?_
        refine KL.op ((R.gtr rfl rfl rfl).val (congrArg Value.bool (decide_eq_false (by obtain ⟨e1, e2⟩ := hap.2.2.2.2.2.2.1 rfl; subst e1; subst e2; simp)))) rfl rfl rfl ?_
        refine KL.op (R.pick rfl rfl rfl) rfl rfl rfl ?_
        refine KL.op (R.pick rfl rfl rfl) rfl rfl rfl ?_
        refine KL.op (R.move rfl rfl) rfl rfl rfl ?_
        refine KL.op (R.move rfl rfl) rfl rfl rfl ?_
        refine KL.op (R.move rfl rfl) rfl rfl rfl ?_
        refine KL.skip rfl rfl rfl ?_
        refine KL.skip rfl rfl rfl ?_
        refine KL.skip rfl rfl rfl ?_
        refine KL.op (R.pick rfl rfl rfl) rfl rfl rfl ?_
        refine KL.op (R.pick rfl rfl rfl) rfl rfl rfl ?_
        refine KL.op (R.move rfl rfl) rfl rfl rfl ?_
        refine KL.op (R.move rfl rfl) rfl rfl rfl ?_
        refine KL.op (R.move rfl rfl) rfl rfl rfl ?_
        refine KL.call rfl rfl rfl rfl Tryd.call14 rfl rfl rfl (Width_any op) ?_
        rintro _ _ ⟨rfl, rfl⟩
        refine KL.op (R.gtr rfl rfl rfl) rfl rfl rfl ?_
        refine KL.op ((R.neqB rfl Tryd.underlying4 rfl rfl).val (congrArg Value.bool (show (!(decide (Opc.form op = 6) == decide (0 < Opc.width op))) = false by rw [hap.2.2.2.2.2.2.2.2.1, beq_self_eq_true]; rfl))) rfl rfl rfl ?_
        refine KL.op (R.pick rfl rfl rfl) rfl rfl rfl ?_
        refine KL.nil ?_
        refine KQ.seq ?_
        refine KC.condF rfl ?_
        refine KC.skip ?_
        refine KQ.seq ?_
        refine KC.seq ?_
        refine KC.region ?_
        refine KL.op (R.move rfl rfl) rfl rfl rfl ?_
        refine KL.op (R.not rfl rfl) rfl rfl rfl ?_
        refine KL.op (R.move rfl rfl) rfl rfl rfl ?_
        refine KL.skip rfl rfl rfl ?_
        refine KL.skip rfl rfl rfl ?_
        refine KL.skip rfl rfl rfl ?_
        refine KL.skip rfl rfl rfl ?_
        refine KL.skip rfl rfl rfl ?_
        refine KL.skip rfl rfl rfl ?_
        refine KL.skip rfl rfl rfl ?_
        refine KL.skip rfl rfl rfl ?_
        refine KL.skip rfl rfl rfl ?_
        refine KL.skip rfl rfl rfl ?_
        refine KL.op (R.pick rfl rfl rfl) rfl rfl rfl ?_
        refine KL.op (R.assign rfl rfl) rfl rfl rfl ?_
        refine KL.nil ?_
        refine KQ.seq ?_
        refine KC.ret ?_
        refine KQ.ofRet ?_
        refine KQ.fin1 Tryd.results5 rfl ?_
        exact ⟨rfl, o0⟩
  · intro hg35
    try simp only [decide_eq_true_eq, decide_eq_false_iff_not, Bool.not_eq_true', Bool.not_eq_false', Bool.and_eq_true, Bool.or_eq_false_iff] at hg35
    refine KL.skip rfl rfl rfl ?_
    refine KL.skip rfl rfl rfl ?_
    refine KL.op (R.pick rfl rfl rfl) rfl rfl rfl ?_
    refine KL.op (R.move rfl rfl) rfl rfl rfl ?_
    refine KL.skip rfl rfl rfl ?_
    refine KL.skip rfl rfl rfl ?_
    refine KL.skip rfl rfl rfl ?_
    refine KL.skip rfl rfl rfl ?_
    refine KL.op (R.pick rfl rfl rfl) rfl rfl rfl ?_
    refine KL.op (R.pick rfl rfl rfl) rfl rfl rfl ?_
    refine KL.nil ?_
    refine KQ.seq ?_
    refine KC.condF rfl ?_
    refine KC.skip ?_
    refine KQ.seq ?_
    refine KC.seq ?_
    refine KC.seq ?_
    refine KC.region ?_
    refine KL.op (R.move rfl rfl) rfl rfl rfl ?_
    refine KL.call rfl rfl rfl rfl Tryd.call17 rfl rfl rfl (Ct.isO (.tuple #[.int .u8 0, .bool false]) (Find_any _ (hT.old o0)) (by rw [ints_bstr (Opc.names_range _ (names_get (k := op.toNat) (by dsimp only [InR] at ra; omega))), Opc.find, show Opc.names.getD op.toNat default = [] from hnm]; rfl)) ?_
    rintro _ H9 ⟨rfl, ox⟩
    have zc_H9 := (ox).1
    have o0 := o0.trans ox
    refine KL.op (R.move rfl rfl) rfl rfl rfl ?_
    refine KL.op (R.extract rfl rfl rfl) rfl rfl rfl ?_
    refine KL.op (R.extract rfl rfl rfl) rfl rfl rfl ?_
    refine KL.op (R.assign rfl rfl) rfl rfl rfl ?_
    refine KL.op (R.assign rfl rfl) rfl rfl rfl ?_
    refine KL.nil ?_
    refine KQ.seq ?_
    refine KC.seq ?_
    refine KC.region ?_
    refine KL.op (R.move rfl rfl) rfl rfl rfl ?_
    refine KL.call rfl rfl rfl rfl Tryd.call10 rfl rfl rfl (Ct.is (.bool false) (Known_k op) (congrArg Value.bool hk)) ?_
    rintro _ _ ⟨rfl, rfl⟩
    refine KL.op (R.move rfl rfl) rfl rfl rfl ?_
    refine KL.skip rfl rfl rfl ?_
    refine KL.skip rfl rfl rfl ?_
    refine KL.skip rfl rfl rfl ?_
    refine KL.skip rfl rfl rfl ?_
    refine KL.skip rfl rfl rfl ?_
    refine KL.skip rfl rfl rfl ?_
    refine KL.skip rfl rfl rfl ?_
    refine KL.op (R.pick rfl rfl rfl) rfl rfl rfl ?_
    refine KL.nil ?_
    refine KQ.seq ?_
    refine KC.condF rfl ?_
    refine KC.skip ?_
    refine KQ.seq ?_
    refine KC.seq ?_
    refine KC.region ?_
    refine KL.op (R.move rfl rfl) rfl rfl rfl ?_
    refine KL.call rfl rfl rfl rfl Tryd.call8 rfl rfl rfl (Sig_k op (p := p) (r := r) (ok := false) hs) ?_
    rintro _ H10 ⟨ox, va, vb, rfl, sa, sb⟩
    have zc_H10 := (ox).1
    have o0 := o0.trans ox
    have oS : Old H10 H10 := Old.refl _
    have sa0 := sa
    have sb0 := sb
    refine KL.op (R.move rfl rfl) rfl rfl rfl ?_
    refine KL.op (R.extract rfl rfl rfl) rfl rfl rfl ?_
    refine KL.op (R.extract rfl rfl rfl) rfl rfl rfl ?_
    refine KL.op (R.extract rfl rfl rfl) rfl rfl rfl ?_
    refine KL.op (R.assign rfl rfl) rfl rfl rfl ?_
    refine KL.op (R.assign rfl rfl) rfl rfl rfl ?_
    refine KL.op (R.assign rfl rfl) rfl rfl rfl ?_
    refine KL.nil ?_
    refine KQ.seq ?_
    refine KC.seq ?_
    refine KC.seq ?_
    refine KC.region ?_
    refine KL.opM (M.lit rfl Tryd.underlying27 zs5 (by decide) rfl rfl rfl) rfl rfl rfl ?_
    rintro _ H11 ⟨rfl, n11⟩
    have z11 := n11.2.1
    have o0 := o0.trans n11.1
    have sa := sa.old n11.1
    have sb := sb.old n11.1
    have oS := oS.trans n11.1
    have b11 := n11.2.2
    have wa : Own 1 (EInt .u8) 5 #[] (Array.size H10) H11 (.slice (some ⟨Array.size H10, 0, none⟩) 0 0) [] := Own.litI (l := []) n11 (Nat.le_refl _) rfl (by decide) (by intro x hx; cases hx)
    have z68 := o0.1
    refine KL.op (R.move rfl rfl) rfl rfl rfl ?_
    have lt12 := wa.lt
    refine KL.opM (M.append rfl Tryd.underlying27 inf5 rfl (by decide) rfl rfl wa (by exact (sa0.old oS)) (fun _ _ h _ => h) (by omega) (by simp; omega) (by unfold maxLen; simp; omega)) rfl rfl rfl ?_
    rintro v70 H12 ⟨w12, g12⟩
    try dsimp only at g12
    have ob12 := g12.oldB wa (by omega)
    have o0 := o0.then ob12 (by omega)
    have z12 := ob12.1
    have oS := oS.then ob12 (by omega)
    have wa := w12
    refine KL.op (R.move rfl rfl) rfl rfl rfl ?_
    have lt13 := wa.lt
    refine KL.opM (M.append rfl Tryd.underlying27 inf5 rfl (by decide) rfl rfl wa (by exact (sb0.old oS)) (fun _ _ h _ => h) (by omega) (by simp; omega) (by unfold maxLen; simp; omega)) rfl rfl rfl ?_
    rintro v72 H13 ⟨w13, g13⟩
    try dsimp only at g13
    have ob13 := g13.oldB wa (by omega)
    have o0 := o0.then ob13 (by omega)
    have z13 := ob13.1
    have oS := oS.then ob13 (by omega)
    have wa := w13
    have wa : Own 1 (EInt .u8) 5 #[] (Array.size H10) H13 v72 (p ++ r) := by simpa using wa
    refine KL.op (R.lenO rfl Tryd.underlying27 rfl wa) rfl rfl rfl ?_
    refine KL.op (R.move rfl rfl) rfl rfl rfl ?_
    refine KL.nil ?_
    refine KQ.seq ?_
    refine KC.block ?_
    refine KC.loopD (κ := Nat) [75, 76, 77, 12, 78, 79, 80, 81, 82, 83, 4, 84, 74] (fun k => [(74, .int .i64 (k : Nat))]) (fun k Hl => H13 = Hl) (fun k => (p ++ r).length - k) 0 ?_ ?_ ?_
    · exact (Sub.cons rfl (Ext.sub (Ext.refl _ _)))
    · exact rfl
    · rintro k H14 rfl
      refine KC.seq ?_
      refine KC.region ?_
      refine KL.op (R.lss rfl rfl rfl) rfl rfl rfl ?_
      refine KL.nil ?_
      refine KQ.seq ?_
      refine KC.seq ?_
      refine KC.iteL rfl ?_ ?_
      · intro hc75
        try simp only [decide_eq_true_eq, decide_eq_false_iff_not, Bool.not_eq_true', Bool.not_eq_false', Bool.and_eq_true, Bool.or_eq_false_iff] at hc75
        have hlen : (p ++ r).length ≤ 3 := by simp; omega
        have ht := hap.2.2.2.2.2.1 _ (getD_mem (l := p ++ r) (k := k) (by omega))
        refine KC.skip ?_
        refine KQ.seq ?_
        refine KC.seq ?_
        refine KC.block ?_
        refine KC.seq ?_
        refine KC.region ?_
        refine KL.op (R.indexO1 (j := k) rfl Tryd.underlying27 sz5 rfl rfl wa rfl (by omega)) rfl rfl rfl ?_
        refine KL.op (R.load rfl Tryd.underlying5 rfl rfl (wa.int k (by omega)).1) rfl rfl rfl ?_
        refine KL.op (R.assign rfl rfl) rfl rfl rfl ?_
        refine KL.nil ?_
        refine KQ.seq ?_
        refine KC.seq ?_
        refine KC.region ?_
        refine KL.op (R.move rfl rfl) rfl rfl rfl ?_
        refine KL.op (R.neq rfl rfl rfl) rfl rfl rfl ?_
        refine KL.op (R.move rfl rfl) rfl rfl rfl ?_
        refine KL.case (d := 80) rfl ?_ ?_
        · intro hg80
          try simp only [decide_eq_true_eq, decide_eq_false_iff_not, Bool.not_eq_true', Bool.not_eq_false', Bool.and_eq_true, Bool.or_eq_false_iff] at hg80
          refine KL.op (R.move rfl rfl) rfl rfl rfl ?_
          refine KL.op ((R.neq rfl rfl rfl).val ((congrArg (fun b => Value.bool (!b)) (decide_eq_true (by rcases ht with ht | ht <;> simp_all))))) rfl rfl rfl ?_
          refine KL.op (R.pick rfl rfl rfl) rfl rfl rfl ?_
          refine KL.nil ?_
          refine KQ.seq ?_
          refine KC.condF rfl ?_
          refine KC.skip ?_
          refine KQ.normBlock ?_
          refine KQ.seq ?_
          refine KC.region ?_
          refine KL.op ((R.add rfl rfl rfl (by dsimp only [InR]; omega)).val (congrArg (Value.int .i64) (show (k : Int) + 1 = ((k + 1 : Nat) : Int) by omega))) rfl rfl rfl ?_
          refine KL.op (R.move rfl rfl) rfl rfl rfl ?_
          refine KL.nil ?_
          refine KQ.again (k + 1) ?_ ?_ ?_
          · exact (Sub.cons rfl (Ext.sub (by repeat (first | exact Ext.refl _ _ | refine Ext.put rfl ?_ | refine Ext.drop rfl ?_))))
          · omega
          · exact rfl
        · intro hg80
          try simp only [decide_eq_true_eq, decide_eq_false_iff_not, Bool.not_eq_true', Bool.not_eq_false', Bool.and_eq_true, Bool.or_eq_false_iff] at hg80
          refine KL.skip rfl rfl rfl ?_
          refine KL.skip rfl rfl rfl ?_
          refine KL.op (R.pick rfl rfl rfl) rfl rfl rfl ?_
          refine KL.nil ?_
          refine KQ.seq ?_
          refine KC.condF rfl ?_
          refine KC.skip ?_
          refine KQ.normBlock ?_
          refine KQ.seq ?_
          refine KC.region ?_
          refine KL.op ((R.add rfl rfl rfl (by dsimp only [InR]; omega)).val (congrArg (Value.int .i64) (show (k : Int) + 1 = ((k + 1 : Nat) : Int) by omega))) rfl rfl rfl ?_
          refine KL.op (R.move rfl rfl) rfl rfl rfl ?_
          refine KL.nil ?_
          refine KQ.again (k + 1) ?_ ?_ ?_
          · exact (Sub.cons rfl (Ext.sub (by repeat (first | exact Ext.refl _ _ | refine Ext.put rfl ?_ | refine Ext.drop rfl ?_))))
          · omega
          · exact rfl
      · intro hc75
        try simp only [decide_eq_true_eq, decide_eq_false_iff_not, Bool.not_eq_true', Bool.not_eq_false', Bool.and_eq_true, Bool.or_eq_false_iff] at hc75
        refine KC.exit ?_
        refine KQ.exitThen ?_
        refine KQ.exitThen ?_
        refine KQ.hit ?_
        refine KQ.seq ?_
        refine KC.seq ?_
        refine KC.region ?_
        refine KL.op (R.move rfl rfl) rfl rfl rfl ?_
        refine KL.call rfl rfl rfl rfl Tryd.call13 rfl rfl rfl (Form_k op) ?_
        rintro _ _ ⟨rfl, rfl⟩
        refine KL.op (R.eql rfl rfl rfl) rfl rfl rfl ?_
        refine KL.op (R.assign rfl rfl) rfl rfl rfl ?_
        refine KL.nil ?_
        refine KQ.seq ?_
        refine KC.seq ?_
        refine KC.seq ?_
        refine KC.region ?_
        refine KL.op (R.move rfl rfl) rfl rfl rfl ?_
        refine KL.op (R.lenS rfl Tryd.underlying27 rfl sa0) rfl rfl rfl ?_
        refine KL.op ((R.gtr rfl rfl rfl).val (congrArg Value.bool (decide_eq_false (by omega)))) rfl rfl rfl ?_
        refine KL.op (R.move rfl rfl) rfl rfl rfl ?_
        refine KL.op (R.move rfl rfl) rfl rfl rfl ?_
        refine KL.op (R.lenS rfl Tryd.underlying27 rfl sb0) rfl rfl rfl ?_
        refine KL.op ((R.gtr rfl rfl rfl).val (congrArg Value.bool (decide_eq_false (by omega)))) rfl rfl rfl ?_
        refine KL.op (R.pick rfl rfl rfl) rfl rfl rfl ?_
        refine KL.op (R.move rfl rfl) rfl rfl rfl ?_
        refine KL.op (R.move rfl rfl) rfl rfl rfl ?_
        refine KL.op (R.not rfl rfl) rfl rfl rfl ?_
        refine KL.op (R.move rfl rfl) rfl rfl rfl ?_
        refine KL.op (R.move rfl rfl) rfl rfl rfl ?_
        refine KL.op (R.lenS rfl Tryd.underlying27 rfl sa0) rfl rfl rfl ?_
        refine KL.op (R.move rfl rfl) rfl rfl rfl ?_
        refine KL.op (R.lenS rfl Tryd.underlying27 rfl sb0) rfl rfl rfl ?_
        refine KL.op (R.add rfl rfl rfl (by dsimp only [InR]; omega)) rfl rfl rfl ?_
        refine KL.op ((R.gtr rfl rfl rfl).val (congrArg Value.bool (decide_eq_false (by obtain ⟨e1, e2⟩ := hap.2.2.2.2.2.2.1 rfl; subst e1; subst e2; simp)))) rfl rfl rfl ?_
        refine KL.op (R.pick rfl rfl rfl) rfl rfl rfl ?_
        refine KL.op (R.pick rfl rfl rfl) rfl rfl rfl ?_
        refine KL.op (R.move rfl rfl) rfl rfl rfl ?_
        refine KL.op (R.move rfl rfl) rfl rfl rfl ?_
        refine KL.op (R.move rfl rfl) rfl rfl rfl ?_
        refine KL.skip rfl rfl rfl ?_
        refine KL.skip rfl rfl rfl ?_
        refine KL.skip rfl rfl rfl ?_
        refine KL.op (R.pick rfl rfl rfl) rfl rfl rfl ?_
        refine KL.op (R.pick rfl rfl rfl) rfl rfl rfl ?_
        refine KL.op (R.move rfl rfl) rfl rfl rfl ?_
        refine KL.op (R.move rfl rfl) rfl rfl rfl ?_
        refine KL.op (R.move rfl rfl) rfl rfl rfl ?_
        refine KL.call rfl rfl rfl rfl Tryd.call14 rfl rfl rfl (Width_any op) ?_
        rintro _ _ ⟨rfl, rfl⟩
        refine KL.op (R.gtr rfl rfl rfl) rfl rfl rfl ?_
        refine KL.op ((R.neqB rfl Tryd.underlying4 rfl rfl).val (congrArg Value.bool (show (!(decide (Opc.form op = 6) == decide (0 < Opc.width op))) = false by rw [hap.2.2.2.2.2.2.2.2.1, beq_self_eq_true]; rfl))) rfl rfl rfl ?_
        refine KL.op (R.pick rfl rfl rfl) rfl rfl rfl ?_
        refine KL.nil ?_
        refine KQ.seq ?_
        refine KC.condF rfl ?_
        refine KC.skip ?_
        refine KQ.seq ?_
        refine KC.seq ?_
        refine KC.region ?_
        refine KL.op (R.move rfl rfl) rfl rfl rfl ?_
        refine KL.op (R.not rfl rfl) rfl rfl rfl ?_
        refine KL.op (R.move rfl rfl) rfl rfl rfl ?_
        refine KL.skip rfl rfl rfl ?_
        refine KL.skip rfl rfl rfl ?_
        refine KL.skip rfl rfl rfl ?_
        refine KL.skip rfl rfl rfl ?_
        refine KL.skip rfl rfl rfl ?_
        refine KL.skip rfl rfl rfl ?_
        refine KL.skip rfl rfl rfl ?_
        refine KL.skip rfl rfl rfl ?_
        refine KL.skip rfl rfl rfl ?_
        refine KL.skip rfl rfl rfl ?_
        refine KL.op (R.pick rfl rfl rfl) rfl rfl rfl ?_
        refine KL.op (R.assign rfl rfl) rfl rfl rfl ?_
        refine KL.nil ?_
        refine KQ.seq ?_
        refine KC.ret ?_
        refine KQ.ofRet ?_
        refine KQ.fin1 Tryd.results5 rfl ?_
        exact ⟨rfl, o0⟩

theorem OpcApart_any {H : Heap} (op other : Int) (ra : InR .u8 op) (rb : InR .u8 other) (hT : TabA H) : Ct Tryd.prog 5 [.int .u8 op, .int .u8 other] H (fun u H' => u = .bool true ∧ Old H H') := by
  have h8 := (Opc.apart ra).2.2.2.2.2.2.2.1
  cases hk : Opc.known op <;> cases ho : (Opc.sig op).2.2
  · exact Apart_ff op other ra rb hT (Opc.sig op).1 (Opc.sig op).2.1 hk (by rw [← ho])
  · exact absurd (h8 ho) (by rw [hk]; decide)
  · exact Apart_tf op other ra rb hT (Opc.sig op).1 (Opc.sig op).2.1 hk (by rw [← ho])
  · exact Apart_tt op other ra rb hT (Opc.sig op).1 (Opc.sig op).2.1 hk (by rw [← ho])
end Go.Proofs.YthgdaacbhcondaaDoor
