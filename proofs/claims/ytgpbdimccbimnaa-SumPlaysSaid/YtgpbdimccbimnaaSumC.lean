/- Functions of package sum: a hasher. No condition. -/
import Derived.Test.YtgpbdimccbimnaaShaM
namespace Go.Proofs.Ytgpbdimccbimnaa
open Go Go.RowKit
set_option linter.unusedVariables false
set_option linter.unusedSimpArgs false
set_option linter.unnecessarySimpa false
set_option maxRecDepth 100000 in
set_option maxHeartbeats 4000000 in
theorem New_any {H : Heap} : Ct Try.prog 8 [] H (fun u H' => u = .pointer (some ⟨H.size, 0, none⟩) ∧ HMn H' H.size (.slice none 0 0) [] 0 ∧ Old H H' ∧ H'.size = H.size + 1) := by
  refine Ct.mk Try.func8 rfl Try.ntmps8 rfl ?_
  intro W0 hW0
  have o0 : Old H H := Old.refl H
  refine KC.seq ?_
  refine KC.region ?_
  refine KL.op (R.assign rfl rfl) rfl rfl rfl ?_
  refine KL.nil ?_
  refine KQ.seq ?_
  refine KC.seq ?_
  refine KC.region ?_
  refine KL.op (R.buildArr (cs := #[(.int .u32 1779033703), (.int .u32 3144134277), (.int .u32 1013904242), (.int .u32 2773480762), (.int .u32 1359893119), (.int .u32 2600822924), (.int .u32 528734635), (.int .u32 1541459225)]) rfl Try.underlying47 zr47 sz46 rfl (by kernel_rfl)) rfl rfl rfl ?_
  refine KL.op (R.build (places := #[(0, 8), (8, 1), (9, 1)]) (cs := #[.int .u32 1779033703, .int .u32 3144134277, .int .u32 1013904242, .int .u32 2773480762, .int .u32 1359893119, .int .u32 2600822924, .int .u32 528734635, .int .u32 1541459225, .slice none 0 0, .int .u64 0]) rfl Try.underlying49 zr49 (fun w => by kernel_rfl) rfl (by kernel_rfl)) rfl rfl rfl ?_
  refine KL.opM (M.box (cs := (Sha.I0.map (Value.int .u32) ++ [.slice none 0 0, .int .u64 0])) rfl rfl rfl) rfl rfl rfl ?_
  rintro _ H1 ⟨rfl, n1⟩
  have z1 := n1.2.1
  have o0 := o0.trans n1.1
  have b1 := n1.2.2
  have bg := b1
  refine KL.op (R.assign rfl rfl) rfl rfl rfl ?_
  refine KL.nil ?_
  refine KQ.seq ?_
  refine KC.ret ?_
  refine KQ.ofRet ?_
  refine KQ.fin1 Try.results8 rfl ?_
  exact ⟨rfl, ⟨bg, Own.nil _ _ _ _ _ _⟩, o0, by omega⟩

set_option maxRecDepth 100000 in
set_option maxHeartbeats 4000000 in
theorem Copy_any {H : Heap} (g : Nat) (vr : Value) (m : List Int) (n : Int) (hm : HMn H g vr m n) : Ct Try.prog 10 [.pointer (some ⟨g, 0, none⟩)] H (fun u H' => u = .pointer (some ⟨H.size, 0, none⟩) ∧ (∃ vr', HMn H' H.size vr' m n ∧ (vr' = .slice none 0 0 ∨ vblock vr' < H'.size)) ∧ Old H H' ∧ H.size < H'.size) := by
  refine Ct.mk Try.func10 rfl Try.ntmps10 rfl ?_
  intro W0 hW0
  have o0 : Old H H := Old.refl H
  have bg := hm.bg
  have wr := hm.wr
  have h8 := Sha.st_length m
  have hr8 := Sha.rest_length m
  have zg := blk_lt bg
  refine KC.seq ?_
  refine KC.region ?_
  refine KL.op (R.assign rfl rfl) rfl rfl rfl ?_
  refine KL.nil ?_
  refine KQ.seq ?_
  refine KC.seq ?_
  refine KC.seq ?_
  refine KC.region ?_
  refine KL.op (R.move rfl rfl) rfl rfl rfl ?_
  refine KL.op (R.eqlP rfl Try.underlying27 rfl rfl) rfl rfl rfl ?_
  refine KL.nil ?_
  refine KQ.seq ?_
  refine KC.condF rfl ?_
  refine KC.skip ?_
  refine KQ.seq ?_
  refine KC.seq ?_
  refine KC.region ?_
  refine KL.op (R.move rfl rfl) rfl rfl rfl ?_
  refine KL.op (R.nilCheck rfl rfl) rfl rfl rfl ?_
  refine KL.op (R.loadAgg rfl Try.underlying49 rfl sz49 rfl (cells_of bg) (ten h8)) rfl rfl rfl ?_
  have zg2 := zg
  refine KL.opM (M.alloc rfl zr49 rfl) rfl rfl rfl ?_
  rintro _ H1 ⟨rfl, n1⟩
  have z1 := n1.2.1
  have o0 := o0.trans n1.1
  have b1 := n1.2.2
  have bc := b1
  refine KL.opS (S.storeAgg (us := ((Sha.st m).map (Value.int .u32) ++ [vr, .int .u64 n])) rfl sz49 rfl rfl (ten h8) (by exact one10 wr.one rfl) bc (by simp [h8])) rfl rfl ?_
  rintro H2 ⟨u2, b2⟩
  have o0 := o0.upd u2 (by omega)
  have zu2 := u2.1
  have bc := b2
  rw [Sha.put_all (by rw [ten h8]; rfl)] at bc
  have rn : Own 1 (EInt .u8) 5 #[] (H.size + 1) H2 (.slice none 0 0) ([] : List Int) := Own.nil _ _ _ _ _ _
  refine KL.nil ?_
  refine KQ.seq ?_
  refine KC.seq ?_
  refine KC.region ?_
  refine KL.op (R.move rfl rfl) rfl rfl rfl ?_
  refine KL.op (R.nilCheck rfl rfl) rfl rfl rfl ?_
  refine KL.op ((by first | exact R.fieldAddr rfl Try.underlying49 rfl rfl sz24 rfl | exact R.fieldAddrP rfl Try.underlying49 rfl rfl sz24 rfl)) rfl rfl rfl ?_
  refine KL.op (R.load rfl Try.underlying24 rfl rfl (cell_of (o0.blk bg) (nth8 h8))) rfl rfl rfl ?_
  have lt3 := rn.lt
  refine KL.opM (M.appendN rfl Try.underlying24 inf5 rfl (by decide) rfl rfl rn (by exact ((wr.old o0).sl (emptyOld _) (by omega))) (fun _ _ h _ => h) (by omega) (by simp; omega) (by unfold maxLen; simp; omega)) rfl rfl rfl ?_
  rintro vn H3 ⟨w3, g3, nx3⟩
  try dsimp only at g3 nx3
  have ob3 := g3.oldB rn (by omega)
  have o0 := o0.then ob3 (by omega)
  have z3 := ob3.1
  have bc := (g3.2 _ (blk_lt bc) (by first | exact .inr (by omega) | exact .inl rfl | exact lt3.imp id (fun h => by omega))).trans bc
  have rn := w3
  have hn := rn.lt
  refine KL.op ((by first | exact R.fieldAddr rfl Try.underlying49 rfl rfl sz24 rfl | exact R.fieldAddrP rfl Try.underlying49 rfl rfl sz24 rfl)) rfl rfl rfl ?_
  refine KL.opS (S.store rfl sz24 rfl rfl rn.cells1 rn.one bc (by rw [ten h8]; decide)) rfl rfl ?_
  rintro H4 ⟨u4, b4⟩
  have o0 := o0.upd u4 (by omega)
  have zu4 := u4.1
  have rn := rn.upd u4 (by first | exact .inl rfl | exact .inr (by omega) | exact rn.lt.imp id (fun h => by omega))
  have bc := b4
  have bc := put8 bc h8 rfl
  refine KL.nil ?_
  refine KQ.seq ?_
  refine KC.seq ?_
  refine KC.region ?_
  refine KL.op (R.assign rfl rfl) rfl rfl rfl ?_
  refine KL.nil ?_
  refine KQ.seq ?_
  refine KC.ret ?_
  refine KQ.ofRet ?_
  refine KQ.fin1 Try.results10 rfl ?_
  exact ⟨rfl, ⟨vn, ⟨bc, by simpa using rn⟩, rn.lt.imp id (fun h => h.2)⟩, o0, by omega⟩


theorem take_succ_flat {ls : List (List Int)} {k : Nat} (h : k < ls.length) : (ls.take (k + 1)).flatten = (ls.take k).flatten ++ ls.getD k default := by
  rw [List.take_succ_eq_append_getElem h, List.flatten_append, List.getD_eq_getElem?_getD, List.getElem?_eq_getElem h]; simp
theorem take_flat_le {ls : List (List Int)} {k : Nat} (h : k < ls.length) : ((ls.take k).flatten).length + (ls.getD k default).length ≤ (ls.flatten).length := by
  have e : ls.flatten = (ls.take (k + 1)).flatten ++ (ls.drop (k + 1)).flatten := by rw [← List.flatten_append, List.take_append_drop]
  rw [e, take_succ_flat h]; simp
theorem take_drop_take {b : List Int} {j q : Nat} : b.take j ++ (b.drop j).take q = b.take (j + q) := by rw [List.take_add]

set_option maxRecDepth 100000 in
set_option maxHeartbeats 4000000 in
theorem Write_any {H : Heap} (g : Nat) (vr : Value) (m : List Int) (vl : Value) (ls : List (List Int)) (hm : HMn H g vr m m.length) (hs : ∀ H2, Fr g vr H H2 → Sl 1 (EStab g vr H) H2 vl ls) (hlen : m.length + (ls.flatten).length < 1099511627776) : Ct Try.prog 9 [.pointer (some ⟨g, 0, none⟩), vl] H (fun u H' => u = .tuple #[] ∧ ∃ vr', HMn H' g vr' (m ++ ls.flatten) ((m ++ ls.flatten).length : Nat) ∧ Fr g vr H H' ∧ Nx H vr vr') := by
  refine Ct.mk Try.func9 rfl Try.ntmps9 rfl ?_
  intro W0 hW0
  have o0 : OldB 0 H H := OldB.refl _ H
  have hll := (hs _ (Fr.refl _ _ _)).len
  have fr : Fr g vr H H := Fr.refl _ _ _
  refine KC.seq ?_
  refine KC.seq ?_
  refine KC.region ?_
  refine KL.op (R.move rfl rfl) rfl rfl rfl ?_
  refine KL.op (R.eqlP rfl Try.underlying27 rfl rfl) rfl rfl rfl ?_
  refine KL.nil ?_
  refine KQ.seq ?_
  refine KC.condF rfl ?_
  refine KC.skip ?_
  refine KQ.seq ?_
  refine KC.seq ?_
  refine KC.region ?_
  refine KL.op (R.move rfl rfl) rfl rfl rfl ?_
  refine KL.op ((by first | exact R.lenS rfl Try.underlying50 rfl (hs _ (Fr.refl _ _ _)))) rfl rfl rfl ?_
  refine KL.op (R.move rfl rfl) rfl rfl rfl ?_
  refine KL.nil ?_
  refine KQ.seq ?_
  refine KC.block ?_
  refine KC.loopD (κ := Nat × Value) [12, 13, 14, 5, 15, 16, 17, 18, 19, 20, 21, 22, 23, 24, 25, 26, 27, 28, 29, 30, 31, 32, 33, 34, 35, 36, 6, 37, 38, 39, 40, 41, 42, 43, 44, 45, 46, 47, 48, 49, 50, 51, 52, 53, 54, 55, 56, 57, 58, 59, 60, 61, 62, 63, 64, 65, 66, 67, 68, 69, 70, 71, 11] (fun k => [(11, .int .i64 (k.1 : Nat))]) (fun k Hl => k.1 ≤ ls.length ∧ HMn Hl g k.2 (m ++ (ls.take k.1).flatten) ((m.length + ((ls.take k.1).flatten).length : Nat) : Int) ∧ Fr g vr H Hl ∧ Nx H vr k.2) (fun k => ls.length - k.1) (0, vr) ?_ ?_ ?_
  · exact (Sub.cons rfl (Ext.sub (Ext.refl _ _)))
  · exact ⟨Nat.zero_le _, by simpa using hm, Fr.refl _ _ _, Nx.refl _ _⟩
  · rintro ⟨k, vc⟩ H1 ⟨hk, hmk, fr, nx⟩
    dsimp only at hk hmk nx
    have zfr := fr.1
    have o0 : OldB 0 H H1 := ⟨fr.1, fun k hk => absurd hk (Nat.not_lt_zero _)⟩
    have bg := hmk.bg
    have wr := hmk.wr
    have zg := blk_lt bg
    have h8 := Sha.st_length (m ++ (ls.take k).flatten)
    refine KC.seq ?_
    refine KC.region ?_
    refine KL.op (R.lss rfl rfl rfl) rfl rfl rfl ?_
    refine KL.nil ?_
    refine KQ.seq ?_
    refine KC.seq ?_
    refine KC.iteL rfl ?_ ?_
    · intro hc12
      try simp only [decide_eq_true_eq, decide_eq_false_iff_not, Bool.not_eq_true', Bool.not_eq_false', Bool.and_eq_true, Bool.or_eq_false_iff] at hc12
      obtain ⟨cs0, e1, e2, vb, rfl, hv⟩ := (hs _ fr).at k (by omega)
      have hu := e2 0 _ rfl
      obtain ⟨mk, emk⟩ : ∃ x, x = m ++ (ls.take k).flatten := ⟨_, rfl⟩
      obtain ⟨b, hb0⟩ : ∃ x, x = ls.getD k default := ⟨_, rfl⟩
      have hbl := take_flat_le (ls := ls) (k := k) (by omega)
      have hmkl : mk.length = m.length + ((ls.take k).flatten).length := by rw [emk, List.length_append]
      rw [← hb0] at hv hbl
      rw [← emk, ← hmkl] at hmk bg
      rw [← emk] at wr h8
      refine KC.skip ?_
      refine KQ.seq ?_
      refine KC.seq ?_
      refine KC.block ?_
      refine KC.seq ?_
      refine KC.region ?_
      refine KL.op (R.index1 (j := k) rfl Try.underlying50 sz24 rfl rfl (hs _ fr) rfl (by omega)) rfl rfl rfl ?_
      refine KL.op (R.load rfl Try.underlying24 rfl rfl (by simpa [Addr.add] using hu)) rfl rfl rfl ?_
      refine KL.op (R.assign rfl rfl) rfl rfl rfl ?_
      refine KL.nil ?_
      refine KQ.seq ?_
      refine KC.seq ?_
      refine KC.region ?_
      refine KL.op (R.move rfl rfl) rfl rfl rfl ?_
      refine KL.op (R.nilCheck rfl rfl) rfl rfl rfl ?_
      refine KL.op ((by first | exact R.fieldAddr rfl Try.underlying49 rfl rfl sz36 rfl | exact R.fieldAddrP rfl Try.underlying49 rfl rfl sz36 rfl)) rfl rfl rfl ?_
      refine KL.op (R.load rfl Try.underlying36 rfl rfl (cell_of bg (nth9 h8))) rfl rfl rfl ?_
      refine KL.op (R.move rfl rfl) rfl rfl rfl ?_
      refine KL.op (R.lenS rfl Try.underlying24 rfl (hv _ fr)) rfl rfl rfl ?_
      refine KL.op (R.convI rfl Try.underlying3 Try.underlying36 rfl (by dsimp only [InR]; omega)) rfl rfl rfl ?_
      refine KL.op ((R.add rfl rfl rfl (by dsimp only [InR]; omega)).val (congrArg (Value.int .u64) (show (mk.length : Int) + b.length = ((mk.length + b.length : Nat) : Int) by omega))) rfl rfl rfl ?_
      refine KL.op (R.nilCheck rfl rfl) rfl rfl rfl ?_
      refine KL.op ((by first | exact R.fieldAddr rfl Try.underlying49 rfl rfl sz36 rfl | exact R.fieldAddrP rfl Try.underlying49 rfl rfl sz36 rfl)) rfl rfl rfl ?_
      refine KL.opS (S.store rfl sz36 rfl rfl rfl rfl bg (by rw [ten h8]; decide)) rfl rfl ?_
      rintro H2 ⟨u2, b2⟩
      have o0 := o0.trans (OldB.upd u2 (by omega))
      have zu2 := u2.1
      have wr := wr.upd u2 (by first | exact .inl rfl | exact .inr (by omega) | exact wr.lt.imp id (fun h => by omega))
      have fr := (by first | exact fr.upd u2 | exact fr.updN u2 (by omega))
      have bg := b2
      have bg := put9 bg h8 rfl
      refine KL.nil ?_
      refine KQ.seq ?_
      refine KC.block ?_
      refine KC.loopD (κ := Nat × Value × Value) [25, 26, 27, 28, 29, 30, 31, 32, 33, 34, 35, 36, 6, 37, 38, 39, 40, 41, 42, 43, 44, 45, 46, 47, 48, 49, 50, 5, 51, 52, 53, 54, 55, 56, 57, 58, 59, 60, 61, 62, 63, 64, 65, 66, 67, 68, 69, 70] (fun k => [(5, k.2.1)]) (fun k Hl => k.1 ≤ b.length ∧ (∀ H2, Fr g vr H H2 → Sl 1 (EInt .u8) H2 k.2.1 (b.drop k.1)) ∧ HMn Hl g k.2.2 (mk ++ b.take k.1) ((mk.length + b.length : Nat) : Int) ∧ Fr g vr H Hl ∧ Nx H vr k.2.2) (fun k => b.length - k.1) (0, vb, vc) ?_ ?_ ?_
      · exact (Sub.cons rfl (Ext.sub (Ext.refl _ _)))
      · exact ⟨Nat.zero_le _, by simpa using hv, ⟨by simpa using bg, by simpa using wr⟩, fr, nx⟩
      · rintro ⟨j, vb, vc⟩ H3 ⟨hj, hv, hm2, fr, nx⟩
        dsimp only at hj hv hm2 nx
        have zfr := fr.1
        have o0 : OldB 0 H H3 := ⟨fr.1, fun k hk => absurd hk (Nat.not_lt_zero _)⟩
        have bg := hm2.bg
        have wr := hm2.wr
        have zg := blk_lt bg
        obtain ⟨tx, etx⟩ : ∃ x, x = mk ++ b.take j := ⟨_, rfl⟩
        have htl : tx.length = mk.length + j := by rw [etx, List.length_append, List.length_take]; omega
        have hdl : (b.drop j).length = b.length - j := List.length_drop
        rw [← etx] at hm2 bg wr
        have h8 := Sha.st_length tx
        have hr8 := Sha.rest_length tx
        refine KC.seq ?_
        refine KC.seq ?_
        refine KC.region ?_
        refine KL.op (R.move rfl rfl) rfl rfl rfl ?_
        refine KL.op (R.lenS rfl Try.underlying24 rfl (hv _ fr)) rfl rfl rfl ?_
        refine KL.op (R.gtr rfl rfl rfl) rfl rfl rfl ?_
        refine KL.nil ?_
        refine KQ.seq ?_
        refine KC.iteL rfl ?_ ?_
        · intro hc27
          try simp only [decide_eq_true_eq, decide_eq_false_iff_not, Bool.not_eq_true', Bool.not_eq_false', Bool.and_eq_true, Bool.or_eq_false_iff] at hc27
          obtain ⟨q, eq⟩ : ∃ q : Nat, q = min (b.length - j) (64 - tx.length % 64) := ⟨_, rfl⟩
          obtain ⟨c, ec⟩ : ∃ x, x = (b.drop j).take q := ⟨_, rfl⟩
          have hcl : c.length = q := by rw [ec, List.length_take]; omega
          refine KC.skip ?_
          refine KQ.seq ?_
          refine KC.block ?_
          refine KC.seq ?_
          refine KC.region ?_
          refine KL.op (R.move rfl rfl) rfl rfl rfl ?_
          refine KL.op (R.lenS rfl Try.underlying24 rfl (hv _ fr)) rfl rfl rfl ?_
          refine KL.op (R.move rfl rfl) rfl rfl rfl ?_
          refine KL.op (R.nilCheck rfl rfl) rfl rfl rfl ?_
          refine KL.op ((by first | exact R.fieldAddr rfl Try.underlying49 rfl rfl sz24 rfl | exact R.fieldAddrP rfl Try.underlying49 rfl rfl sz24 rfl)) rfl rfl rfl ?_
          refine KL.op (R.load rfl Try.underlying24 rfl rfl (cell_of bg (nth8 h8))) rfl rfl rfl ?_
          refine KL.op (R.lenO rfl Try.underlying24 rfl wr) rfl rfl rfl ?_
          refine KL.op (R.sub rfl rfl rfl (by dsimp only [InR]; omega)) rfl rfl rfl ?_
          refine KL.op ((R.min rfl rfl rfl).val (congrArg (Value.int .i64) (show min ((b.drop j).length : Int) (64 - ((Sha.rest tx).length : Int)) = (q : Int) by omega))) rfl rfl rfl ?_
          refine KL.op (R.assign rfl rfl) rfl rfl rfl ?_
          refine KL.nil ?_
          refine KQ.seq ?_
          refine KC.seq ?_
          refine KC.text (clOf [(4, 1), (8, 2), (11, 2)]) (fun _ _ => True) (by kernel_rfl) (by kernel_rfl) (fun _ => trivial) ?_
          refine KP.op rfl (fun Hg hg => R.move rfl rfl) rfl rfl rfl ?_
          refine KP.op rfl (fun Hg hg => R.move rfl rfl) rfl rfl rfl ?_
          refine KP.op rfl (fun Hg hg => R.nilCheck rfl rfl) rfl rfl rfl ?_
          refine KP.op rfl (fun Hg hg => (by first | exact R.fieldAddr rfl Try.underlying49 rfl rfl sz24 rfl | exact R.fieldAddrP rfl Try.underlying49 rfl rfl sz24 rfl)) rfl rfl rfl ?_
          refine KP.now rfl (R.load rfl Try.underlying24 rfl rfl (cell_of bg (nth8 h8))) rfl rfl rfl ?_
          refine KP.op rfl (fun Hg hg => R.move rfl rfl) rfl rfl rfl ?_
          refine KP.op rfl (fun Hg hg => R.move rfl rfl) rfl rfl rfl ?_
          refine KP.op rfl (fun Hg hg => R.slice (i := 0) (j := q) rfl Try.underlying24 sz5 rfl (hv _ fr) bnd.no (bnd.mk rfl (by omega)) (by omega) (by omega)) rfl rfl rfl ?_
          have lt4 := wr.lt
          refine KP.opM rfl (M.appendN rfl Try.underlying24 inf5 rfl (by decide) rfl rfl wr (by exact ((hv _ fr).sub (lo := 0) (hi := q) (by omega) (by omega))) (fun _ _ h _ => h) (by omega) (by simp; omega) (by unfold maxLen; simp; omega)) rfl rfl rfl (fun _ _ _ _ _ _ => trivial) ?_
          rintro vn H4 ⟨w4, g4, nx4⟩
          try dsimp only at g4 nx4
          have ob4 := g4.oldB wr (by omega)
          have o0 := o0.trans (ob4.mono (by omega))
          have z4 := ob4.1
          have bg := (g4.2 _ (blk_lt bg) (by first | exact .inr (by omega) | exact .inl rfl | exact lt4.imp id (fun h => by omega))).trans bg
          have fr := (by first | exact fr.grownN g4 (lt4.imp id (fun h => by omega)) | exact fr.grown nx g4)
          have wr := w4
          have nx := nx.trans zfr nx4
          rw [List.drop_zero, ← ec] at wr
          refine KP.op rfl (fun Hg hg => R.nilCheck rfl rfl) rfl rfl rfl ?_
          refine KP.op rfl (fun Hg hg => (by first | exact R.fieldAddr rfl Try.underlying49 rfl rfl sz24 rfl | exact R.fieldAddrP rfl Try.underlying49 rfl rfl sz24 rfl)) rfl rfl rfl ?_
          refine KP.opS rfl (S.store rfl sz24 rfl rfl wr.cells1 wr.one bg (by rw [ten h8]; decide)) rfl rfl (fun _ _ _ _ _ => trivial) ?_
          rintro H5 ⟨u5, b5⟩
          have o0 := o0.trans (OldB.upd u5 (by omega))
          have zu5 := u5.1
          have wr := wr.upd u5 (by first | exact .inl rfl | exact .inr (by omega) | exact wr.lt.imp id (fun h => by omega))
          have fr := (by first | exact fr.upd u5 | exact fr.updN u5 (by omega))
          have bg := b5
          have bg := put8 bg h8 rfl
          have zfr := fr.1
          refine KP.nil ?_
          refine KQ.seq ?_
          refine KC.seq ?_
          refine KC.region ?_
          refine KL.op (R.move rfl rfl) rfl rfl rfl ?_
          refine KL.op (R.move rfl rfl) rfl rfl rfl ?_
          refine KL.op (R.slice (i := q) (j := (b.drop j).length) rfl Try.underlying24 sz5 rfl (hv _ fr) (bnd.mk rfl (by omega)) bnd.no (by omega) (by omega)) rfl rfl rfl ?_
          refine KL.op (R.assign rfl rfl) rfl rfl rfl ?_
          refine KL.nil ?_
          refine KQ.seq ?_
          refine KC.seq ?_
          refine KC.region ?_
          refine KL.op (R.move rfl rfl) rfl rfl rfl ?_
          refine KL.op (R.nilCheck rfl rfl) rfl rfl rfl ?_
          refine KL.op ((by first | exact R.fieldAddr rfl Try.underlying49 rfl rfl sz24 rfl | exact R.fieldAddrP rfl Try.underlying49 rfl rfl sz24 rfl)) rfl rfl rfl ?_
          refine KL.op (R.load rfl Try.underlying24 rfl rfl (cell_of bg (nth8 h8))) rfl rfl rfl ?_
          refine KL.op (R.lenO rfl Try.underlying24 rfl wr) rfl rfl rfl ?_
          refine KL.op (R.eql rfl rfl rfl) rfl rfl rfl ?_
          refine KL.nil ?_
          refine KQ.seq ?_
          refine KC.iteL rfl ?_ ?_
          · intro hc56
            try simp only [decide_eq_true_eq, decide_eq_false_iff_not, Bool.not_eq_true', Bool.not_eq_false', Bool.and_eq_true, Bool.or_eq_false_iff] at hc56
            have hwl : (Sha.rest tx ++ c).length = 64 := (by omega)
            have hfull := Sha.st_full (m := tx) (c := c) (by rw [← List.length_append]; exact hwl) (by intro e; subst e; simp at hcl; omega)
            refine KC.seq ?_
            refine KC.region ?_
            refine KL.op (R.move rfl rfl) rfl rfl rfl ?_
            refine KL.op (R.move rfl rfl) rfl rfl rfl ?_
            refine KL.op (R.nilCheck rfl rfl) rfl rfl rfl ?_
            refine KL.op ((by first | exact R.fieldAddr rfl Try.underlying49 rfl rfl sz24 rfl | exact R.fieldAddrP rfl Try.underlying49 rfl rfl sz24 rfl)) rfl rfl rfl ?_
            refine KL.op (R.load rfl Try.underlying24 rfl rfl (cell_of bg (nth8 h8))) rfl rfl rfl ?_
            refine KL.call rfl rfl rfl rfl Try.call16 rfl rfl rfl (block_any _ _ _ _ _ bg h8 (Sha.st_range tx) (wr.sl (emptyOld _) (by omega)) hwl) ?_
            rintro _ H6 ⟨rfl, bg2, f2⟩
            have bg := bg2
            have wr := wr.frN f2 (by omega)
            have fr := fr.transN f2
            have zfr := fr.1
            have o0 : OldB 0 H H6 := ⟨fr.1, fun k hk => absurd hk (Nat.not_lt_zero _)⟩
            rw [← hfull.1] at bg
            have h8 := Sha.st_length (tx ++ c)
            refine KL.nil ?_
            refine KQ.seq ?_
            refine KC.region ?_
            refine KL.op (R.move rfl rfl) rfl rfl rfl ?_
            refine KL.op (R.move rfl rfl) rfl rfl rfl ?_
            refine KL.op (R.nilCheck rfl rfl) rfl rfl rfl ?_
            refine KL.op ((by first | exact R.fieldAddr rfl Try.underlying49 rfl rfl sz24 rfl | exact R.fieldAddrP rfl Try.underlying49 rfl rfl sz24 rfl)) rfl rfl rfl ?_
            refine KL.op (R.load rfl Try.underlying24 rfl rfl (cell_of bg (nth8 h8))) rfl rfl rfl ?_
            refine KL.op (R.sliceTo (j := 0) rfl Try.underlying24 sz5 rfl rfl wr (by omega) (by omega)) rfl rfl rfl ?_
            refine KL.op (R.nilCheck rfl rfl) rfl rfl rfl ?_
            refine KL.op ((by first | exact R.fieldAddr rfl Try.underlying49 rfl rfl sz24 rfl | exact R.fieldAddrP rfl Try.underlying49 rfl rfl sz24 rfl)) rfl rfl rfl ?_
            refine KL.opS (S.store rfl sz24 rfl rfl (by obtain ⟨a, c2, hv2, _⟩ := wr.val; subst hv2; rfl) (by obtain ⟨a, c2, hv2, _⟩ := wr.val; subst hv2; rfl) bg (by rw [ten h8]; decide)) rfl rfl ?_
            rintro H7 ⟨u7, b7⟩
            have o0 := o0.trans (OldB.upd u7 (by omega))
            have zu7 := u7.1
            have wr := wr.upd u7 (by first | exact .inl rfl | exact .inr (by omega) | exact wr.lt.imp id (fun h => by omega))
            have fr := (by first | exact fr.upd u7 | exact fr.updN u7 (by omega))
            have bg := b7
            have bg := put8 bg h8 rfl
            obtain ⟨wr, hvb⟩ := wr.to (j := 0) (by omega)
            rw [List.take_zero, ← hfull.2] at wr
            have nx := nx.to
            rw [ec] at bg wr
            refine KL.nil ?_
            refine KQ.normBlock ?_
            refine KQ.again ((j + q, subV 1 vb q (b.drop j).length, (toV vn 0))) ?_ ?_ ?_
            · exact (Sub.cons rfl (Ext.sub (by repeat (first | exact Ext.refl _ _ | refine Ext.put rfl ?_ | refine Ext.drop rfl ?_))))
            · show b.length - (j + q) < b.length - j; omega
            · exact ⟨by show j + q ≤ _; omega, fun H2 f2 => by dsimp only; rw [← List.drop_drop]; have := (hv H2 f2).sub (lo := q) (hi := (b.drop j).length) (by omega) (Nat.le_refl _); rwa [List.take_length] at this, ⟨by dsimp only; rw [← take_drop_take, ← List.append_assoc, ← etx]; exact bg, by dsimp only; rw [← take_drop_take, ← List.append_assoc, ← etx]; exact wr⟩, fr, nx⟩
          · intro hc56
            try simp only [decide_eq_true_eq, decide_eq_false_iff_not, Bool.not_eq_true', Bool.not_eq_false', Bool.and_eq_true, Bool.or_eq_false_iff] at hc56
            have hless := Sha.st_less (m := tx) (c := c) (by rw [List.length_append] at hc56; omega)
            rw [← hless.2] at wr
            rw [← hless.1] at bg
            rw [ec] at bg wr
            refine KC.skip ?_
            refine KQ.normBlock ?_
            refine KQ.again ((j + q, subV 1 vb q (b.drop j).length, vn)) ?_ ?_ ?_
            · exact (Sub.cons rfl (Ext.sub (by repeat (first | exact Ext.refl _ _ | refine Ext.put rfl ?_ | refine Ext.drop rfl ?_))))
            · show b.length - (j + q) < b.length - j; omega
            · exact ⟨by show j + q ≤ _; omega, fun H2 f2 => by dsimp only; rw [← List.drop_drop]; have := (hv H2 f2).sub (lo := q) (hi := (b.drop j).length) (by omega) (Nat.le_refl _); rwa [List.take_length] at this, ⟨by dsimp only; rw [← take_drop_take, ← List.append_assoc, ← etx]; exact bg, by dsimp only; rw [← take_drop_take, ← List.append_assoc, ← etx]; exact wr⟩, fr, nx⟩
        · intro hc27
          try simp only [decide_eq_true_eq, decide_eq_false_iff_not, Bool.not_eq_true', Bool.not_eq_false', Bool.and_eq_true, Bool.or_eq_false_iff] at hc27
          have ej : j = b.length := (by omega)
          subst ej
          rw [etx, List.take_length] at hm2
          obtain ⟨vc2, evc⟩ : ∃ x, x = vc := ⟨_, rfl⟩
          subst evc
          refine KC.exit ?_
          refine KQ.exitThen ?_
          refine KQ.exitThen ?_
          refine KQ.hit ?_
          refine KQ.normBlock ?_
          refine KQ.seq ?_
          refine KC.region ?_
          refine KL.op (R.add rfl rfl rfl (by dsimp only [InR]; omega)) rfl rfl rfl ?_
          refine KL.op (R.move rfl rfl) rfl rfl rfl ?_
          refine KL.nil ?_
          refine KQ.again ((k + 1, vc2)) ?_ ?_ ?_
          · exact (Sub.cons rfl (Ext.sub (by repeat (first | exact Ext.refl _ _ | refine Ext.put rfl ?_ | refine Ext.drop rfl ?_))))
          · show ls.length - (k + 1) < ls.length - k; omega
          · exact ⟨by show k + 1 ≤ _; omega, by have e := take_succ_flat (ls := ls) (k := k) (by omega); dsimp only; rw [e, ← List.append_assoc, ← emk, ← hb0, List.length_append, show m.length + (((ls.take k).flatten).length + b.length) = mk.length + b.length by omega]; exact hm2, fr, nx⟩
    · intro hc12
      try simp only [decide_eq_true_eq, decide_eq_false_iff_not, Bool.not_eq_true', Bool.not_eq_false', Bool.and_eq_true, Bool.or_eq_false_iff] at hc12
      have ek : k = ls.length := (by omega)
      subst ek
      rw [List.take_length] at hmk
      refine KC.exit ?_
      refine KQ.exitThen ?_
      refine KQ.exitThen ?_
      refine KQ.hit ?_
      refine KQ.fin0 Try.results9 ?_
      exact ⟨rfl, vc, by rw [List.length_append]; exact hmk, fr, nx⟩

end Go.Proofs.Ytgpbdimccbimnaa
