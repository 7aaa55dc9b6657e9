/- The readers of package instr. No condition. -/
import Derived.Test.YtnjodpgahbpiaaaInsP
import Derived.Test.YtnjodpgahbpiaaaKPan
import Derived.Test.YtnjodpgahbpiaaaKScope
import Derived.Test.YtnjodpgahbpiaaaKStr
namespace Go.Proofs.Ytnjodpgahbpiaaa
open Go Go.RowKit
set_option linter.unusedVariables false
set_option linter.unusedSimpArgs false
set_option linter.unnecessarySimpa false

/-- why there is none, as it is thrown -/
def failV (e : Int) : Value := .iface 77 (.agg #[.int .i64 e])
/-- a reader in memory: its bytes, and where it stands -/
structure RD (H : Heap) (g : Nat) (v : Value) (l : List Int) (i : Nat) : Prop where
  b : H[g]? = some (.cells [v, .int .i64 (i : Nat)].toArray 80 (0, 0))
  s : ∀ H2, OldB g H H2 → Sl 1 (EInt .u8) H2 v l
  le : i ≤ l.length
section
variable {H H' : Heap} {g : Nat} {v : Value} {l : List Int} {i : Nat}
theorem RD.sl (h : RD H g v l i) : Sl 1 (EInt .u8) H v l := h.s H (OldB.refl _ _)
theorem RD.lt (h : RD H g v l i) : g < H.size := blk_lt h.b
theorem RD.next {i' : Nat} (h : RD H g v l i) (fr : Fr g (.slice none 0 0) H H') (hb : H'[g]? = some (.cells [v, .int .i64 (i' : Nat)].toArray 80 (0, 0))) (hle : i' ≤ l.length) : RD H' g v l i' :=
  ⟨hb, fun H2 k => h.s H2 ((fr.low (Nat.le_of_lt h.lt) (Nat.le_refl _)).trans k), hle⟩
theorem RD.old (h : RD H g v l i) (o : Old H H') : RD H' g v l i := h.next (Fr.ofOld o) (o.blk h.b) h.le
theorem RD.updT {g2 : Nat} (h : RD H g v l i) (u : Upd g2 H H') (hne : g < g2) : RD H' g v l i :=
  ⟨(u.2 g (by omega)).trans h.b, fun H2 k => h.s H2 ((OldB.upd u (by omega)).trans k), h.le⟩
theorem RD.grownT {x : Value} (h : RD H g v l i) (gr : Grown x H H') (hlt : x = .slice none 0 0 ∨ g < vblock x) : RD H' g v l i :=
  ⟨(gr.2 g h.lt (hlt.imp id (fun k => by omega))).trans h.b, fun H2 k => h.s H2 (OldB.trans (⟨gr.1, fun j hj => gr.2 j (by have := h.lt; omega) (hlt.imp id (fun k => by omega))⟩ : OldB g H H') k), h.le⟩
end
theorem over_all {cs us : List Value} (h : us.length = cs.length) : cs.take 0 ++ us ++ cs.drop (0 + us.length) = us := by simp [h]
theorem Float_k {H : Heap} (op : Int) : Ct Try.prog 41 [.int .u8 op] H (fun u H' => u = .bool (Opc.float op) ∧ H = H') := Ct.same fun w _ => Float_any op w
theorem Known_k {H : Heap} (op : Int) : Ct Try.prog 28 [.int .u8 op] H (fun u H' => u = .bool (Opc.known op) ∧ H = H') := Ct.same fun w _ => Known_any op w
theorem Form_k {H : Heap} (op : Int) : Ct Try.prog 29 [.int .u8 op] H (fun u H' => u = .int .u8 (Opc.form op) ∧ H = H') := Ct.same fun w _ => Form_any op w
theorem drop_getD {l : List Int} {i : Nat} (h : i < l.length) : l.drop i = l.getD i default :: l.drop (i + 1) := by
  rw [List.drop_eq_getElem_cons h, List.getD_eq_getElem?_getD, List.getElem?_eq_getElem h]; rfl
theorem tkU_eq (o : Option (Int × Nat)) : tkU o = .tuple #[.int .u64 (o.getD (0, 0)).1, .int .i64 ((o.getD (0, 0)).2 : Nat), .bool o.isSome] := by
  cases o with
  | none => rfl
  | some p => rfl
theorem tkS_eq (o : Option (Int × Nat)) : tkS o = .tuple #[.int .i64 (o.getD (0, 0)).1, .int .i64 ((o.getD (0, 0)).2 : Nat), .bool o.isSome] := by
  cases o with
  | none => rfl
  | some p => rfl
theorem numP_some {sg : Bool} {b : Nat} {r : List Int} (h1 : 1 ≤ b) (h2 : b ≤ 64) (h : (Leb.tk sg (r.map Lib.byteOf) (b : Int)).isSome = true) :
    Isp.numP sg b r = .ok (((Leb.tk sg (r.map Lib.byteOf) (b : Int)).getD (0, 0)).1, ((Leb.tk sg (r.map Lib.byteOf) (b : Int)).getD (0, 0)).2) ∧ Isp.okN sg b ((Leb.tk sg (r.map Lib.byteOf) (b : Int)).getD (0, 0)).1 ∧ ((Leb.tk sg (r.map Lib.byteOf) (b : Int)).getD (0, 0)).2 ≤ r.length := by
  have e : Isp.numP sg b r = .ok (((Leb.tk sg (r.map Lib.byteOf) (b : Int)).getD (0, 0)).1, ((Leb.tk sg (r.map Lib.byteOf) (b : Int)).getD (0, 0)).2) := by
    unfold Isp.numP
    cases hq : Leb.tk sg (r.map Lib.byteOf) (b : Int) with
    | none => rw [hq] at h; cases h
    | some p => rfl
  have := (Isp.cod_num sg h1 h2).sound _ _ _ e
  exact ⟨e, this.1, this.2.2⟩
theorem numP_none {sg : Bool} {b : Nat} {r : List Int} (h : (Leb.tk sg (r.map Lib.byteOf) (b : Int)).isSome = false) : Isp.numP sg b r = .error 60 := by
  unfold Isp.numP
  cases hq : Leb.tk sg (r.map Lib.byteOf) (b : Int) with
  | none => rfl
  | some p => rw [hq] at h; cases h
theorem TakeU32_k {H : Heap} (v : Value) (l : List Int) (hs : Sl 1 (EInt .u8) H v l) : Ct Try.prog 50 [v, .int .i64 32] H (fun u H' => u = .tuple #[.int .u64 ((Leb.tk false (l.map Lib.byteOf) ((32 : Nat) : Int)).getD (0, 0)).1, .int .i64 (((Leb.tk false (l.map Lib.byteOf) ((32 : Nat) : Int)).getD (0, 0)).2 : Nat), .bool (Leb.tk false (l.map Lib.byteOf) ((32 : Nat) : Int)).isSome] ∧ H = H') := by
  rw [← tkU_eq]; exact TakeU_k v l 32 hs
theorem TakeS_k {H : Heap} (v : Value) (l : List Int) (b : Nat) (hs : Sl 1 (EInt .u8) H v l) : Ct Try.prog 51 [v, .int .i64 (b : Nat)] H (fun u H' => u = .tuple #[.int .i64 ((Leb.tk true (l.map Lib.byteOf) (b : Int)).getD (0, 0)).1, .int .i64 (((Leb.tk true (l.map Lib.byteOf) (b : Int)).getD (0, 0)).2 : Nat), .bool (Leb.tk true (l.map Lib.byteOf) (b : Int)).isSome] ∧ H = H') := by
  rw [← tkS_eq]
  exact Ct.same fun w hw => TakeS_any v _ b w (isBs (by rw [hw]; exact hs))

set_option maxRecDepth 100000 in
set_option maxHeartbeats 4000000 in
theorem byte_any {H : Heap} {g : Nat} {v : Value} {l : List Int} {i : Nat} (rd : RD H g v l i) : CtX Try.prog 40 [.pointer (some ⟨g, 0, none⟩)] H (fun u H' => ∃ x, Isp.byteP (l.drop i) = .ok (x, 1) ∧ u = .int .u8 x ∧ InR .u8 x ∧ RD H' g v l (i + 1) ∧ Fr g (.slice none 0 0) H H') (fun p H' => Isp.byteP (l.drop i) = .error 60 ∧ p = failV 60 ∧ Fr g (.slice none 0 0) H H') := by
  refine CtX.mk Try.func40 rfl Try.ntmps40 rfl ?_
  intro W0 hW0
  have o0 : OldB 0 H H := OldB.refl _ H
  have hb := rd.b
  have hs := rd.sl
  have hll := hs.len
  have hle := rd.le
  have hlt := rd.lt
  have fr : Fr g (.slice none 0 0) H H := Fr.refl _ _ _
  refine KC.seq ?_
  refine KC.region ?_
  refine KL.op (R.assign rfl rfl) rfl rfl rfl ?_
  refine KL.nil ?_
  refine KQ.seq ?_
  refine KC.seq ?_
  refine KC.seq ?_
  refine KC.quiet (by kernel_rfl) (by kernel_rfl) ?_
  refine KD.op (R.move rfl rfl) rfl rfl rfl ?_
  refine KD.op (R.nilCheck rfl rfl) rfl rfl rfl ?_
  refine KD.op ((by first | exact R.fieldAddr rfl Try.underlying80 rfl rfl sz3 rfl | exact R.fieldAddrP rfl Try.underlying80 rfl rfl sz3 rfl)) rfl rfl rfl ?_
  refine KD.op (R.load rfl Try.underlying3 rfl rfl (by first | exact cell_of hb rfl | assumption)) rfl rfl rfl ?_
  refine KD.op (R.move rfl rfl) rfl rfl rfl ?_
  refine KD.op (R.nilCheck rfl rfl) rfl rfl rfl ?_
  refine KD.op ((by first | exact R.fieldAddr rfl Try.underlying80 rfl rfl sz23 rfl | exact R.fieldAddrP rfl Try.underlying80 rfl rfl sz23 rfl)) rfl rfl rfl ?_
  refine KD.op (R.load rfl Try.underlying23 rfl rfl (by first | exact cell_of hb rfl | assumption)) rfl rfl rfl ?_
  refine KD.op (R.lenS rfl Try.underlying23 rfl hs) rfl rfl rfl ?_
  refine KD.op (R.geq rfl rfl rfl) rfl rfl rfl ?_
  refine KD.nil ?_
  refine KQ.seq ?_
  refine KC.iteL rfl ?_ ?_
  · intro hc12
    try simp only [decide_eq_true_eq, decide_eq_false_iff_not, Bool.not_eq_true', Bool.not_eq_false', Bool.and_eq_true, Bool.or_eq_false_iff] at hc12
    refine KC.region ?_
    refine KL.op (R.buildL rfl Try.underlying77 zr77 [(0, 1)] (fun w => by kernel_rfl) rfl ⟨⟨_, rfl, rfl⟩, trivial⟩ rfl rfl ⟨⟨_, rfl, by first | rfl⟩, trivial⟩ rfl) rfl rfl rfl ?_
    refine KL.op (R.makeIface rfl Try.underlying77 rfl rfl) rfl rfl rfl ?_
    refine KL.panic rfl rfl rfl ?_
    refine KQ.panThen ?_
    exact KQ.pan (⟨by rw [List.drop_of_length_le (by omega)]; rfl, rfl, fr⟩)
  · intro hc12
    try simp only [decide_eq_true_eq, decide_eq_false_iff_not, Bool.not_eq_true', Bool.not_eq_false', Bool.and_eq_true, Bool.or_eq_false_iff] at hc12
    refine KC.skip ?_
    refine KQ.seq ?_
    refine KC.seq ?_
    refine KC.region ?_
    refine KL.op (R.move rfl rfl) rfl rfl rfl ?_
    refine KL.op (R.nilCheck rfl rfl) rfl rfl rfl ?_
    refine KL.op ((by first | exact R.fieldAddr rfl Try.underlying80 rfl rfl sz3 rfl | exact R.fieldAddrP rfl Try.underlying80 rfl rfl sz3 rfl)) rfl rfl rfl ?_
    refine KL.op (R.load rfl Try.underlying3 rfl rfl (by first | exact cell_of hb rfl | assumption)) rfl rfl rfl ?_
    refine KL.op ((R.add rfl rfl rfl (by dsimp only [InR]; omega)).val (congrArg (Value.int .i64) (show (i : Int) + 1 = ((i + 1 : Nat) : Int) by omega))) rfl rfl rfl ?_
    refine KL.op (R.nilCheck rfl rfl) rfl rfl rfl ?_
    refine KL.op ((by first | exact R.fieldAddr rfl Try.underlying80 rfl rfl sz3 rfl | exact R.fieldAddrP rfl Try.underlying80 rfl rfl sz3 rfl)) rfl rfl rfl ?_
    refine KL.opS (S.store rfl sz3 rfl rfl rfl rfl hb (by simp)) rfl rfl ?_
    rintro H1 ⟨u1, b1⟩
    have o0 := o0.trans (OldB.upd u1 (by omega))
    have zu1 := u1.1
    have fr := (by first | exact fr.upd u1 | exact fr.updN u1 (by omega))
    have hb := b1
    have hs2 := rd.s H1 (fr.low (Nat.le_of_lt hlt) (Nat.le_refl _))
    refine KL.nil ?_
    refine KQ.seq ?_
    refine KC.seq ?_
    refine KC.quiet (by kernel_rfl) (by kernel_rfl) ?_
    refine KD.op (R.move rfl rfl) rfl rfl rfl ?_
    refine KD.op (R.nilCheck rfl rfl) rfl rfl rfl ?_
    refine KD.op ((by first | exact R.fieldAddr rfl Try.underlying80 rfl rfl sz23 rfl | exact R.fieldAddrP rfl Try.underlying80 rfl rfl sz23 rfl)) rfl rfl rfl ?_
    refine KD.op (R.load rfl Try.underlying23 rfl rfl (by first | exact cell_of hb rfl | assumption)) rfl rfl rfl ?_
    refine KD.op (R.move rfl rfl) rfl rfl rfl ?_
    refine KD.op (R.nilCheck rfl rfl) rfl rfl rfl ?_
    refine KD.op ((by first | exact R.fieldAddr rfl Try.underlying80 rfl rfl sz3 rfl | exact R.fieldAddrP rfl Try.underlying80 rfl rfl sz3 rfl)) rfl rfl rfl ?_
    refine KD.op (R.load rfl Try.underlying3 rfl rfl (by first | exact cell_of hb rfl | assumption)) rfl rfl rfl ?_
    refine KD.op ((R.sub rfl rfl rfl (by dsimp only [InR]; omega)).val (congrArg (Value.int .i64) (show ((i + 1 : Nat) : Int) - 1 = ((i : Nat) : Int) by omega))) rfl rfl rfl ?_
    refine KD.op (R.index1 (j := i) rfl Try.underlying23 sz5 rfl rfl hs2 rfl (by omega)) rfl rfl rfl ?_
    refine KD.op (R.load rfl Try.underlying5 rfl rfl (hs2.int i (by omega)).1) rfl rfl rfl ?_
    refine KD.op (R.assign rfl rfl) rfl rfl rfl ?_
    refine KD.nil ?_
    refine KQ.seq ?_
    refine KC.ret ?_
    refine KQ.ofRetX ?_
    refine KQ.toX ?_
    refine KQ.fin1 Try.results40 rfl ?_
    exact ⟨_, by rw [drop_getD (by omega)]; rfl, rfl, (hs2.int i (by omega)).2, rd.next fr hb (by omega), fr⟩

set_option maxRecDepth 100000 in
set_option maxHeartbeats 4000000 in
theorem u32_any {H : Heap} {g : Nat} {v : Value} {l : List Int} {i : Nat} (rd : RD H g v l i) : CtX Try.prog 43 [.pointer (some ⟨g, 0, none⟩)] H (fun u H' => ∃ x k, Isp.u32P (l.drop i) = .ok (x, k) ∧ u = .int .u32 x ∧ Isp.okU x ∧ RD H' g v l (i + k) ∧ Fr g (.slice none 0 0) H H') (fun p H' => Isp.u32P (l.drop i) = .error 60 ∧ p = failV 60 ∧ Fr g (.slice none 0 0) H H') := by
  refine CtX.mk Try.func43 rfl Try.ntmps43 rfl ?_
  intro W0 hW0
  have o0 : OldB 0 H H := OldB.refl _ H
  have hb := rd.b
  have hs := rd.sl
  have hll := hs.len
  have hle := rd.le
  have hlt := rd.lt
  have fr : Fr g (.slice none 0 0) H H := Fr.refl _ _ _
  have hsub : Sl 1 (EInt .u8) H (subV 1 v i l.length) (l.drop i) := by have := hs.sub (lo := i) (hi := l.length) (by omega) (Nat.le_refl _); rwa [List.take_length] at this
  refine KC.seq ?_
  refine KC.region ?_
  refine KL.op (R.assign rfl rfl) rfl rfl rfl ?_
  refine KL.nil ?_
  refine KQ.seq ?_
  refine KC.seq ?_
  refine KC.quiet (by kernel_rfl) (by kernel_rfl) ?_
  refine KD.op (R.move rfl rfl) rfl rfl rfl ?_
  refine KD.op (R.nilCheck rfl rfl) rfl rfl rfl ?_
  refine KD.op ((by first | exact R.fieldAddr rfl Try.underlying80 rfl rfl sz23 rfl | exact R.fieldAddrP rfl Try.underlying80 rfl rfl sz23 rfl)) rfl rfl rfl ?_
  refine KD.op (R.load rfl Try.underlying23 rfl rfl (by first | exact cell_of hb rfl | assumption)) rfl rfl rfl ?_
  refine KD.op (R.move rfl rfl) rfl rfl rfl ?_
  refine KD.op (R.nilCheck rfl rfl) rfl rfl rfl ?_
  refine KD.op ((by first | exact R.fieldAddr rfl Try.underlying80 rfl rfl sz3 rfl | exact R.fieldAddrP rfl Try.underlying80 rfl rfl sz3 rfl)) rfl rfl rfl ?_
  refine KD.op (R.load rfl Try.underlying3 rfl rfl (by first | exact cell_of hb rfl | assumption)) rfl rfl rfl ?_
  refine KD.op (R.slice rfl Try.underlying23 sz5 rfl hs (bnd.mk rfl rfl) bnd.no (by omega) (Nat.le_refl _)) rfl rfl rfl ?_
  refine KD.call rfl rfl rfl rfl Try.call50 rfl rfl rfl (TakeU32_k _ _ hsub) ?_
  refine KD.op (R.move rfl rfl) rfl rfl rfl ?_
  refine KD.op (R.extract rfl rfl rfl) rfl rfl rfl ?_
  refine KD.op (R.extract rfl rfl rfl) rfl rfl rfl ?_
  refine KD.op (R.extract rfl rfl rfl) rfl rfl rfl ?_
  refine KD.op (R.assign rfl rfl) rfl rfl rfl ?_
  refine KD.op (R.assign rfl rfl) rfl rfl rfl ?_
  refine KD.op (R.assign rfl rfl) rfl rfl rfl ?_
  refine KD.nil ?_
  refine KQ.seq ?_
  refine KC.seq ?_
  refine KC.seq ?_
  refine KC.region ?_
  refine KL.op (R.move rfl rfl) rfl rfl rfl ?_
  refine KL.op (R.not rfl rfl) rfl rfl rfl ?_
  refine KL.nil ?_
  refine KQ.seq ?_
  refine KC.iteL rfl ?_ ?_
  · intro hc21
    try simp only [decide_eq_true_eq, decide_eq_false_iff_not, Bool.not_eq_true', Bool.not_eq_false', Bool.and_eq_true, Bool.or_eq_false_iff] at hc21
    have hno := numP_none (sg := false) (b := 32) (r := l.drop i) (by simpa using hc21)
    refine KC.region ?_
    refine KL.op (R.buildL rfl Try.underlying77 zr77 [(0, 1)] (fun w => by kernel_rfl) rfl ⟨⟨_, rfl, rfl⟩, trivial⟩ rfl rfl ⟨⟨_, rfl, by first | rfl⟩, trivial⟩ rfl) rfl rfl rfl ?_
    refine KL.op (R.makeIface rfl Try.underlying77 rfl rfl) rfl rfl rfl ?_
    refine KL.panic rfl rfl rfl ?_
    refine KQ.panThen ?_
    exact KQ.pan (⟨hno, rfl, fr⟩)
  · intro hc21
    try simp only [decide_eq_true_eq, decide_eq_false_iff_not, Bool.not_eq_true', Bool.not_eq_false', Bool.and_eq_true, Bool.or_eq_false_iff] at hc21
    obtain ⟨hok, hrg, hkl⟩ := numP_some (sg := false) (b := 32) (r := l.drop i) (by omega) (by omega) (by simpa using hc21)
    rw [List.length_drop] at hkl
    refine KC.skip ?_
    refine KQ.seq ?_
    refine KC.seq ?_
    refine KC.region ?_
    refine KL.op (R.move rfl rfl) rfl rfl rfl ?_
    refine KL.op (R.nilCheck rfl rfl) rfl rfl rfl ?_
    refine KL.op ((by first | exact R.fieldAddr rfl Try.underlying80 rfl rfl sz3 rfl | exact R.fieldAddrP rfl Try.underlying80 rfl rfl sz3 rfl)) rfl rfl rfl ?_
    refine KL.op (R.load rfl Try.underlying3 rfl rfl (by first | exact cell_of hb rfl | assumption)) rfl rfl rfl ?_
    refine KL.op (R.move rfl rfl) rfl rfl rfl ?_
    refine KL.op ((R.add rfl rfl rfl (by dsimp only [InR]; omega)).val (congrArg (Value.int .i64) (show (i : Int) + (((Leb.tk false ((l.drop i).map Lib.byteOf) ((32 : Nat) : Int)).getD (0, 0)).2 : Nat) = ((i + ((Leb.tk false ((l.drop i).map Lib.byteOf) ((32 : Nat) : Int)).getD (0, 0)).2 : Nat) : Int) by omega))) rfl rfl rfl ?_
    refine KL.op (R.nilCheck rfl rfl) rfl rfl rfl ?_
    refine KL.op ((by first | exact R.fieldAddr rfl Try.underlying80 rfl rfl sz3 rfl | exact R.fieldAddrP rfl Try.underlying80 rfl rfl sz3 rfl)) rfl rfl rfl ?_
    refine KL.opS (S.store rfl sz3 rfl rfl rfl rfl hb (by simp)) rfl rfl ?_
    rintro H1 ⟨u1, b1⟩
    have o0 := o0.trans (OldB.upd u1 (by omega))
    have zu1 := u1.1
    have fr := (by first | exact fr.upd u1 | exact fr.updN u1 (by omega))
    have hb := b1
    refine KL.nil ?_
    refine KQ.seq ?_
    refine KC.seq ?_
    refine KC.region ?_
    refine KL.op (R.move rfl rfl) rfl rfl rfl ?_
    refine KL.op (R.convI rfl Try.underlying62 Try.underlying33 rfl (by have := (Isp.okU_iff _).2 hrg; unfold Isp.okU at this; dsimp only [InR]; omega)) rfl rfl rfl ?_
    refine KL.op (R.assign rfl rfl) rfl rfl rfl ?_
    refine KL.nil ?_
    refine KQ.seq ?_
    refine KC.ret ?_
    refine KQ.ofRetX ?_
    refine KQ.toX ?_
    refine KQ.fin1 Try.results43 rfl ?_
    exact ⟨_, _, hok, rfl, (Isp.okU_iff _).2 hrg, rd.next fr hb (by omega), fr⟩

set_option maxRecDepth 100000 in
set_option maxHeartbeats 4000000 in
theorem signed_any {H : Heap} {g : Nat} {v : Value} {l : List Int} {i : Nat} (rd : RD H g v l i) (b : Nat) (hb1 : 1 ≤ b) (hb2 : b ≤ 64) : CtX Try.prog 45 [.pointer (some ⟨g, 0, none⟩), .int .i64 (b : Nat)] H (fun u H' => ∃ x k, Isp.numP true b (l.drop i) = .ok (x, k) ∧ u = .int .i64 x ∧ Isp.okN true b x ∧ RD H' g v l (i + k) ∧ Fr g (.slice none 0 0) H H') (fun p H' => Isp.numP true b (l.drop i) = .error 60 ∧ p = failV 60 ∧ Fr g (.slice none 0 0) H H') := by
  refine CtX.mk Try.func45 rfl Try.ntmps45 rfl ?_
  intro W0 hW0
  have o0 : OldB 0 H H := OldB.refl _ H
  have hb := rd.b
  have hs := rd.sl
  have hll := hs.len
  have hle := rd.le
  have hlt := rd.lt
  have fr : Fr g (.slice none 0 0) H H := Fr.refl _ _ _
  have hsub : Sl 1 (EInt .u8) H (subV 1 v i l.length) (l.drop i) := by have := hs.sub (lo := i) (hi := l.length) (by omega) (Nat.le_refl _); rwa [List.take_length] at this
  refine KC.seq ?_
  refine KC.region ?_
  refine KL.op (R.assign rfl rfl) rfl rfl rfl ?_
  refine KL.nil ?_
  refine KQ.seq ?_
  refine KC.seq ?_
  refine KC.quiet (by kernel_rfl) (by kernel_rfl) ?_
  refine KD.op (R.move rfl rfl) rfl rfl rfl ?_
  refine KD.op (R.nilCheck rfl rfl) rfl rfl rfl ?_
  refine KD.op ((by first | exact R.fieldAddr rfl Try.underlying80 rfl rfl sz23 rfl | exact R.fieldAddrP rfl Try.underlying80 rfl rfl sz23 rfl)) rfl rfl rfl ?_
  refine KD.op (R.load rfl Try.underlying23 rfl rfl (by first | exact cell_of hb rfl | assumption)) rfl rfl rfl ?_
  refine KD.op (R.move rfl rfl) rfl rfl rfl ?_
  refine KD.op (R.nilCheck rfl rfl) rfl rfl rfl ?_
  refine KD.op ((by first | exact R.fieldAddr rfl Try.underlying80 rfl rfl sz3 rfl | exact R.fieldAddrP rfl Try.underlying80 rfl rfl sz3 rfl)) rfl rfl rfl ?_
  refine KD.op (R.load rfl Try.underlying3 rfl rfl (by first | exact cell_of hb rfl | assumption)) rfl rfl rfl ?_
  refine KD.op (R.slice rfl Try.underlying23 sz5 rfl hs (bnd.mk rfl rfl) bnd.no (by omega) (Nat.le_refl _)) rfl rfl rfl ?_
  refine KD.op (R.move rfl rfl) rfl rfl rfl ?_
  refine KD.call rfl rfl rfl rfl Try.call51 rfl rfl rfl (TakeS_k _ _ b hsub) ?_
  refine KD.op (R.move rfl rfl) rfl rfl rfl ?_
  refine KD.op (R.extract rfl rfl rfl) rfl rfl rfl ?_
  refine KD.op (R.extract rfl rfl rfl) rfl rfl rfl ?_
  refine KD.op (R.extract rfl rfl rfl) rfl rfl rfl ?_
  refine KD.op (R.assign rfl rfl) rfl rfl rfl ?_
  refine KD.op (R.assign rfl rfl) rfl rfl rfl ?_
  refine KD.op (R.assign rfl rfl) rfl rfl rfl ?_
  refine KD.nil ?_
  refine KQ.seq ?_
  refine KC.seq ?_
  refine KC.seq ?_
  refine KC.region ?_
  refine KL.op (R.move rfl rfl) rfl rfl rfl ?_
  refine KL.op (R.not rfl rfl) rfl rfl rfl ?_
  refine KL.nil ?_
  refine KQ.seq ?_
  refine KC.iteL rfl ?_ ?_
  · intro hc24
    try simp only [decide_eq_true_eq, decide_eq_false_iff_not, Bool.not_eq_true', Bool.not_eq_false', Bool.and_eq_true, Bool.or_eq_false_iff] at hc24
    have hno := numP_none (sg := true) (b := b) (r := l.drop i) (by simpa using hc24)
    refine KC.region ?_
    refine KL.op (R.buildL rfl Try.underlying77 zr77 [(0, 1)] (fun w => by kernel_rfl) rfl ⟨⟨_, rfl, rfl⟩, trivial⟩ rfl rfl ⟨⟨_, rfl, by first | rfl⟩, trivial⟩ rfl) rfl rfl rfl ?_
    refine KL.op (R.makeIface rfl Try.underlying77 rfl rfl) rfl rfl rfl ?_
    refine KL.panic rfl rfl rfl ?_
    refine KQ.panThen ?_
    exact KQ.pan (⟨hno, rfl, fr⟩)
  · intro hc24
    try simp only [decide_eq_true_eq, decide_eq_false_iff_not, Bool.not_eq_true', Bool.not_eq_false', Bool.and_eq_true, Bool.or_eq_false_iff] at hc24
    obtain ⟨hok, hrg, hkl⟩ := numP_some (sg := true) (b := b) (r := l.drop i) hb1 hb2 (by simpa using hc24)
    rw [List.length_drop] at hkl
    refine KC.skip ?_
    refine KQ.seq ?_
    refine KC.seq ?_
    refine KC.region ?_
    refine KL.op (R.move rfl rfl) rfl rfl rfl ?_
    refine KL.op (R.nilCheck rfl rfl) rfl rfl rfl ?_
    refine KL.op ((by first | exact R.fieldAddr rfl Try.underlying80 rfl rfl sz3 rfl | exact R.fieldAddrP rfl Try.underlying80 rfl rfl sz3 rfl)) rfl rfl rfl ?_
    refine KL.op (R.load rfl Try.underlying3 rfl rfl (by first | exact cell_of hb rfl | assumption)) rfl rfl rfl ?_
    refine KL.op (R.move rfl rfl) rfl rfl rfl ?_
    refine KL.op ((R.add rfl rfl rfl (by dsimp only [InR]; omega)).val (congrArg (Value.int .i64) (show (i : Int) + (((Leb.tk true ((l.drop i).map Lib.byteOf) ((b : Nat) : Int)).getD (0, 0)).2 : Nat) = ((i + ((Leb.tk true ((l.drop i).map Lib.byteOf) ((b : Nat) : Int)).getD (0, 0)).2 : Nat) : Int) by omega))) rfl rfl rfl ?_
    refine KL.op (R.nilCheck rfl rfl) rfl rfl rfl ?_
    refine KL.op ((by first | exact R.fieldAddr rfl Try.underlying80 rfl rfl sz3 rfl | exact R.fieldAddrP rfl Try.underlying80 rfl rfl sz3 rfl)) rfl rfl rfl ?_
    refine KL.opS (S.store rfl sz3 rfl rfl rfl rfl hb (by simp)) rfl rfl ?_
    rintro H1 ⟨u1, b1⟩
    have o0 := o0.trans (OldB.upd u1 (by omega))
    have zu1 := u1.1
    have fr := (by first | exact fr.upd u1 | exact fr.updN u1 (by omega))
    have hb := b1
    refine KL.nil ?_
    refine KQ.seq ?_
    refine KC.seq ?_
    refine KC.region ?_
    refine KL.op (R.move rfl rfl) rfl rfl rfl ?_
    refine KL.op (R.assign rfl rfl) rfl rfl rfl ?_
    refine KL.nil ?_
    refine KQ.seq ?_
    refine KC.ret ?_
    refine KQ.ofRetX ?_
    refine KQ.toX ?_
    refine KQ.fin1 Try.results45 rfl ?_
    exact ⟨_, _, hok, rfl, hrg, rd.next fr hb (by omega), fr⟩

set_option maxRecDepth 100000 in
set_option maxHeartbeats 4000000 in
theorem zero_any {H : Heap} {g : Nat} {v : Value} {l : List Int} {i : Nat} (rd : RD H g v l i) : CtX Try.prog 44 [.pointer (some ⟨g, 0, none⟩)] H (fun u H' => u = .tuple #[] ∧ Isp.zeroP (l.drop i) = .ok ((), 1) ∧ RD H' g v l (i + 1) ∧ Fr g (.slice none 0 0) H H') (fun p H' => Isp.zeroP (l.drop i) = .error 60 ∧ p = failV 60 ∧ Fr g (.slice none 0 0) H H') := by
  refine CtX.mk Try.func44 rfl Try.ntmps44 rfl ?_
  intro W0 hW0
  have o0 : OldB 0 H H := OldB.refl _ H
  refine KC.seq ?_
  refine KC.region ?_
  refine KL.op (R.move rfl rfl) rfl rfl rfl ?_
  refine KL.callX rfl rfl rfl rfl Try.call40 rfl rfl rfl (byte_any rd) ?_ ?_
  · rintro vx H1 ⟨hx1, hx2, hx3⟩
    have hnil : l.drop i = [] := by
      cases hq : l.drop i with
      | nil => rfl
      | cons y r => rw [hq] at hx1; cases hx1
    refine KQ.panThen ?_
    exact KQ.pan (⟨by rw [hnil]; rfl, hx2, hx3⟩)
  rintro _ H2 ⟨x0, hp, rfl, hx0, rd, fr⟩
  have hd0 : l.drop i = x0 :: l.drop (i + 1) := by
    have hlt : i < l.length := by have := rd.le; omega
    rw [drop_getD hlt] at hp ⊢
    injection hp with hp; injection hp with hp; rw [hp]
  refine KL.op (R.neq rfl rfl rfl) rfl rfl rfl ?_
  refine KL.nil ?_
  refine KQ.seq ?_
  refine KC.iteL rfl ?_ ?_
  · intro hc4
    try simp only [decide_eq_true_eq, decide_eq_false_iff_not, Bool.not_eq_true', Bool.not_eq_false', Bool.and_eq_true, Bool.or_eq_false_iff] at hc4
    refine KC.region ?_
    refine KL.op (R.buildL rfl Try.underlying77 zr77 [(0, 1)] (fun w => by kernel_rfl) rfl ⟨⟨_, rfl, rfl⟩, trivial⟩ rfl rfl ⟨⟨_, rfl, by first | rfl⟩, trivial⟩ rfl) rfl rfl rfl ?_
    refine KL.op (R.makeIface rfl Try.underlying77 rfl rfl) rfl rfl rfl ?_
    refine KL.panic rfl rfl rfl ?_
    exact KQ.pan (⟨by rw [hd0]; simp [Isp.zeroP]; simp_all, rfl, fr⟩)
  · intro hc4
    try simp only [decide_eq_true_eq, decide_eq_false_iff_not, Bool.not_eq_true', Bool.not_eq_false', Bool.and_eq_true, Bool.or_eq_false_iff] at hc4
    refine KC.skip ?_
    refine KQ.toX ?_
    refine KQ.fin0 Try.results44 ?_
    exact ⟨rfl, by rw [hd0]; simp [Isp.zeroP]; simp_all, rd, fr⟩

set_option maxRecDepth 100000 in
set_option maxHeartbeats 4000000 in
theorem block_any {H : Heap} {g : Nat} {v : Value} {l : List Int} {i : Nat} (rd : RD H g v l i) : CtX Try.prog 42 [.pointer (some ⟨g, 0, none⟩)] H (fun u H' => ∃ x, Isp.blockP (l.drop i) = .ok (x, 1) ∧ u = .int .u8 x ∧ InR .u8 x ∧ RD H' g v l (i + 1) ∧ Fr g (.slice none 0 0) H H') (fun p H' => ∃ e, Isp.blockP (l.drop i) = .error e ∧ p = failV e ∧ Fr g (.slice none 0 0) H H') := by
  refine CtX.mk Try.func42 rfl Try.ntmps42 rfl ?_
  intro W0 hW0
  have o0 : OldB 0 H H := OldB.refl _ H
  refine KC.seq ?_
  refine KC.region ?_
  refine KL.op (R.assign rfl rfl) rfl rfl rfl ?_
  refine KL.nil ?_
  refine KQ.seq ?_
  refine KC.seq ?_
  refine KC.region ?_
  refine KL.op (R.move rfl rfl) rfl rfl rfl ?_
  refine KL.callX rfl rfl rfl rfl Try.call40 rfl rfl rfl (byte_any rd) ?_ ?_
  · rintro vx H1 ⟨hx1, hx2, hx3⟩
    have hnil : l.drop i = [] := by
      cases hq : l.drop i with
      | nil => rfl
      | cons y r => rw [hq] at hx1; cases hx1
    refine KQ.panThen ?_
    exact KQ.pan (⟨60, by rw [hnil]; rfl, hx2, hx3⟩)
  rintro _ H2 ⟨x0, hp, rfl, hx0, rd, fr⟩
  have hd0 : l.drop i = x0 :: l.drop (i + 1) := by
    have hlt : i < l.length := by have := rd.le; omega
    rw [drop_getD hlt] at hp ⊢
    injection hp with hp; injection hp with hp; rw [hp]
  refine KL.op (R.assign rfl rfl) rfl rfl rfl ?_
  refine KL.nil ?_
  refine KQ.seq ?_
  refine KC.seq ?_
  refine KC.seq ?_
  refine KC.region ?_
  refine KL.op (R.move rfl rfl) rfl rfl rfl ?_
  refine KL.nil ?_
  refine KQ.seq ?_
  refine KC.block ?_
  refine KC.seq ?_
  refine KC.seq ?_
  refine KC.region ?_
  refine KL.op (R.eql rfl rfl rfl) rfl rfl rfl ?_
  refine KL.op (R.assign rfl rfl) rfl rfl rfl ?_
  refine KL.nil ?_
  refine KQ.seq ?_
  refine KC.iteL rfl ?_ ?_
  · intro hc7
    try simp only [decide_eq_true_eq, decide_eq_false_iff_not, Bool.not_eq_true', Bool.not_eq_false', Bool.and_eq_true, Bool.or_eq_false_iff] at hc7
    refine KC.skip ?_
    refine KQ.seq ?_
    refine KC.condT rfl ?_
    refine KC.seq ?_
    refine KC.region ?_
    refine KL.op (R.move rfl rfl) rfl rfl rfl ?_
    refine KL.op (R.assign rfl rfl) rfl rfl rfl ?_
    refine KL.nil ?_
    refine KQ.seq ?_
    refine KC.ret ?_
    refine KQ.retBlock ?_
    refine KQ.retThen ?_
    refine KQ.ofRetX ?_
    refine KQ.toX ?_
    refine KQ.fin1 Try.results42 rfl ?_
    exact ⟨_, by rw [hd0]; simp [Isp.blockP, Isp.blkOk, *], rfl, hx0, rd, fr⟩
  · intro hc7
    try simp only [decide_eq_true_eq, decide_eq_false_iff_not, Bool.not_eq_true', Bool.not_eq_false', Bool.and_eq_true, Bool.or_eq_false_iff] at hc7
    refine KC.seq ?_
    refine KC.region ?_
    refine KL.op (R.eql rfl rfl rfl) rfl rfl rfl ?_
    refine KL.op (R.assign rfl rfl) rfl rfl rfl ?_
    refine KL.nil ?_
    refine KQ.seq ?_
    refine KC.iteL rfl ?_ ?_
    · intro hc7
      try simp only [decide_eq_true_eq, decide_eq_false_iff_not, Bool.not_eq_true', Bool.not_eq_false', Bool.and_eq_true, Bool.or_eq_false_iff] at hc7
      refine KC.skip ?_
      refine KQ.seq ?_
      refine KC.condT rfl ?_
      refine KC.seq ?_
      refine KC.region ?_
      refine KL.op (R.move rfl rfl) rfl rfl rfl ?_
      refine KL.op (R.assign rfl rfl) rfl rfl rfl ?_
      refine KL.nil ?_
      refine KQ.seq ?_
      refine KC.ret ?_
      refine KQ.retBlock ?_
      refine KQ.retThen ?_
      refine KQ.ofRetX ?_
      refine KQ.toX ?_
      refine KQ.fin1 Try.results42 rfl ?_
      exact ⟨_, by rw [hd0]; simp [Isp.blockP, Isp.blkOk, *], rfl, hx0, rd, fr⟩
    · intro hc7
      try simp only [decide_eq_true_eq, decide_eq_false_iff_not, Bool.not_eq_true', Bool.not_eq_false', Bool.and_eq_true, Bool.or_eq_false_iff] at hc7
      refine KC.region ?_
      refine KL.op (R.eql rfl rfl rfl) rfl rfl rfl ?_
      refine KL.op (R.assign rfl rfl) rfl rfl rfl ?_
      refine KL.nil ?_
      refine KQ.seq ?_
      refine KC.iteL rfl ?_ ?_
      · intro hc7
        try simp only [decide_eq_true_eq, decide_eq_false_iff_not, Bool.not_eq_true', Bool.not_eq_false', Bool.and_eq_true, Bool.or_eq_false_iff] at hc7
        refine KC.seq ?_
        refine KC.region ?_
        refine KL.op (R.move rfl rfl) rfl rfl rfl ?_
        refine KL.op (R.assign rfl rfl) rfl rfl rfl ?_
        refine KL.nil ?_
        refine KQ.seq ?_
        refine KC.ret ?_
        refine KQ.retBlock ?_
        refine KQ.retThen ?_
        refine KQ.ofRetX ?_
        refine KQ.toX ?_
        refine KQ.fin1 Try.results42 rfl ?_
        exact ⟨_, by rw [hd0]; simp [Isp.blockP, Isp.blkOk, *], rfl, hx0, rd, fr⟩
      · intro hc7
        try simp only [decide_eq_true_eq, decide_eq_false_iff_not, Bool.not_eq_true', Bool.not_eq_false', Bool.and_eq_true, Bool.or_eq_false_iff] at hc7
        refine KC.seq ?_
        refine KC.seq ?_
        refine KC.region ?_
        refine KL.op (R.eql rfl rfl rfl) rfl rfl rfl ?_
        refine KL.op (R.assign rfl rfl) rfl rfl rfl ?_
        refine KL.nil ?_
        refine KQ.seq ?_
        refine KC.iteL rfl ?_ ?_
        · intro hc12
          try simp only [decide_eq_true_eq, decide_eq_false_iff_not, Bool.not_eq_true', Bool.not_eq_false', Bool.and_eq_true, Bool.or_eq_false_iff] at hc12
          refine KC.skip ?_
          refine KQ.seq ?_
          refine KC.condT rfl ?_
          refine KC.region ?_
          refine KL.op (R.buildL rfl Try.underlying77 zr77 [(0, 1)] (fun w => by kernel_rfl) rfl ⟨⟨_, rfl, rfl⟩, trivial⟩ rfl rfl ⟨⟨_, rfl, by first | rfl⟩, trivial⟩ rfl) rfl rfl rfl ?_
          refine KL.op (R.makeIface rfl Try.underlying77 rfl rfl) rfl rfl rfl ?_
          refine KL.panic rfl rfl rfl ?_
          refine KQ.panBlock ?_
          refine KQ.panThen ?_
          exact KQ.pan (⟨_, by rw [hd0]; simp [Isp.blockP, Isp.blkOk, *], rfl, fr⟩)
        · intro hc12
          try simp only [decide_eq_true_eq, decide_eq_false_iff_not, Bool.not_eq_true', Bool.not_eq_false', Bool.and_eq_true, Bool.or_eq_false_iff] at hc12
          refine KC.region ?_
          refine KL.op (R.eql rfl rfl rfl) rfl rfl rfl ?_
          refine KL.op (R.assign rfl rfl) rfl rfl rfl ?_
          refine KL.nil ?_
          refine KQ.seq ?_
          refine KC.iteL rfl ?_ ?_
          · intro hc12
            try simp only [decide_eq_true_eq, decide_eq_false_iff_not, Bool.not_eq_true', Bool.not_eq_false', Bool.and_eq_true, Bool.or_eq_false_iff] at hc12
            refine KC.region ?_
            refine KL.op (R.buildL rfl Try.underlying77 zr77 [(0, 1)] (fun w => by kernel_rfl) rfl ⟨⟨_, rfl, rfl⟩, trivial⟩ rfl rfl ⟨⟨_, rfl, by first | rfl⟩, trivial⟩ rfl) rfl rfl rfl ?_
            refine KL.op (R.makeIface rfl Try.underlying77 rfl rfl) rfl rfl rfl ?_
            refine KL.panic rfl rfl rfl ?_
            refine KQ.panBlock ?_
            refine KQ.panThen ?_
            exact KQ.pan (⟨_, by rw [hd0]; simp [Isp.blockP, Isp.blkOk, *], rfl, fr⟩)
          · intro hc12
            try simp only [decide_eq_true_eq, decide_eq_false_iff_not, Bool.not_eq_true', Bool.not_eq_false', Bool.and_eq_true, Bool.or_eq_false_iff] at hc12
            refine KC.skip ?_
            refine KQ.normBlock ?_
            refine KQ.seq ?_
            refine KC.region ?_
            refine KL.op (R.buildL rfl Try.underlying77 zr77 [(0, 1)] (fun w => by kernel_rfl) rfl ⟨⟨_, rfl, rfl⟩, trivial⟩ rfl rfl ⟨⟨_, rfl, by first | rfl⟩, trivial⟩ rfl) rfl rfl rfl ?_
            refine KL.op (R.makeIface rfl Try.underlying77 rfl rfl) rfl rfl rfl ?_
            refine KL.panic rfl rfl rfl ?_
            exact KQ.pan (⟨_, by rw [hd0]; simp [Isp.blockP, Isp.blkOk, *], rfl, fr⟩)

end Go.Proofs.Ytnjodpgahbpiaaa
