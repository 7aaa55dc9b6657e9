/- Instructions are written. No condition but those stated. -/
import Derived.Test.YtnjodpgahbpiaaaInsN
namespace Go.Proofs.Ytnjodpgahbpiaaa
open Go Go.RowKit
set_option linter.unusedVariables false
set_option linter.unusedSimpArgs false
set_option linter.unnecessarySimpa false

/-- bytes that are being written: row v, in a box g that holds c; the instruction, in a box gx -/
structure PT (Hb H : Heap) (g gx B : Nat) (vb c v : Value) (x : Ins) (vl : Value) (l : List Int) : Prop where
  bb : H[g]? = some (.cells [c].toArray 23 (0, 0))
  bx : H[gx]? = some (.cells [.int .u8 x.op, .int .u32 x.a, .int .u32 x.b, .int .i64 x.c, vl].toArray 36 (0, 0))
  wo : Own 1 (EInt .u8) 5 #[] B H v l
  hne : v = .slice none 0 0 ∨ vblock v ≠ g
  hnx : v = .slice none 0 0 ∨ vblock v ≠ gx
  nx : Nx Hb vb v
  fr : Fr g vb Hb H
  hs : ∀ H2, OldB B Hb H2 → Sl 1 (EInt .u32) H2 vl x.l
  hB : B ≤ Hb.size
  hg : B ≤ g ∧ B ≤ gx ∧ gx < Hb.size ∧ g < Hb.size ∧ g ≠ gx
  hv : vb = .slice none 0 0 ∨ B ≤ vblock vb
section
variable {Hb H H' : Heap} {g gx B : Nat} {vb c v v' : Value} {x : Ins} {vl : Value} {l l' : List Int}
theorem PT.sz (h : PT Hb H g gx B vb c v x vl l) : B ≤ H.size ∧ g < H.size ∧ gx < H.size ∧ (v = .slice none 0 0 ∨ vblock v < H.size) := ⟨by have := h.fr.1; have := h.hB; omega, blk_lt h.bb, blk_lt h.bx, h.wo.lt.imp id (fun k => k.2)⟩
theorem PT.sl (h : PT Hb H g gx B vb c v x vl l) : Sl 1 (EInt .u32) H vl x.l := h.hs _ ⟨h.fr.1, fun k hk => h.fr.2 k (by have := h.hB; omega) (by have := h.hg.1; omega) (h.hv.imp id (fun e => by omega))⟩
theorem PT.old (h : PT Hb H g gx B vb c v x vl l) (o : Old H H') : PT Hb H' g gx B vb c v x vl l := ⟨o.blk h.bb, o.blk h.bx, h.wo.old o, h.hne, h.hnx, h.nx, h.fr.old o, h.hs, h.hB, h.hg, h.hv⟩
theorem PT.app (h : PT Hb H g gx B vb c v x vl l) (w : Own 1 (EInt .u8) 5 #[] B H' v' l') (gr : Grown v H H') (nx : Nx H v v') : PT Hb H' g gx B vb c v' x vl l' := by
  have s := h.sz
  have f := h.fr.1
  have key : ∀ y, y < H.size → (v = .slice none 0 0 ∨ vblock v ≠ y) → (v' = .slice none 0 0 ∨ vblock v' ≠ y) := fun y hy hn => by
    rcases nx with e | ⟨e1, e2⟩ | e
    · exact .inl e
    · rw [e2]; exact .inr (hn.resolve_left e1)
    · exact .inr (by omega)
  exact ⟨(gr.2 _ s.2.1 (h.hne.imp id (fun e k => e k.symm))).trans h.bb, (gr.2 _ s.2.2.1 (h.hnx.imp id (fun e k => e k.symm))).trans h.bx, w, key _ s.2.1 h.hne, key _ s.2.2.1 h.hnx, h.nx.trans f nx, h.fr.grown h.nx gr, h.hs, h.hB, h.hg, h.hv⟩
theorem PT.sto (h : PT Hb H g gx B vb c v x vl l) (u : Upd g H H') (b : H'[g]? = some (.cells [v].toArray 23 (0, 0))) : PT Hb H' g gx B vb v v x vl l :=
  ⟨b, (u.2 _ (fun e => h.hg.2.2.2.2 e.symm)).trans h.bx, h.wo.upd u (h.hne.imp id (fun e => e)), h.hne, h.hnx, h.nx, h.fr.upd u, h.hs, h.hB, h.hg, h.hv⟩
theorem PT.num (h : PT Hb H g gx B vb v v x vl l) (b : H'[g]? = some (.cells [v'].toArray 23 (0, 0))) (w : Own 1 (EInt .u8) 5 #[] B H' v' l') (hne : v' = .slice none 0 0 ∨ vblock v' ≠ g) (f : Fr g v H H') (nx : Nx H v v') : PT Hb H' g gx B vb v' v' x vl l' := by
  have s := h.sz
  have k : v' = .slice none 0 0 ∨ vblock v' ≠ gx := by
    rcases nx with e | ⟨e1, e2⟩ | e
    · exact .inl e
    · rw [e2]; exact .inr (h.hnx.resolve_left e1)
    · exact .inr (by omega)
  exact ⟨b, (f.2 _ s.2.2.1 (fun e => h.hg.2.2.2.2 e.symm) (h.hnx.imp id (fun e k => e k.symm))).trans h.bx, w, hne, k, h.nx.trans h.fr.1 nx, h.fr.trans h.nx f, h.hs, h.hB, h.hg, h.hv⟩
theorem PT.ends (h : PT Hb H g gx B vb v v x vl l) {H0 : Heap} {l0 : List Int} (o : Old H0 Hb) (hg : H0.size ≤ g) (w0 : Own 1 (EInt .u8) 5 #[] B H0 vb l0) : Own 1 (EInt .u8) 5 #[] B H v l ∧ Grown vb H0 H ∧ Nx H0 vb v :=
  ⟨h.wo, ⟨Nat.le_trans o.1 h.fr.1, fun k hk hn => (h.fr.2 k (by have := o.1; omega) (by omega) hn).trans (o.2 k hk)⟩, nx_old o w0 h.nx⟩
end

set_option maxRecDepth 100000 in
set_option maxHeartbeats 4000000 in
theorem put0 {H : Heap} {B : Nat} {vb : Value} {lb : List Int} {x : Ins} {vl : Value} (w0 : Own 1 (EInt .u8) 5 #[] B H vb lb) (hB : B ≤ H.size) (hx : InsR x) (hll : x.l.length ≤ 100000000) (hlb : lb.length ≤ 1000000000) (hs0 : ∀ H2, OldB B H H2 → Sl 1 (EInt .u32) H2 vl x.l) (hf : Opc.form x.op = 0) : Ct Try.prog 19 [vb, insV x vl] H (fun u H' => Own 1 (EInt .u8) 5 #[] B H' u (lb ++ Isp.bytes x) ∧ Grown vb H H' ∧ Nx H vb u) := by
  refine Ct.mk Try.func19 rfl Try.ntmps19 rfl ?_
  intro W0 hW0
  have o0 : OldB 0 H H := OldB.refl _ H
  have hlx1 := apL hx.2.1
  have hlx2 := apL hx.2.2.1
  have hv0 := w0.lt.imp (fun h => h) (fun h => h.2)
  have oZ : Old H H := Old.refl _
  unfold insV
  refine KC.seq ?_
  refine KC.region ?_
  refine KL.opM (M.box (cs := [vb]) rfl rfl w0.cells1) rfl rfl rfl ?_
  rintro _ H1 ⟨rfl, n1⟩
  have z1 := n1.2.1
  have o0 := o0.trans ((n1.1).b (by omega))
  have oZ := oZ.trans n1.1
  have b1 := n1.2.2
  have bb := b1
  refine KL.opM (M.box rfl rfl rfl) rfl rfl rfl ?_
  rintro _ H2 ⟨rfl, n2⟩
  have z2 := n2.2.1
  have o0 := o0.trans ((n2.1).b (by omega))
  have oZ := oZ.trans n2.1
  have bb := (n2.1).blk bb
  have b2 := n2.2.2
  have bx := b2
  have pt : PT H2 H2 (Array.size H) (Array.size H1) B vb vb vb x vl lb := ⟨bb, bx, w0.old oZ, hv0.imp id (fun e => by omega), hv0.imp id (fun e => by omega), Nx.refl _ _, Fr.refl _ _ _, fun H2 k => hs0 H2 ((oZ.b hB).trans k), by omega, ⟨by omega, by omega, by omega, by omega, by omega⟩, w0.lt.imp id (fun e => e.1)⟩
  have zpt := pt.sz
  have oHb : Old H H2 := oZ
  refine KL.op (R.assign rfl rfl) rfl rfl rfl ?_
  refine KL.nil ?_
  refine KQ.seq ?_
  refine KC.seq ?_
  refine KC.region ?_
  refine KL.op (R.load rfl Try.underlying23 rfl rfl (by first | exact cell_of pt.bb rfl | exact cell_of pt.bx rfl | assumption)) rfl rfl rfl ?_
  refine KL.op ((by first | exact R.fieldAddr rfl Try.underlying36 rfl rfl sz5 rfl | exact R.fieldAddrP rfl Try.underlying36 rfl rfl sz5 rfl)) rfl rfl rfl ?_
  refine KL.op (R.load rfl Try.underlying5 rfl rfl (by first | exact cell_of pt.bb rfl | exact cell_of pt.bx rfl | assumption)) rfl rfl rfl ?_
  refine KL.opM (M.lit rfl Try.underlying23 zs5 (by decide) rfl rfl rfl) rfl rfl rfl ?_
  rintro _ H3 ⟨rfl, n3⟩
  have z3 := n3.2.1
  have o0 := o0.trans ((n3.1).b (by omega))
  have pt := pt.old n3.1
  have b3 := n3.2.2
  have ptA := pt
  have hap : Sl 1 (EInt .u8) H3 _ [x.op] := Sl.lits (l := [x.op]) n3 rfl (by simp) (by intro y hy; simp only [List.mem_cons, List.not_mem_nil, or_false] at hy; subst hy; exact hx.1)
  have wo := ptA.wo
  have zpA := ptA.sz
  have lt4 := wo.lt
  refine KL.opM (M.appendN rfl Try.underlying23 inf5 rfl (by decide) rfl rfl wo (by exact hap) (fun _ _ h _ => h) (by omega) (by simp only [List.length_append, List.length_cons, List.length_nil]; omega) (by unfold maxLen; simp only [List.length_append, List.length_cons, List.length_nil]; omega)) rfl rfl rfl ?_
  rintro v1 H4 ⟨w4, g4, nx4⟩
  try dsimp only at g4 nx4
  have ob4 := g4.oldB wo (by omega)
  have o0 := o0.trans (ob4.mono (by omega))
  have z4 := ob4.1
  have wo := w4
  have ptB := ptA.app w4 g4 nx4
  have bb := ptB.bb
  have zpB := ptB.sz
  refine KL.opS (S.store rfl sz23 rfl rfl ptB.wo.cells1 ptB.wo.one bb (by simp)) rfl rfl ?_
  rintro H5 ⟨u5, b5⟩
  have o0 := o0.trans (OldB.upd u5 (by omega))
  have zu5 := u5.1
  have bb := b5
  have pt := ptB.sto u5 bb
  have zpt := pt.sz
  refine KL.nil ?_
  refine KQ.seq ?_
  refine KC.seq ?_
  refine KC.region ?_
  refine KL.op (R.makeFunc rfl rfl rfl) rfl rfl rfl ?_
  refine KL.op (R.assign rfl rfl) rfl rfl rfl ?_
  refine KL.nil ?_
  refine KQ.seq ?_
  refine KC.seq ?_
  refine KC.seq ?_
  refine KC.region ?_
  refine KL.op ((by first | exact R.fieldAddr rfl Try.underlying36 rfl rfl sz5 rfl | exact R.fieldAddrP rfl Try.underlying36 rfl rfl sz5 rfl)) rfl rfl rfl ?_
  refine KL.op (R.load rfl Try.underlying5 rfl rfl (by first | exact cell_of pt.bb rfl | exact cell_of pt.bx rfl | assumption)) rfl rfl rfl ?_
  refine KL.call rfl rfl rfl rfl Try.call29 rfl rfl rfl (Form_k _) ?_
  rintro _ _ ⟨rfl, rfl⟩
  rw [hf]
  refine KL.nil ?_
  refine KQ.seq ?_
  refine KC.block ?_
  refine KC.seq ?_
  refine KC.region ?_
  refine KL.op ((R.eql rfl rfl rfl).val (congrArg Value.bool (decide_eq_false (by decide)))) rfl rfl rfl ?_
  refine KL.op (R.assign rfl rfl) rfl rfl rfl ?_
  refine KL.nil ?_
  refine KQ.seq ?_
  refine KC.condF rfl ?_
  refine KC.seq ?_
  refine KC.seq ?_
  refine KC.region ?_
  refine KL.op ((R.eql rfl rfl rfl).val (congrArg Value.bool (decide_eq_false (by decide)))) rfl rfl rfl ?_
  refine KL.op (R.assign rfl rfl) rfl rfl rfl ?_
  refine KL.nil ?_
  refine KQ.seq ?_
  refine KC.condF rfl ?_
  refine KC.region ?_
  refine KL.op ((R.eql rfl rfl rfl).val (congrArg Value.bool (decide_eq_false (by decide)))) rfl rfl rfl ?_
  refine KL.op (R.assign rfl rfl) rfl rfl rfl ?_
  refine KL.nil ?_
  refine KQ.seq ?_
  refine KC.condF rfl ?_
  refine KC.seq ?_
  refine KC.region ?_
  refine KL.op ((R.eql rfl rfl rfl).val (congrArg Value.bool (decide_eq_false (by decide)))) rfl rfl rfl ?_
  refine KL.op (R.assign rfl rfl) rfl rfl rfl ?_
  refine KL.nil ?_
  refine KQ.seq ?_
  refine KC.condF rfl ?_
  refine KC.seq ?_
  refine KC.region ?_
  refine KL.op ((R.eql rfl rfl rfl).val (congrArg Value.bool (decide_eq_false (by decide)))) rfl rfl rfl ?_
  refine KL.op (R.assign rfl rfl) rfl rfl rfl ?_
  refine KL.nil ?_
  refine KQ.seq ?_
  refine KC.condF rfl ?_
  refine KC.seq ?_
  refine KC.region ?_
  refine KL.op ((R.eql rfl rfl rfl).val (congrArg Value.bool (decide_eq_false (by decide)))) rfl rfl rfl ?_
  refine KL.op (R.assign rfl rfl) rfl rfl rfl ?_
  refine KL.nil ?_
  refine KQ.seq ?_
  refine KC.condF rfl ?_
  refine KC.seq ?_
  refine KC.region ?_
  refine KL.op ((R.eql rfl rfl rfl).val (congrArg Value.bool (decide_eq_false (by decide)))) rfl rfl rfl ?_
  refine KL.op (R.assign rfl rfl) rfl rfl rfl ?_
  refine KL.nil ?_
  refine KQ.seq ?_
  refine KC.condF rfl ?_
  refine KC.seq ?_
  refine KC.seq ?_
  refine KC.region ?_
  refine KL.op ((R.eql rfl rfl rfl).val (congrArg Value.bool (decide_eq_false (by decide)))) rfl rfl rfl ?_
  refine KL.op (R.assign rfl rfl) rfl rfl rfl ?_
  refine KL.nil ?_
  refine KQ.seq ?_
  refine KC.condF rfl ?_
  refine KC.region ?_
  refine KL.op ((R.eql rfl rfl rfl).val (congrArg Value.bool (decide_eq_false (by decide)))) rfl rfl rfl ?_
  refine KL.op (R.assign rfl rfl) rfl rfl rfl ?_
  refine KL.nil ?_
  refine KQ.seq ?_
  refine KC.condF rfl ?_
  refine KC.skip ?_
  refine KQ.normBlock ?_
  refine KQ.seq ?_
  refine KC.seq ?_
  refine KC.region ?_
  refine KL.op (R.load rfl Try.underlying23 rfl rfl (by first | exact cell_of pt.bb rfl | exact cell_of pt.bx rfl | assumption)) rfl rfl rfl ?_
  refine KL.op (R.assign rfl rfl) rfl rfl rfl ?_
  refine KL.nil ?_
  refine KQ.seq ?_
  refine KC.ret ?_
  refine KQ.ofRet ?_
  refine KQ.fin1 Try.results19 rfl ?_
  have e : Isp.bytes x = x.op :: [] := by unfold Isp.bytes Isp.bodyE Isp.rest Isp.labsE; rw [hf]; simp
  rw [e]
  obtain ⟨r1, r2, r3⟩ := pt.ends oHb (by omega) w0
  exact ⟨by simpa [List.append_assoc] using r1, r2, r3⟩

set_option maxRecDepth 100000 in
set_option maxHeartbeats 4000000 in
theorem put1 {H : Heap} {B : Nat} {vb : Value} {lb : List Int} {x : Ins} {vl : Value} (w0 : Own 1 (EInt .u8) 5 #[] B H vb lb) (hB : B ≤ H.size) (hx : InsR x) (hll : x.l.length ≤ 100000000) (hlb : lb.length ≤ 1000000000) (hs0 : ∀ H2, OldB B H H2 → Sl 1 (EInt .u32) H2 vl x.l) (hf : Opc.form x.op = 1) (ha : x.a = 64 ∨ x.a = 127 ∨ x.a = 126) : Ct Try.prog 19 [vb, insV x vl] H (fun u H' => Own 1 (EInt .u8) 5 #[] B H' u (lb ++ Isp.bytes x) ∧ Grown vb H H' ∧ Nx H vb u) := by
  refine Ct.mk Try.func19 rfl Try.ntmps19 rfl ?_
  intro W0 hW0
  have o0 : OldB 0 H H := OldB.refl _ H
  have hlx1 := apL hx.2.1
  have hlx2 := apL hx.2.2.1
  have hv0 := w0.lt.imp (fun h => h) (fun h => h.2)
  have oZ : Old H H := Old.refl _
  unfold insV
  refine KC.seq ?_
  refine KC.region ?_
  refine KL.opM (M.box (cs := [vb]) rfl rfl w0.cells1) rfl rfl rfl ?_
  rintro _ H1 ⟨rfl, n1⟩
  have z1 := n1.2.1
  have o0 := o0.trans ((n1.1).b (by omega))
  have oZ := oZ.trans n1.1
  have b1 := n1.2.2
  have bb := b1
  refine KL.opM (M.box rfl rfl rfl) rfl rfl rfl ?_
  rintro _ H2 ⟨rfl, n2⟩
  have z2 := n2.2.1
  have o0 := o0.trans ((n2.1).b (by omega))
  have oZ := oZ.trans n2.1
  have bb := (n2.1).blk bb
  have b2 := n2.2.2
  have bx := b2
  have pt : PT H2 H2 (Array.size H) (Array.size H1) B vb vb vb x vl lb := ⟨bb, bx, w0.old oZ, hv0.imp id (fun e => by omega), hv0.imp id (fun e => by omega), Nx.refl _ _, Fr.refl _ _ _, fun H2 k => hs0 H2 ((oZ.b hB).trans k), by omega, ⟨by omega, by omega, by omega, by omega, by omega⟩, w0.lt.imp id (fun e => e.1)⟩
  have zpt := pt.sz
  have oHb : Old H H2 := oZ
  refine KL.op (R.assign rfl rfl) rfl rfl rfl ?_
  refine KL.nil ?_
  refine KQ.seq ?_
  refine KC.seq ?_
  refine KC.region ?_
  refine KL.op (R.load rfl Try.underlying23 rfl rfl (by first | exact cell_of pt.bb rfl | exact cell_of pt.bx rfl | assumption)) rfl rfl rfl ?_
  refine KL.op ((by first | exact R.fieldAddr rfl Try.underlying36 rfl rfl sz5 rfl | exact R.fieldAddrP rfl Try.underlying36 rfl rfl sz5 rfl)) rfl rfl rfl ?_
  refine KL.op (R.load rfl Try.underlying5 rfl rfl (by first | exact cell_of pt.bb rfl | exact cell_of pt.bx rfl | assumption)) rfl rfl rfl ?_
  refine KL.opM (M.lit rfl Try.underlying23 zs5 (by decide) rfl rfl rfl) rfl rfl rfl ?_
  rintro _ H3 ⟨rfl, n3⟩
  have z3 := n3.2.1
  have o0 := o0.trans ((n3.1).b (by omega))
  have pt := pt.old n3.1
  have b3 := n3.2.2
  have ptA := pt
  have hap : Sl 1 (EInt .u8) H3 _ [x.op] := Sl.lits (l := [x.op]) n3 rfl (by simp) (by intro y hy; simp only [List.mem_cons, List.not_mem_nil, or_false] at hy; subst hy; exact hx.1)
  have wo := ptA.wo
  have zpA := ptA.sz
  have lt4 := wo.lt
  refine KL.opM (M.appendN rfl Try.underlying23 inf5 rfl (by decide) rfl rfl wo (by exact hap) (fun _ _ h _ => h) (by omega) (by simp only [List.length_append, List.length_cons, List.length_nil]; omega) (by unfold maxLen; simp only [List.length_append, List.length_cons, List.length_nil]; omega)) rfl rfl rfl ?_
  rintro v1 H4 ⟨w4, g4, nx4⟩
  try dsimp only at g4 nx4
  have ob4 := g4.oldB wo (by omega)
  have o0 := o0.trans (ob4.mono (by omega))
  have z4 := ob4.1
  have wo := w4
  have ptB := ptA.app w4 g4 nx4
  have bb := ptB.bb
  have zpB := ptB.sz
  refine KL.opS (S.store rfl sz23 rfl rfl ptB.wo.cells1 ptB.wo.one bb (by simp)) rfl rfl ?_
  rintro H5 ⟨u5, b5⟩
  have o0 := o0.trans (OldB.upd u5 (by omega))
  have zu5 := u5.1
  have bb := b5
  have pt := ptB.sto u5 bb
  have zpt := pt.sz
  refine KL.nil ?_
  refine KQ.seq ?_
  refine KC.seq ?_
  refine KC.region ?_
  refine KL.op (R.makeFunc rfl rfl rfl) rfl rfl rfl ?_
  refine KL.op (R.assign rfl rfl) rfl rfl rfl ?_
  refine KL.nil ?_
  refine KQ.seq ?_
  refine KC.seq ?_
  refine KC.seq ?_
  refine KC.region ?_
  refine KL.op ((by first | exact R.fieldAddr rfl Try.underlying36 rfl rfl sz5 rfl | exact R.fieldAddrP rfl Try.underlying36 rfl rfl sz5 rfl)) rfl rfl rfl ?_
  refine KL.op (R.load rfl Try.underlying5 rfl rfl (by first | exact cell_of pt.bb rfl | exact cell_of pt.bx rfl | assumption)) rfl rfl rfl ?_
  refine KL.call rfl rfl rfl rfl Try.call29 rfl rfl rfl (Form_k _) ?_
  rintro _ _ ⟨rfl, rfl⟩
  rw [hf]
  refine KL.nil ?_
  refine KQ.seq ?_
  refine KC.block ?_
  refine KC.seq ?_
  refine KC.region ?_
  refine KL.op ((R.eql rfl rfl rfl).val (congrArg Value.bool (decide_eq_true (by decide)))) rfl rfl rfl ?_
  refine KL.op (R.assign rfl rfl) rfl rfl rfl ?_
  refine KL.nil ?_
  refine KQ.seq ?_
  refine KC.condT rfl ?_
  refine KC.region ?_
  refine KL.op (R.load rfl Try.underlying23 rfl rfl (by first | exact cell_of pt.bb rfl | exact cell_of pt.bx rfl | assumption)) rfl rfl rfl ?_
  refine KL.op ((by first | exact R.fieldAddr rfl Try.underlying36 rfl rfl sz33 rfl | exact R.fieldAddrP rfl Try.underlying36 rfl rfl sz33 rfl)) rfl rfl rfl ?_
  refine KL.op (R.load rfl Try.underlying33 rfl rfl (by first | exact cell_of pt.bb rfl | exact cell_of pt.bx rfl | assumption)) rfl rfl rfl ?_
  refine KL.op (R.convI rfl Try.underlying33 Try.underlying5 rfl (by dsimp only [InR]; omega)) rfl rfl rfl ?_
  refine KL.opM (M.lit rfl Try.underlying23 zs5 (by decide) rfl rfl rfl) rfl rfl rfl ?_
  rintro _ H6 ⟨rfl, n6⟩
  have z6 := n6.2.1
  have o0 := o0.trans ((n6.1).b (by omega))
  have pt := pt.old n6.1
  have b6 := n6.2.2
  have ptA := pt
  have hap : Sl 1 (EInt .u8) H6 _ [x.a] := Sl.lits (l := [x.a]) n6 rfl (by simp) (by intro y hy; simp only [List.mem_cons, List.not_mem_nil, or_false] at hy; subst hy; dsimp only [InR]; omega)
  have wo := ptA.wo
  have zpA := ptA.sz
  have lt7 := wo.lt
  refine KL.opM (M.appendN rfl Try.underlying23 inf5 rfl (by decide) rfl rfl wo (by exact hap) (fun _ _ h _ => h) (by omega) (by simp only [List.length_append, List.length_cons, List.length_nil]; omega) (by unfold maxLen; simp only [List.length_append, List.length_cons, List.length_nil]; omega)) rfl rfl rfl ?_
  rintro v2 H7 ⟨w7, g7, nx7⟩
  try dsimp only at g7 nx7
  have ob7 := g7.oldB wo (by omega)
  have o0 := o0.trans (ob7.mono (by omega))
  have z7 := ob7.1
  have wo := w7
  have ptB := ptA.app w7 g7 nx7
  have bb := ptB.bb
  have zpB := ptB.sz
  refine KL.opS (S.store rfl sz23 rfl rfl ptB.wo.cells1 ptB.wo.one bb (by simp)) rfl rfl ?_
  rintro H8 ⟨u8, b8⟩
  have o0 := o0.trans (OldB.upd u8 (by omega))
  have zu8 := u8.1
  have bb := b8
  have pt := ptB.sto u8 bb
  have zpt := pt.sz
  refine KL.nil ?_
  refine KQ.normBlock ?_
  refine KQ.seq ?_
  refine KC.seq ?_
  refine KC.region ?_
  refine KL.op (R.load rfl Try.underlying23 rfl rfl (by first | exact cell_of pt.bb rfl | exact cell_of pt.bx rfl | assumption)) rfl rfl rfl ?_
  refine KL.op (R.assign rfl rfl) rfl rfl rfl ?_
  refine KL.nil ?_
  refine KQ.seq ?_
  refine KC.ret ?_
  refine KQ.ofRet ?_
  refine KQ.fin1 Try.results19 rfl ?_
  have e : Isp.bytes x = x.op :: [x.a] := by unfold Isp.bytes Isp.bodyE Isp.rest Isp.labsE; rw [hf]; simp
  rw [e]
  obtain ⟨r1, r2, r3⟩ := pt.ends oHb (by omega) w0
  exact ⟨by simpa [List.append_assoc] using r1, r2, r3⟩

set_option maxRecDepth 100000 in
set_option maxHeartbeats 4000000 in
theorem put2 {H : Heap} {B : Nat} {vb : Value} {lb : List Int} {x : Ins} {vl : Value} (w0 : Own 1 (EInt .u8) 5 #[] B H vb lb) (hB : B ≤ H.size) (hx : InsR x) (hll : x.l.length ≤ 100000000) (hlb : lb.length ≤ 1000000000) (hs0 : ∀ H2, OldB B H H2 → Sl 1 (EInt .u32) H2 vl x.l) (hf : Opc.form x.op = 2) : Ct Try.prog 19 [vb, insV x vl] H (fun u H' => Own 1 (EInt .u8) 5 #[] B H' u (lb ++ Isp.bytes x) ∧ Grown vb H H' ∧ Nx H vb u) := by
  refine Ct.mk Try.func19 rfl Try.ntmps19 rfl ?_
  intro W0 hW0
  have o0 : OldB 0 H H := OldB.refl _ H
  have hlx1 := apL hx.2.1
  have hlx2 := apL hx.2.2.1
  have hv0 := w0.lt.imp (fun h => h) (fun h => h.2)
  have oZ : Old H H := Old.refl _
  unfold insV
  refine KC.seq ?_
  refine KC.region ?_
  refine KL.opM (M.box (cs := [vb]) rfl rfl w0.cells1) rfl rfl rfl ?_
  rintro _ H1 ⟨rfl, n1⟩
  have z1 := n1.2.1
  have o0 := o0.trans ((n1.1).b (by omega))
  have oZ := oZ.trans n1.1
  have b1 := n1.2.2
  have bb := b1
  refine KL.opM (M.box rfl rfl rfl) rfl rfl rfl ?_
  rintro _ H2 ⟨rfl, n2⟩
  have z2 := n2.2.1
  have o0 := o0.trans ((n2.1).b (by omega))
  have oZ := oZ.trans n2.1
  have bb := (n2.1).blk bb
  have b2 := n2.2.2
  have bx := b2
  have pt : PT H2 H2 (Array.size H) (Array.size H1) B vb vb vb x vl lb := ⟨bb, bx, w0.old oZ, hv0.imp id (fun e => by omega), hv0.imp id (fun e => by omega), Nx.refl _ _, Fr.refl _ _ _, fun H2 k => hs0 H2 ((oZ.b hB).trans k), by omega, ⟨by omega, by omega, by omega, by omega, by omega⟩, w0.lt.imp id (fun e => e.1)⟩
  have zpt := pt.sz
  have oHb : Old H H2 := oZ
  refine KL.op (R.assign rfl rfl) rfl rfl rfl ?_
  refine KL.nil ?_
  refine KQ.seq ?_
  refine KC.seq ?_
  refine KC.region ?_
  refine KL.op (R.load rfl Try.underlying23 rfl rfl (by first | exact cell_of pt.bb rfl | exact cell_of pt.bx rfl | assumption)) rfl rfl rfl ?_
  refine KL.op ((by first | exact R.fieldAddr rfl Try.underlying36 rfl rfl sz5 rfl | exact R.fieldAddrP rfl Try.underlying36 rfl rfl sz5 rfl)) rfl rfl rfl ?_
  refine KL.op (R.load rfl Try.underlying5 rfl rfl (by first | exact cell_of pt.bb rfl | exact cell_of pt.bx rfl | assumption)) rfl rfl rfl ?_
  refine KL.opM (M.lit rfl Try.underlying23 zs5 (by decide) rfl rfl rfl) rfl rfl rfl ?_
  rintro _ H3 ⟨rfl, n3⟩
  have z3 := n3.2.1
  have o0 := o0.trans ((n3.1).b (by omega))
  have pt := pt.old n3.1
  have b3 := n3.2.2
  have ptA := pt
  have hap : Sl 1 (EInt .u8) H3 _ [x.op] := Sl.lits (l := [x.op]) n3 rfl (by simp) (by intro y hy; simp only [List.mem_cons, List.not_mem_nil, or_false] at hy; subst hy; exact hx.1)
  have wo := ptA.wo
  have zpA := ptA.sz
  have lt4 := wo.lt
  refine KL.opM (M.appendN rfl Try.underlying23 inf5 rfl (by decide) rfl rfl wo (by exact hap) (fun _ _ h _ => h) (by omega) (by simp only [List.length_append, List.length_cons, List.length_nil]; omega) (by unfold maxLen; simp only [List.length_append, List.length_cons, List.length_nil]; omega)) rfl rfl rfl ?_
  rintro v1 H4 ⟨w4, g4, nx4⟩
  try dsimp only at g4 nx4
  have ob4 := g4.oldB wo (by omega)
  have o0 := o0.trans (ob4.mono (by omega))
  have z4 := ob4.1
  have wo := w4
  have ptB := ptA.app w4 g4 nx4
  have bb := ptB.bb
  have zpB := ptB.sz
  refine KL.opS (S.store rfl sz23 rfl rfl ptB.wo.cells1 ptB.wo.one bb (by simp)) rfl rfl ?_
  rintro H5 ⟨u5, b5⟩
  have o0 := o0.trans (OldB.upd u5 (by omega))
  have zu5 := u5.1
  have bb := b5
  have pt := ptB.sto u5 bb
  have zpt := pt.sz
  refine KL.nil ?_
  refine KQ.seq ?_
  refine KC.seq ?_
  refine KC.region ?_
  refine KL.op (R.makeFunc rfl rfl rfl) rfl rfl rfl ?_
  refine KL.op (R.assign rfl rfl) rfl rfl rfl ?_
  refine KL.nil ?_
  refine KQ.seq ?_
  refine KC.seq ?_
  refine KC.seq ?_
  refine KC.region ?_
  refine KL.op ((by first | exact R.fieldAddr rfl Try.underlying36 rfl rfl sz5 rfl | exact R.fieldAddrP rfl Try.underlying36 rfl rfl sz5 rfl)) rfl rfl rfl ?_
  refine KL.op (R.load rfl Try.underlying5 rfl rfl (by first | exact cell_of pt.bb rfl | exact cell_of pt.bx rfl | assumption)) rfl rfl rfl ?_
  refine KL.call rfl rfl rfl rfl Try.call29 rfl rfl rfl (Form_k _) ?_
  rintro _ _ ⟨rfl, rfl⟩
  rw [hf]
  refine KL.nil ?_
  refine KQ.seq ?_
  refine KC.block ?_
  refine KC.seq ?_
  refine KC.region ?_
  refine KL.op ((R.eql rfl rfl rfl).val (congrArg Value.bool (decide_eq_false (by decide)))) rfl rfl rfl ?_
  refine KL.op (R.assign rfl rfl) rfl rfl rfl ?_
  refine KL.nil ?_
  refine KQ.seq ?_
  refine KC.condF rfl ?_
  refine KC.seq ?_
  refine KC.seq ?_
  refine KC.region ?_
  refine KL.op ((R.eql rfl rfl rfl).val (congrArg Value.bool (decide_eq_true (by decide)))) rfl rfl rfl ?_
  refine KL.op (R.assign rfl rfl) rfl rfl rfl ?_
  refine KL.nil ?_
  refine KQ.seq ?_
  refine KC.condT rfl ?_
  refine KC.skip ?_
  refine KQ.seq ?_
  refine KC.condT rfl ?_
  refine KC.region ?_
  refine KL.op (R.move rfl rfl) rfl rfl rfl ?_
  refine KL.op ((by first | exact R.fieldAddr rfl Try.underlying36 rfl rfl sz33 rfl | exact R.fieldAddrP rfl Try.underlying36 rfl rfl sz33 rfl)) rfl rfl rfl ?_
  refine KL.op (R.load rfl Try.underlying33 rfl rfl (by first | exact cell_of pt.bb rfl | exact cell_of pt.bx rfl | assumption)) rfl rfl rfl ?_
  have hbz := pt.sz
  have hlz : True := by trivial
  refine KL.call rfl rfl rfl rfl Try.call30 rfl rfl rfl (put1_any pt.bb pt.wo pt.hne hbz.1 (by simp only [List.length_append, List.length_cons, List.length_nil]; omega) _ (hx.2.1)) ?_
  rintro _ H6 ⟨rfl, v3, bq, wq, hq, fq, nq⟩
  have pt := pt.num bq wq hq fq nq
  have zpt := pt.sz
  have zfq := fq.1
  have o0 : OldB 0 H H6 := ⟨by omega, fun k hk => by omega⟩
  refine KL.nil ?_
  refine KQ.normBlock ?_
  refine KQ.seq ?_
  refine KC.seq ?_
  refine KC.region ?_
  refine KL.op (R.load rfl Try.underlying23 rfl rfl (by first | exact cell_of pt.bb rfl | exact cell_of pt.bx rfl | assumption)) rfl rfl rfl ?_
  refine KL.op (R.assign rfl rfl) rfl rfl rfl ?_
  refine KL.nil ?_
  refine KQ.seq ?_
  refine KC.ret ?_
  refine KQ.ofRet ?_
  refine KQ.fin1 Try.results19 rfl ?_
  have e : Isp.bytes x = x.op :: Isp.apN false x.a := by unfold Isp.bytes Isp.bodyE Isp.rest Isp.labsE; rw [hf]; simp
  rw [e]
  obtain ⟨r1, r2, r3⟩ := pt.ends oHb (by omega) w0
  exact ⟨by simpa [List.append_assoc] using r1, r2, r3⟩

set_option maxRecDepth 100000 in
set_option maxHeartbeats 4000000 in
theorem put3 {H : Heap} {B : Nat} {vb : Value} {lb : List Int} {x : Ins} {vl : Value} (w0 : Own 1 (EInt .u8) 5 #[] B H vb lb) (hB : B ≤ H.size) (hx : InsR x) (hll : x.l.length ≤ 100000000) (hlb : lb.length ≤ 1000000000) (hs0 : ∀ H2, OldB B H H2 → Sl 1 (EInt .u32) H2 vl x.l) (hf : Opc.form x.op = 3) : Ct Try.prog 19 [vb, insV x vl] H (fun u H' => Own 1 (EInt .u8) 5 #[] B H' u (lb ++ Isp.bytes x) ∧ Grown vb H H' ∧ Nx H vb u) := by
  refine Ct.mk Try.func19 rfl Try.ntmps19 rfl ?_
  intro W0 hW0
  have o0 : OldB 0 H H := OldB.refl _ H
  have hlx1 := apL hx.2.1
  have hlx2 := apL hx.2.2.1
  have hv0 := w0.lt.imp (fun h => h) (fun h => h.2)
  have oZ : Old H H := Old.refl _
  unfold insV
  refine KC.seq ?_
  refine KC.region ?_
  refine KL.opM (M.box (cs := [vb]) rfl rfl w0.cells1) rfl rfl rfl ?_
  rintro _ H1 ⟨rfl, n1⟩
  have z1 := n1.2.1
  have o0 := o0.trans ((n1.1).b (by omega))
  have oZ := oZ.trans n1.1
  have b1 := n1.2.2
  have bb := b1
  refine KL.opM (M.box rfl rfl rfl) rfl rfl rfl ?_
  rintro _ H2 ⟨rfl, n2⟩
  have z2 := n2.2.1
  have o0 := o0.trans ((n2.1).b (by omega))
  have oZ := oZ.trans n2.1
  have bb := (n2.1).blk bb
  have b2 := n2.2.2
  have bx := b2
  have pt : PT H2 H2 (Array.size H) (Array.size H1) B vb vb vb x vl lb := ⟨bb, bx, w0.old oZ, hv0.imp id (fun e => by omega), hv0.imp id (fun e => by omega), Nx.refl _ _, Fr.refl _ _ _, fun H2 k => hs0 H2 ((oZ.b hB).trans k), by omega, ⟨by omega, by omega, by omega, by omega, by omega⟩, w0.lt.imp id (fun e => e.1)⟩
  have zpt := pt.sz
  have oHb : Old H H2 := oZ
  refine KL.op (R.assign rfl rfl) rfl rfl rfl ?_
  refine KL.nil ?_
  refine KQ.seq ?_
  refine KC.seq ?_
  refine KC.region ?_
  refine KL.op (R.load rfl Try.underlying23 rfl rfl (by first | exact cell_of pt.bb rfl | exact cell_of pt.bx rfl | assumption)) rfl rfl rfl ?_
  refine KL.op ((by first | exact R.fieldAddr rfl Try.underlying36 rfl rfl sz5 rfl | exact R.fieldAddrP rfl Try.underlying36 rfl rfl sz5 rfl)) rfl rfl rfl ?_
  refine KL.op (R.load rfl Try.underlying5 rfl rfl (by first | exact cell_of pt.bb rfl | exact cell_of pt.bx rfl | assumption)) rfl rfl rfl ?_
  refine KL.opM (M.lit rfl Try.underlying23 zs5 (by decide) rfl rfl rfl) rfl rfl rfl ?_
  rintro _ H3 ⟨rfl, n3⟩
  have z3 := n3.2.1
  have o0 := o0.trans ((n3.1).b (by omega))
  have pt := pt.old n3.1
  have b3 := n3.2.2
  have ptA := pt
  have hap : Sl 1 (EInt .u8) H3 _ [x.op] := Sl.lits (l := [x.op]) n3 rfl (by simp) (by intro y hy; simp only [List.mem_cons, List.not_mem_nil, or_false] at hy; subst hy; exact hx.1)
  have wo := ptA.wo
  have zpA := ptA.sz
  have lt4 := wo.lt
  refine KL.opM (M.appendN rfl Try.underlying23 inf5 rfl (by decide) rfl rfl wo (by exact hap) (fun _ _ h _ => h) (by omega) (by simp only [List.length_append, List.length_cons, List.length_nil]; omega) (by unfold maxLen; simp only [List.length_append, List.length_cons, List.length_nil]; omega)) rfl rfl rfl ?_
  rintro v1 H4 ⟨w4, g4, nx4⟩
  try dsimp only at g4 nx4
  have ob4 := g4.oldB wo (by omega)
  have o0 := o0.trans (ob4.mono (by omega))
  have z4 := ob4.1
  have wo := w4
  have ptB := ptA.app w4 g4 nx4
  have bb := ptB.bb
  have zpB := ptB.sz
  refine KL.opS (S.store rfl sz23 rfl rfl ptB.wo.cells1 ptB.wo.one bb (by simp)) rfl rfl ?_
  rintro H5 ⟨u5, b5⟩
  have o0 := o0.trans (OldB.upd u5 (by omega))
  have zu5 := u5.1
  have bb := b5
  have pt := ptB.sto u5 bb
  have zpt := pt.sz
  refine KL.nil ?_
  refine KQ.seq ?_
  refine KC.seq ?_
  refine KC.region ?_
  refine KL.op (R.makeFunc rfl rfl rfl) rfl rfl rfl ?_
  refine KL.op (R.assign rfl rfl) rfl rfl rfl ?_
  refine KL.nil ?_
  refine KQ.seq ?_
  refine KC.seq ?_
  refine KC.seq ?_
  refine KC.region ?_
  refine KL.op ((by first | exact R.fieldAddr rfl Try.underlying36 rfl rfl sz5 rfl | exact R.fieldAddrP rfl Try.underlying36 rfl rfl sz5 rfl)) rfl rfl rfl ?_
  refine KL.op (R.load rfl Try.underlying5 rfl rfl (by first | exact cell_of pt.bb rfl | exact cell_of pt.bx rfl | assumption)) rfl rfl rfl ?_
  refine KL.call rfl rfl rfl rfl Try.call29 rfl rfl rfl (Form_k _) ?_
  rintro _ _ ⟨rfl, rfl⟩
  rw [hf]
  refine KL.nil ?_
  refine KQ.seq ?_
  refine KC.block ?_
  refine KC.seq ?_
  refine KC.region ?_
  refine KL.op ((R.eql rfl rfl rfl).val (congrArg Value.bool (decide_eq_false (by decide)))) rfl rfl rfl ?_
  refine KL.op (R.assign rfl rfl) rfl rfl rfl ?_
  refine KL.nil ?_
  refine KQ.seq ?_
  refine KC.condF rfl ?_
  refine KC.seq ?_
  refine KC.seq ?_
  refine KC.region ?_
  refine KL.op ((R.eql rfl rfl rfl).val (congrArg Value.bool (decide_eq_false (by decide)))) rfl rfl rfl ?_
  refine KL.op (R.assign rfl rfl) rfl rfl rfl ?_
  refine KL.nil ?_
  refine KQ.seq ?_
  refine KC.condF rfl ?_
  refine KC.region ?_
  refine KL.op ((R.eql rfl rfl rfl).val (congrArg Value.bool (decide_eq_false (by decide)))) rfl rfl rfl ?_
  refine KL.op (R.assign rfl rfl) rfl rfl rfl ?_
  refine KL.nil ?_
  refine KQ.seq ?_
  refine KC.condF rfl ?_
  refine KC.seq ?_
  refine KC.region ?_
  refine KL.op ((R.eql rfl rfl rfl).val (congrArg Value.bool (decide_eq_true (by decide)))) rfl rfl rfl ?_
  refine KL.op (R.assign rfl rfl) rfl rfl rfl ?_
  refine KL.nil ?_
  refine KQ.seq ?_
  refine KC.condT rfl ?_
  refine KC.seq ?_
  refine KC.region ?_
  refine KL.op (R.move rfl rfl) rfl rfl rfl ?_
  refine KL.op ((by first | exact R.fieldAddr rfl Try.underlying36 rfl rfl sz34 rfl | exact R.fieldAddrP rfl Try.underlying36 rfl rfl sz34 rfl)) rfl rfl rfl ?_
  refine KL.op (R.load rfl Try.underlying34 rfl rfl (by first | exact cell_of pt.bb rfl | exact cell_of pt.bx rfl | assumption)) rfl rfl rfl ?_
  refine KL.op (R.lenS rfl Try.underlying34 rfl pt.sl) rfl rfl rfl ?_
  refine KL.op (R.convI rfl Try.underlying3 Try.underlying33 rfl (by dsimp only [InR]; omega)) rfl rfl rfl ?_
  have hbz := pt.sz
  have hlz : True := by trivial
  refine KL.call rfl rfl rfl rfl Try.call30 rfl rfl rfl (put1_any pt.bb pt.wo pt.hne hbz.1 (by simp only [List.length_append, List.length_cons, List.length_nil]; omega) _ (by dsimp only [InR]; omega)) ?_
  rintro _ H6 ⟨rfl, v4, bq, wq, hq, fq, nq⟩
  have pt := pt.num bq wq hq fq nq
  have zpt := pt.sz
  have zfq := fq.1
  have o0 : OldB 0 H H6 := ⟨by omega, fun k hk => by omega⟩
  refine KL.nil ?_
  refine KQ.seq ?_
  refine KC.seq ?_
  refine KC.seq ?_
  refine KC.region ?_
  refine KL.op ((by first | exact R.fieldAddr rfl Try.underlying36 rfl rfl sz34 rfl | exact R.fieldAddrP rfl Try.underlying36 rfl rfl sz34 rfl)) rfl rfl rfl ?_
  refine KL.op (R.load rfl Try.underlying34 rfl rfl (by first | exact cell_of pt.bb rfl | exact cell_of pt.bx rfl | assumption)) rfl rfl rfl ?_
  refine KL.op (R.lenS rfl Try.underlying34 rfl pt.sl) rfl rfl rfl ?_
  refine KL.op (R.move rfl rfl) rfl rfl rfl ?_
  refine KL.nil ?_
  refine KQ.seq ?_
  refine KC.block ?_
  refine KC.loopD (κ := Nat × Value) [44, 45, 46, 7, 47, 48, 49, 50, 43] (fun k => [(43, .int .i64 (k.1 : Nat))]) (fun k Hl => k.1 ≤ x.l.length ∧ PT H2 Hl (Array.size H) (Array.size H1) B vb k.2 k.2 x vl (lb ++ [x.op] ++ Isp.apN false (x.l.length : Nat) ++ (x.l.take k.1).flatMap (Isp.apN false)) ∧ OldB 0 H Hl) (fun k => x.l.length - k.1) (0, v4) ?_ ?_ ?_
  · exact (Sub.cons rfl (Ext.sub (Ext.refl _ _)))
  · exact ⟨Nat.zero_le _, by simpa using pt, o0⟩
  · rintro ⟨k, vk⟩ H7 ⟨hk, pt, o0⟩
    have zl_H7 := o0.1
    dsimp only at hk pt
    have zl := o0.1
    have zpt := pt.sz
    have hlen1 := apL (z := ((x.l.length : Nat) : Int)) (by dsimp only [InR]; omega)
    have hlen2 := apF (xs := x.l.take k) (fun y hy => pt.sl.rng y (List.mem_of_mem_take hy))
    rw [List.length_take] at hlen2
    refine KC.seq ?_
    refine KC.region ?_
    refine KL.op (R.lss rfl rfl rfl) rfl rfl rfl ?_
    refine KL.nil ?_
    refine KQ.seq ?_
    refine KC.seq ?_
    refine KC.iteL rfl ?_ ?_
    · intro hc44
      try simp only [decide_eq_true_eq, decide_eq_false_iff_not, Bool.not_eq_true', Bool.not_eq_false', Bool.and_eq_true, Bool.or_eq_false_iff] at hc44
      refine KC.skip ?_
      refine KQ.seq ?_
      refine KC.seq ?_
      refine KC.block ?_
      refine KC.seq ?_
      refine KC.region ?_
      refine KL.op (R.index1 (j := k) rfl Try.underlying34 sz33 rfl rfl pt.sl rfl (by omega)) rfl rfl rfl ?_
      refine KL.op (R.load rfl Try.underlying33 rfl rfl (pt.sl.int k (by omega)).1) rfl rfl rfl ?_
      refine KL.op (R.assign rfl rfl) rfl rfl rfl ?_
      refine KL.nil ?_
      refine KQ.seq ?_
      refine KC.region ?_
      refine KL.op (R.move rfl rfl) rfl rfl rfl ?_
      refine KL.op (R.move rfl rfl) rfl rfl rfl ?_
      have hbz := pt.sz
      have hlz : True := by trivial
      refine KL.call rfl rfl rfl rfl Try.call30 rfl rfl rfl (put1_any pt.bb pt.wo pt.hne hbz.1 (by simp only [List.length_append, List.length_cons, List.length_nil]; omega) _ ((pt.sl.int k (by omega)).2)) ?_
      rintro _ H8 ⟨rfl, vn, bq, wq, hq, fq, nq⟩
      have pt := pt.num bq wq hq fq nq
      have zpt := pt.sz
      have zfq := fq.1
      have o0 : OldB 0 H H8 := ⟨by omega, fun k hk => by omega⟩
      refine KL.nil ?_
      refine KQ.normBlock ?_
      refine KQ.seq ?_
      refine KC.region ?_
      refine KL.op ((R.add rfl rfl rfl (by dsimp only [InR]; omega)).val (congrArg (Value.int .i64) (show (k : Int) + 1 = ((k + 1 : Nat) : Int) by omega))) rfl rfl rfl ?_
      refine KL.op (R.move rfl rfl) rfl rfl rfl ?_
      refine KL.nil ?_
      refine KQ.again ((k + 1, vn)) ?_ ?_ ?_
      · exact (Sub.cons rfl (Ext.sub (by repeat (first | exact Ext.refl _ _ | refine Ext.put rfl ?_ | refine Ext.drop rfl ?_))))
      · show x.l.length - (k + 1) < x.l.length - k; omega
      · exact ⟨by show k + 1 ≤ _; omega, by dsimp only; rw [fm_take (by omega), ← List.append_assoc]; exact pt, o0⟩
    · intro hc44
      try simp only [decide_eq_true_eq, decide_eq_false_iff_not, Bool.not_eq_true', Bool.not_eq_false', Bool.and_eq_true, Bool.or_eq_false_iff] at hc44
      refine KC.exit ?_
      refine KQ.exitThen ?_
      refine KQ.exitThen ?_
      refine KQ.hit ?_
      refine KQ.seq ?_
      refine KC.region ?_
      refine KL.op (R.move rfl rfl) rfl rfl rfl ?_
      refine KL.op ((by first | exact R.fieldAddr rfl Try.underlying36 rfl rfl sz33 rfl | exact R.fieldAddrP rfl Try.underlying36 rfl rfl sz33 rfl)) rfl rfl rfl ?_
      refine KL.op (R.load rfl Try.underlying33 rfl rfl (by first | exact cell_of pt.bb rfl | exact cell_of pt.bx rfl | assumption)) rfl rfl rfl ?_
      have hbz := pt.sz
      have hlz : True := by trivial
      refine KL.call rfl rfl rfl rfl Try.call30 rfl rfl rfl (put1_any pt.bb pt.wo pt.hne hbz.1 (by simp only [List.length_append, List.length_cons, List.length_nil]; omega) _ (hx.2.1)) ?_
      rintro _ H9 ⟨rfl, v5, bq, wq, hq, fq, nq⟩
      have pt := pt.num bq wq hq fq nq
      have zpt := pt.sz
      have zfq := fq.1
      have o0 : OldB 0 H H9 := ⟨by omega, fun k hk => by omega⟩
      refine KL.nil ?_
      refine KQ.normBlock ?_
      refine KQ.seq ?_
      refine KC.seq ?_
      refine KC.region ?_
      refine KL.op (R.load rfl Try.underlying23 rfl rfl (by first | exact cell_of pt.bb rfl | exact cell_of pt.bx rfl | assumption)) rfl rfl rfl ?_
      refine KL.op (R.assign rfl rfl) rfl rfl rfl ?_
      refine KL.nil ?_
      refine KQ.seq ?_
      refine KC.ret ?_
      refine KQ.ofRet ?_
      refine KQ.fin1 Try.results19 rfl ?_
      have e : Isp.bytes x = x.op :: (Isp.apN false (x.l.length : Nat) ++ x.l.flatMap (Isp.apN false) ++ Isp.apN false x.a) := by unfold Isp.bytes Isp.bodyE Isp.rest Isp.labsE; rw [hf]; simp
      rw [e]
      have hkl : k = x.l.length := by omega
      rw [hkl, List.take_length] at pt
      obtain ⟨r1, r2, r3⟩ := pt.ends oHb (by omega) w0
      exact ⟨by simpa [List.append_assoc] using r1, r2, r3⟩

set_option maxRecDepth 100000 in
set_option maxHeartbeats 4000000 in
theorem put4 {H : Heap} {B : Nat} {vb : Value} {lb : List Int} {x : Ins} {vl : Value} (w0 : Own 1 (EInt .u8) 5 #[] B H vb lb) (hB : B ≤ H.size) (hx : InsR x) (hll : x.l.length ≤ 100000000) (hlb : lb.length ≤ 1000000000) (hs0 : ∀ H2, OldB B H H2 → Sl 1 (EInt .u32) H2 vl x.l) (hf : Opc.form x.op = 4) : Ct Try.prog 19 [vb, insV x vl] H (fun u H' => Own 1 (EInt .u8) 5 #[] B H' u (lb ++ Isp.bytes x) ∧ Grown vb H H' ∧ Nx H vb u) := by
  refine Ct.mk Try.func19 rfl Try.ntmps19 rfl ?_
  intro W0 hW0
  have o0 : OldB 0 H H := OldB.refl _ H
  have hlx1 := apL hx.2.1
  have hlx2 := apL hx.2.2.1
  have hv0 := w0.lt.imp (fun h => h) (fun h => h.2)
  have oZ : Old H H := Old.refl _
  unfold insV
  refine KC.seq ?_
  refine KC.region ?_
  refine KL.opM (M.box (cs := [vb]) rfl rfl w0.cells1) rfl rfl rfl ?_
  rintro _ H1 ⟨rfl, n1⟩
  have z1 := n1.2.1
  have o0 := o0.trans ((n1.1).b (by omega))
  have oZ := oZ.trans n1.1
  have b1 := n1.2.2
  have bb := b1
  refine KL.opM (M.box rfl rfl rfl) rfl rfl rfl ?_
  rintro _ H2 ⟨rfl, n2⟩
  have z2 := n2.2.1
  have o0 := o0.trans ((n2.1).b (by omega))
  have oZ := oZ.trans n2.1
  have bb := (n2.1).blk bb
  have b2 := n2.2.2
  have bx := b2
  have pt : PT H2 H2 (Array.size H) (Array.size H1) B vb vb vb x vl lb := ⟨bb, bx, w0.old oZ, hv0.imp id (fun e => by omega), hv0.imp id (fun e => by omega), Nx.refl _ _, Fr.refl _ _ _, fun H2 k => hs0 H2 ((oZ.b hB).trans k), by omega, ⟨by omega, by omega, by omega, by omega, by omega⟩, w0.lt.imp id (fun e => e.1)⟩
  have zpt := pt.sz
  have oHb : Old H H2 := oZ
  refine KL.op (R.assign rfl rfl) rfl rfl rfl ?_
  refine KL.nil ?_
  refine KQ.seq ?_
  refine KC.seq ?_
  refine KC.region ?_
  refine KL.op (R.load rfl Try.underlying23 rfl rfl (by first | exact cell_of pt.bb rfl | exact cell_of pt.bx rfl | assumption)) rfl rfl rfl ?_
  refine KL.op ((by first | exact R.fieldAddr rfl Try.underlying36 rfl rfl sz5 rfl | exact R.fieldAddrP rfl Try.underlying36 rfl rfl sz5 rfl)) rfl rfl rfl ?_
  refine KL.op (R.load rfl Try.underlying5 rfl rfl (by first | exact cell_of pt.bb rfl | exact cell_of pt.bx rfl | assumption)) rfl rfl rfl ?_
  refine KL.opM (M.lit rfl Try.underlying23 zs5 (by decide) rfl rfl rfl) rfl rfl rfl ?_
  rintro _ H3 ⟨rfl, n3⟩
  have z3 := n3.2.1
  have o0 := o0.trans ((n3.1).b (by omega))
  have pt := pt.old n3.1
  have b3 := n3.2.2
  have ptA := pt
  have hap : Sl 1 (EInt .u8) H3 _ [x.op] := Sl.lits (l := [x.op]) n3 rfl (by simp) (by intro y hy; simp only [List.mem_cons, List.not_mem_nil, or_false] at hy; subst hy; exact hx.1)
  have wo := ptA.wo
  have zpA := ptA.sz
  have lt4 := wo.lt
  refine KL.opM (M.appendN rfl Try.underlying23 inf5 rfl (by decide) rfl rfl wo (by exact hap) (fun _ _ h _ => h) (by omega) (by simp only [List.length_append, List.length_cons, List.length_nil]; omega) (by unfold maxLen; simp only [List.length_append, List.length_cons, List.length_nil]; omega)) rfl rfl rfl ?_
  rintro v1 H4 ⟨w4, g4, nx4⟩
  try dsimp only at g4 nx4
  have ob4 := g4.oldB wo (by omega)
  have o0 := o0.trans (ob4.mono (by omega))
  have z4 := ob4.1
  have wo := w4
  have ptB := ptA.app w4 g4 nx4
  have bb := ptB.bb
  have zpB := ptB.sz
  refine KL.opS (S.store rfl sz23 rfl rfl ptB.wo.cells1 ptB.wo.one bb (by simp)) rfl rfl ?_
  rintro H5 ⟨u5, b5⟩
  have o0 := o0.trans (OldB.upd u5 (by omega))
  have zu5 := u5.1
  have bb := b5
  have pt := ptB.sto u5 bb
  have zpt := pt.sz
  refine KL.nil ?_
  refine KQ.seq ?_
  refine KC.seq ?_
  refine KC.region ?_
  refine KL.op (R.makeFunc rfl rfl rfl) rfl rfl rfl ?_
  refine KL.op (R.assign rfl rfl) rfl rfl rfl ?_
  refine KL.nil ?_
  refine KQ.seq ?_
  refine KC.seq ?_
  refine KC.seq ?_
  refine KC.region ?_
  refine KL.op ((by first | exact R.fieldAddr rfl Try.underlying36 rfl rfl sz5 rfl | exact R.fieldAddrP rfl Try.underlying36 rfl rfl sz5 rfl)) rfl rfl rfl ?_
  refine KL.op (R.load rfl Try.underlying5 rfl rfl (by first | exact cell_of pt.bb rfl | exact cell_of pt.bx rfl | assumption)) rfl rfl rfl ?_
  refine KL.call rfl rfl rfl rfl Try.call29 rfl rfl rfl (Form_k _) ?_
  rintro _ _ ⟨rfl, rfl⟩
  rw [hf]
  refine KL.nil ?_
  refine KQ.seq ?_
  refine KC.block ?_
  refine KC.seq ?_
  refine KC.region ?_
  refine KL.op ((R.eql rfl rfl rfl).val (congrArg Value.bool (decide_eq_false (by decide)))) rfl rfl rfl ?_
  refine KL.op (R.assign rfl rfl) rfl rfl rfl ?_
  refine KL.nil ?_
  refine KQ.seq ?_
  refine KC.condF rfl ?_
  refine KC.seq ?_
  refine KC.seq ?_
  refine KC.region ?_
  refine KL.op ((R.eql rfl rfl rfl).val (congrArg Value.bool (decide_eq_false (by decide)))) rfl rfl rfl ?_
  refine KL.op (R.assign rfl rfl) rfl rfl rfl ?_
  refine KL.nil ?_
  refine KQ.seq ?_
  refine KC.condF rfl ?_
  refine KC.region ?_
  refine KL.op ((R.eql rfl rfl rfl).val (congrArg Value.bool (decide_eq_true (by decide)))) rfl rfl rfl ?_
  refine KL.op (R.assign rfl rfl) rfl rfl rfl ?_
  refine KL.nil ?_
  refine KQ.seq ?_
  refine KC.condT rfl ?_
  refine KC.region ?_
  refine KL.op (R.move rfl rfl) rfl rfl rfl ?_
  refine KL.op ((by first | exact R.fieldAddr rfl Try.underlying36 rfl rfl sz33 rfl | exact R.fieldAddrP rfl Try.underlying36 rfl rfl sz33 rfl)) rfl rfl rfl ?_
  refine KL.op (R.load rfl Try.underlying33 rfl rfl (by first | exact cell_of pt.bb rfl | exact cell_of pt.bx rfl | assumption)) rfl rfl rfl ?_
  have hbz := pt.sz
  have hlz : True := by trivial
  refine KL.call rfl rfl rfl rfl Try.call30 rfl rfl rfl (put1_any pt.bb pt.wo pt.hne hbz.1 (by simp only [List.length_append, List.length_cons, List.length_nil]; omega) _ (hx.2.1)) ?_
  rintro _ H6 ⟨rfl, v3, bq, wq, hq, fq, nq⟩
  have pt := pt.num bq wq hq fq nq
  have zpt := pt.sz
  have zfq := fq.1
  have o0 : OldB 0 H H6 := ⟨by omega, fun k hk => by omega⟩
  refine KL.nil ?_
  refine KQ.normBlock ?_
  refine KQ.seq ?_
  refine KC.seq ?_
  refine KC.region ?_
  refine KL.op (R.load rfl Try.underlying23 rfl rfl (by first | exact cell_of pt.bb rfl | exact cell_of pt.bx rfl | assumption)) rfl rfl rfl ?_
  refine KL.op (R.assign rfl rfl) rfl rfl rfl ?_
  refine KL.nil ?_
  refine KQ.seq ?_
  refine KC.ret ?_
  refine KQ.ofRet ?_
  refine KQ.fin1 Try.results19 rfl ?_
  have e : Isp.bytes x = x.op :: Isp.apN false x.a := by unfold Isp.bytes Isp.bodyE Isp.rest Isp.labsE; rw [hf]; simp
  rw [e]
  obtain ⟨r1, r2, r3⟩ := pt.ends oHb (by omega) w0
  exact ⟨by simpa [List.append_assoc] using r1, r2, r3⟩

set_option maxRecDepth 100000 in
set_option maxHeartbeats 4000000 in
theorem put5 {H : Heap} {B : Nat} {vb : Value} {lb : List Int} {x : Ins} {vl : Value} (w0 : Own 1 (EInt .u8) 5 #[] B H vb lb) (hB : B ≤ H.size) (hx : InsR x) (hll : x.l.length ≤ 100000000) (hlb : lb.length ≤ 1000000000) (hs0 : ∀ H2, OldB B H H2 → Sl 1 (EInt .u32) H2 vl x.l) (hf : Opc.form x.op = 5) : Ct Try.prog 19 [vb, insV x vl] H (fun u H' => Own 1 (EInt .u8) 5 #[] B H' u (lb ++ Isp.bytes x) ∧ Grown vb H H' ∧ Nx H vb u) := by
  refine Ct.mk Try.func19 rfl Try.ntmps19 rfl ?_
  intro W0 hW0
  have o0 : OldB 0 H H := OldB.refl _ H
  have hlx1 := apL hx.2.1
  have hlx2 := apL hx.2.2.1
  have hv0 := w0.lt.imp (fun h => h) (fun h => h.2)
  have oZ : Old H H := Old.refl _
  unfold insV
  refine KC.seq ?_
  refine KC.region ?_
  refine KL.opM (M.box (cs := [vb]) rfl rfl w0.cells1) rfl rfl rfl ?_
  rintro _ H1 ⟨rfl, n1⟩
  have z1 := n1.2.1
  have o0 := o0.trans ((n1.1).b (by omega))
  have oZ := oZ.trans n1.1
  have b1 := n1.2.2
  have bb := b1
  refine KL.opM (M.box rfl rfl rfl) rfl rfl rfl ?_
  rintro _ H2 ⟨rfl, n2⟩
  have z2 := n2.2.1
  have o0 := o0.trans ((n2.1).b (by omega))
  have oZ := oZ.trans n2.1
  have bb := (n2.1).blk bb
  have b2 := n2.2.2
  have bx := b2
  have pt : PT H2 H2 (Array.size H) (Array.size H1) B vb vb vb x vl lb := ⟨bb, bx, w0.old oZ, hv0.imp id (fun e => by omega), hv0.imp id (fun e => by omega), Nx.refl _ _, Fr.refl _ _ _, fun H2 k => hs0 H2 ((oZ.b hB).trans k), by omega, ⟨by omega, by omega, by omega, by omega, by omega⟩, w0.lt.imp id (fun e => e.1)⟩
  have zpt := pt.sz
  have oHb : Old H H2 := oZ
  refine KL.op (R.assign rfl rfl) rfl rfl rfl ?_
  refine KL.nil ?_
  refine KQ.seq ?_
  refine KC.seq ?_
  refine KC.region ?_
  refine KL.op (R.load rfl Try.underlying23 rfl rfl (by first | exact cell_of pt.bb rfl | exact cell_of pt.bx rfl | assumption)) rfl rfl rfl ?_
  refine KL.op ((by first | exact R.fieldAddr rfl Try.underlying36 rfl rfl sz5 rfl | exact R.fieldAddrP rfl Try.underlying36 rfl rfl sz5 rfl)) rfl rfl rfl ?_
  refine KL.op (R.load rfl Try.underlying5 rfl rfl (by first | exact cell_of pt.bb rfl | exact cell_of pt.bx rfl | assumption)) rfl rfl rfl ?_
  refine KL.opM (M.lit rfl Try.underlying23 zs5 (by decide) rfl rfl rfl) rfl rfl rfl ?_
  rintro _ H3 ⟨rfl, n3⟩
  have z3 := n3.2.1
  have o0 := o0.trans ((n3.1).b (by omega))
  have pt := pt.old n3.1
  have b3 := n3.2.2
  have ptA := pt
  have hap : Sl 1 (EInt .u8) H3 _ [x.op] := Sl.lits (l := [x.op]) n3 rfl (by simp) (by intro y hy; simp only [List.mem_cons, List.not_mem_nil, or_false] at hy; subst hy; exact hx.1)
  have wo := ptA.wo
  have zpA := ptA.sz
  have lt4 := wo.lt
  refine KL.opM (M.appendN rfl Try.underlying23 inf5 rfl (by decide) rfl rfl wo (by exact hap) (fun _ _ h _ => h) (by omega) (by simp only [List.length_append, List.length_cons, List.length_nil]; omega) (by unfold maxLen; simp only [List.length_append, List.length_cons, List.length_nil]; omega)) rfl rfl rfl ?_
  rintro v1 H4 ⟨w4, g4, nx4⟩
  try dsimp only at g4 nx4
  have ob4 := g4.oldB wo (by omega)
  have o0 := o0.trans (ob4.mono (by omega))
  have z4 := ob4.1
  have wo := w4
  have ptB := ptA.app w4 g4 nx4
  have bb := ptB.bb
  have zpB := ptB.sz
  refine KL.opS (S.store rfl sz23 rfl rfl ptB.wo.cells1 ptB.wo.one bb (by simp)) rfl rfl ?_
  rintro H5 ⟨u5, b5⟩
  have o0 := o0.trans (OldB.upd u5 (by omega))
  have zu5 := u5.1
  have bb := b5
  have pt := ptB.sto u5 bb
  have zpt := pt.sz
  refine KL.nil ?_
  refine KQ.seq ?_
  refine KC.seq ?_
  refine KC.region ?_
  refine KL.op (R.makeFunc rfl rfl rfl) rfl rfl rfl ?_
  refine KL.op (R.assign rfl rfl) rfl rfl rfl ?_
  refine KL.nil ?_
  refine KQ.seq ?_
  refine KC.seq ?_
  refine KC.seq ?_
  refine KC.region ?_
  refine KL.op ((by first | exact R.fieldAddr rfl Try.underlying36 rfl rfl sz5 rfl | exact R.fieldAddrP rfl Try.underlying36 rfl rfl sz5 rfl)) rfl rfl rfl ?_
  refine KL.op (R.load rfl Try.underlying5 rfl rfl (by first | exact cell_of pt.bb rfl | exact cell_of pt.bx rfl | assumption)) rfl rfl rfl ?_
  refine KL.call rfl rfl rfl rfl Try.call29 rfl rfl rfl (Form_k _) ?_
  rintro _ _ ⟨rfl, rfl⟩
  rw [hf]
  refine KL.nil ?_
  refine KQ.seq ?_
  refine KC.block ?_
  refine KC.seq ?_
  refine KC.region ?_
  refine KL.op ((R.eql rfl rfl rfl).val (congrArg Value.bool (decide_eq_false (by decide)))) rfl rfl rfl ?_
  refine KL.op (R.assign rfl rfl) rfl rfl rfl ?_
  refine KL.nil ?_
  refine KQ.seq ?_
  refine KC.condF rfl ?_
  refine KC.seq ?_
  refine KC.seq ?_
  refine KC.region ?_
  refine KL.op ((R.eql rfl rfl rfl).val (congrArg Value.bool (decide_eq_false (by decide)))) rfl rfl rfl ?_
  refine KL.op (R.assign rfl rfl) rfl rfl rfl ?_
  refine KL.nil ?_
  refine KQ.seq ?_
  refine KC.condF rfl ?_
  refine KC.region ?_
  refine KL.op ((R.eql rfl rfl rfl).val (congrArg Value.bool (decide_eq_false (by decide)))) rfl rfl rfl ?_
  refine KL.op (R.assign rfl rfl) rfl rfl rfl ?_
  refine KL.nil ?_
  refine KQ.seq ?_
  refine KC.condF rfl ?_
  refine KC.seq ?_
  refine KC.region ?_
  refine KL.op ((R.eql rfl rfl rfl).val (congrArg Value.bool (decide_eq_false (by decide)))) rfl rfl rfl ?_
  refine KL.op (R.assign rfl rfl) rfl rfl rfl ?_
  refine KL.nil ?_
  refine KQ.seq ?_
  refine KC.condF rfl ?_
  refine KC.seq ?_
  refine KC.region ?_
  refine KL.op ((R.eql rfl rfl rfl).val (congrArg Value.bool (decide_eq_true (by decide)))) rfl rfl rfl ?_
  refine KL.op (R.assign rfl rfl) rfl rfl rfl ?_
  refine KL.nil ?_
  refine KQ.seq ?_
  refine KC.condT rfl ?_
  refine KC.seq ?_
  refine KC.region ?_
  refine KL.op (R.move rfl rfl) rfl rfl rfl ?_
  refine KL.op ((by first | exact R.fieldAddr rfl Try.underlying36 rfl rfl sz33 rfl | exact R.fieldAddrP rfl Try.underlying36 rfl rfl sz33 rfl)) rfl rfl rfl ?_
  refine KL.op (R.load rfl Try.underlying33 rfl rfl (by first | exact cell_of pt.bb rfl | exact cell_of pt.bx rfl | assumption)) rfl rfl rfl ?_
  have hbz := pt.sz
  have hlz : True := by trivial
  refine KL.call rfl rfl rfl rfl Try.call30 rfl rfl rfl (put1_any pt.bb pt.wo pt.hne hbz.1 (by simp only [List.length_append, List.length_cons, List.length_nil]; omega) _ (hx.2.1)) ?_
  rintro _ H6 ⟨rfl, v6, bq, wq, hq, fq, nq⟩
  have pt := pt.num bq wq hq fq nq
  have zpt := pt.sz
  have zfq := fq.1
  have o0 : OldB 0 H H6 := ⟨by omega, fun k hk => by omega⟩
  refine KL.nil ?_
  refine KQ.seq ?_
  refine KC.region ?_
  refine KL.op (R.load rfl Try.underlying23 rfl rfl (by first | exact cell_of pt.bb rfl | exact cell_of pt.bx rfl | assumption)) rfl rfl rfl ?_
  refine KL.opM (M.lit rfl Try.underlying23 zs5 (by decide) rfl rfl rfl) rfl rfl rfl ?_
  rintro _ H7 ⟨rfl, n7⟩
  have z7 := n7.2.1
  have o0 := o0.trans ((n7.1).b (by omega))
  have pt := pt.old n7.1
  have b7 := n7.2.2
  have ptA := pt
  have hap : Sl 1 (EInt .u8) H7 _ [0] := Sl.lits (l := [0]) n7 rfl (by simp) (by decide)
  have wo := ptA.wo
  have zpA := ptA.sz
  have lt8 := wo.lt
  refine KL.opM (M.appendN rfl Try.underlying23 inf5 rfl (by decide) rfl rfl wo (by exact hap) (fun _ _ h _ => h) (by omega) (by simp only [List.length_append, List.length_cons, List.length_nil]; omega) (by unfold maxLen; simp only [List.length_append, List.length_cons, List.length_nil]; omega)) rfl rfl rfl ?_
  rintro v7 H8 ⟨w8, g8, nx8⟩
  try dsimp only at g8 nx8
  have ob8 := g8.oldB wo (by omega)
  have o0 := o0.trans (ob8.mono (by omega))
  have z8 := ob8.1
  have wo := w8
  have ptB := ptA.app w8 g8 nx8
  have bb := ptB.bb
  have zpB := ptB.sz
  refine KL.opS (S.store rfl sz23 rfl rfl ptB.wo.cells1 ptB.wo.one bb (by simp)) rfl rfl ?_
  rintro H9 ⟨u9, b9⟩
  have o0 := o0.trans (OldB.upd u9 (by omega))
  have zu9 := u9.1
  have bb := b9
  have pt := ptB.sto u9 bb
  have zpt := pt.sz
  refine KL.nil ?_
  refine KQ.normBlock ?_
  refine KQ.seq ?_
  refine KC.seq ?_
  refine KC.region ?_
  refine KL.op (R.load rfl Try.underlying23 rfl rfl (by first | exact cell_of pt.bb rfl | exact cell_of pt.bx rfl | assumption)) rfl rfl rfl ?_
  refine KL.op (R.assign rfl rfl) rfl rfl rfl ?_
  refine KL.nil ?_
  refine KQ.seq ?_
  refine KC.ret ?_
  refine KQ.ofRet ?_
  refine KQ.fin1 Try.results19 rfl ?_
  have e : Isp.bytes x = x.op :: (Isp.apN false x.a ++ [0]) := by unfold Isp.bytes Isp.bodyE Isp.rest Isp.labsE; rw [hf]; simp
  rw [e]
  obtain ⟨r1, r2, r3⟩ := pt.ends oHb (by omega) w0
  exact ⟨by simpa [List.append_assoc] using r1, r2, r3⟩

set_option maxRecDepth 100000 in
set_option maxHeartbeats 4000000 in
theorem put6 {H : Heap} {B : Nat} {vb : Value} {lb : List Int} {x : Ins} {vl : Value} (w0 : Own 1 (EInt .u8) 5 #[] B H vb lb) (hB : B ≤ H.size) (hx : InsR x) (hll : x.l.length ≤ 100000000) (hlb : lb.length ≤ 1000000000) (hs0 : ∀ H2, OldB B H H2 → Sl 1 (EInt .u32) H2 vl x.l) (hf : Opc.form x.op = 6) : Ct Try.prog 19 [vb, insV x vl] H (fun u H' => Own 1 (EInt .u8) 5 #[] B H' u (lb ++ Isp.bytes x) ∧ Grown vb H H' ∧ Nx H vb u) := by
  refine Ct.mk Try.func19 rfl Try.ntmps19 rfl ?_
  intro W0 hW0
  have o0 : OldB 0 H H := OldB.refl _ H
  have hlx1 := apL hx.2.1
  have hlx2 := apL hx.2.2.1
  have hv0 := w0.lt.imp (fun h => h) (fun h => h.2)
  have oZ : Old H H := Old.refl _
  unfold insV
  refine KC.seq ?_
  refine KC.region ?_
  refine KL.opM (M.box (cs := [vb]) rfl rfl w0.cells1) rfl rfl rfl ?_
  rintro _ H1 ⟨rfl, n1⟩
  have z1 := n1.2.1
  have o0 := o0.trans ((n1.1).b (by omega))
  have oZ := oZ.trans n1.1
  have b1 := n1.2.2
  have bb := b1
  refine KL.opM (M.box rfl rfl rfl) rfl rfl rfl ?_
  rintro _ H2 ⟨rfl, n2⟩
  have z2 := n2.2.1
  have o0 := o0.trans ((n2.1).b (by omega))
  have oZ := oZ.trans n2.1
  have bb := (n2.1).blk bb
  have b2 := n2.2.2
  have bx := b2
  have pt : PT H2 H2 (Array.size H) (Array.size H1) B vb vb vb x vl lb := ⟨bb, bx, w0.old oZ, hv0.imp id (fun e => by omega), hv0.imp id (fun e => by omega), Nx.refl _ _, Fr.refl _ _ _, fun H2 k => hs0 H2 ((oZ.b hB).trans k), by omega, ⟨by omega, by omega, by omega, by omega, by omega⟩, w0.lt.imp id (fun e => e.1)⟩
  have zpt := pt.sz
  have oHb : Old H H2 := oZ
  refine KL.op (R.assign rfl rfl) rfl rfl rfl ?_
  refine KL.nil ?_
  refine KQ.seq ?_
  refine KC.seq ?_
  refine KC.region ?_
  refine KL.op (R.load rfl Try.underlying23 rfl rfl (by first | exact cell_of pt.bb rfl | exact cell_of pt.bx rfl | assumption)) rfl rfl rfl ?_
  refine KL.op ((by first | exact R.fieldAddr rfl Try.underlying36 rfl rfl sz5 rfl | exact R.fieldAddrP rfl Try.underlying36 rfl rfl sz5 rfl)) rfl rfl rfl ?_
  refine KL.op (R.load rfl Try.underlying5 rfl rfl (by first | exact cell_of pt.bb rfl | exact cell_of pt.bx rfl | assumption)) rfl rfl rfl ?_
  refine KL.opM (M.lit rfl Try.underlying23 zs5 (by decide) rfl rfl rfl) rfl rfl rfl ?_
  rintro _ H3 ⟨rfl, n3⟩
  have z3 := n3.2.1
  have o0 := o0.trans ((n3.1).b (by omega))
  have pt := pt.old n3.1
  have b3 := n3.2.2
  have ptA := pt
  have hap : Sl 1 (EInt .u8) H3 _ [x.op] := Sl.lits (l := [x.op]) n3 rfl (by simp) (by intro y hy; simp only [List.mem_cons, List.not_mem_nil, or_false] at hy; subst hy; exact hx.1)
  have wo := ptA.wo
  have zpA := ptA.sz
  have lt4 := wo.lt
  refine KL.opM (M.appendN rfl Try.underlying23 inf5 rfl (by decide) rfl rfl wo (by exact hap) (fun _ _ h _ => h) (by omega) (by simp only [List.length_append, List.length_cons, List.length_nil]; omega) (by unfold maxLen; simp only [List.length_append, List.length_cons, List.length_nil]; omega)) rfl rfl rfl ?_
  rintro v1 H4 ⟨w4, g4, nx4⟩
  try dsimp only at g4 nx4
  have ob4 := g4.oldB wo (by omega)
  have o0 := o0.trans (ob4.mono (by omega))
  have z4 := ob4.1
  have wo := w4
  have ptB := ptA.app w4 g4 nx4
  have bb := ptB.bb
  have zpB := ptB.sz
  refine KL.opS (S.store rfl sz23 rfl rfl ptB.wo.cells1 ptB.wo.one bb (by simp)) rfl rfl ?_
  rintro H5 ⟨u5, b5⟩
  have o0 := o0.trans (OldB.upd u5 (by omega))
  have zu5 := u5.1
  have bb := b5
  have pt := ptB.sto u5 bb
  have zpt := pt.sz
  refine KL.nil ?_
  refine KQ.seq ?_
  refine KC.seq ?_
  refine KC.region ?_
  refine KL.op (R.makeFunc rfl rfl rfl) rfl rfl rfl ?_
  refine KL.op (R.assign rfl rfl) rfl rfl rfl ?_
  refine KL.nil ?_
  refine KQ.seq ?_
  refine KC.seq ?_
  refine KC.seq ?_
  refine KC.region ?_
  refine KL.op ((by first | exact R.fieldAddr rfl Try.underlying36 rfl rfl sz5 rfl | exact R.fieldAddrP rfl Try.underlying36 rfl rfl sz5 rfl)) rfl rfl rfl ?_
  refine KL.op (R.load rfl Try.underlying5 rfl rfl (by first | exact cell_of pt.bb rfl | exact cell_of pt.bx rfl | assumption)) rfl rfl rfl ?_
  refine KL.call rfl rfl rfl rfl Try.call29 rfl rfl rfl (Form_k _) ?_
  rintro _ _ ⟨rfl, rfl⟩
  rw [hf]
  refine KL.nil ?_
  refine KQ.seq ?_
  refine KC.block ?_
  refine KC.seq ?_
  refine KC.region ?_
  refine KL.op ((R.eql rfl rfl rfl).val (congrArg Value.bool (decide_eq_false (by decide)))) rfl rfl rfl ?_
  refine KL.op (R.assign rfl rfl) rfl rfl rfl ?_
  refine KL.nil ?_
  refine KQ.seq ?_
  refine KC.condF rfl ?_
  refine KC.seq ?_
  refine KC.seq ?_
  refine KC.region ?_
  refine KL.op ((R.eql rfl rfl rfl).val (congrArg Value.bool (decide_eq_false (by decide)))) rfl rfl rfl ?_
  refine KL.op (R.assign rfl rfl) rfl rfl rfl ?_
  refine KL.nil ?_
  refine KQ.seq ?_
  refine KC.condF rfl ?_
  refine KC.region ?_
  refine KL.op ((R.eql rfl rfl rfl).val (congrArg Value.bool (decide_eq_false (by decide)))) rfl rfl rfl ?_
  refine KL.op (R.assign rfl rfl) rfl rfl rfl ?_
  refine KL.nil ?_
  refine KQ.seq ?_
  refine KC.condF rfl ?_
  refine KC.seq ?_
  refine KC.region ?_
  refine KL.op ((R.eql rfl rfl rfl).val (congrArg Value.bool (decide_eq_false (by decide)))) rfl rfl rfl ?_
  refine KL.op (R.assign rfl rfl) rfl rfl rfl ?_
  refine KL.nil ?_
  refine KQ.seq ?_
  refine KC.condF rfl ?_
  refine KC.seq ?_
  refine KC.region ?_
  refine KL.op ((R.eql rfl rfl rfl).val (congrArg Value.bool (decide_eq_false (by decide)))) rfl rfl rfl ?_
  refine KL.op (R.assign rfl rfl) rfl rfl rfl ?_
  refine KL.nil ?_
  refine KQ.seq ?_
  refine KC.condF rfl ?_
  refine KC.seq ?_
  refine KC.region ?_
  refine KL.op ((R.eql rfl rfl rfl).val (congrArg Value.bool (decide_eq_true (by decide)))) rfl rfl rfl ?_
  refine KL.op (R.assign rfl rfl) rfl rfl rfl ?_
  refine KL.nil ?_
  refine KQ.seq ?_
  refine KC.condT rfl ?_
  refine KC.seq ?_
  refine KC.region ?_
  refine KL.op (R.move rfl rfl) rfl rfl rfl ?_
  refine KL.op ((by first | exact R.fieldAddr rfl Try.underlying36 rfl rfl sz33 rfl | exact R.fieldAddrP rfl Try.underlying36 rfl rfl sz33 rfl)) rfl rfl rfl ?_
  refine KL.op (R.load rfl Try.underlying33 rfl rfl (by first | exact cell_of pt.bb rfl | exact cell_of pt.bx rfl | assumption)) rfl rfl rfl ?_
  have hbz := pt.sz
  have hlz : True := by trivial
  refine KL.call rfl rfl rfl rfl Try.call30 rfl rfl rfl (put1_any pt.bb pt.wo pt.hne hbz.1 (by simp only [List.length_append, List.length_cons, List.length_nil]; omega) _ (hx.2.1)) ?_
  rintro _ H6 ⟨rfl, v8, bq, wq, hq, fq, nq⟩
  have pt := pt.num bq wq hq fq nq
  have zpt := pt.sz
  have zfq := fq.1
  have o0 : OldB 0 H H6 := ⟨by omega, fun k hk => by omega⟩
  refine KL.nil ?_
  refine KQ.seq ?_
  refine KC.region ?_
  refine KL.op (R.move rfl rfl) rfl rfl rfl ?_
  refine KL.op ((by first | exact R.fieldAddr rfl Try.underlying36 rfl rfl sz33 rfl | exact R.fieldAddrP rfl Try.underlying36 rfl rfl sz33 rfl)) rfl rfl rfl ?_
  refine KL.op (R.load rfl Try.underlying33 rfl rfl (by first | exact cell_of pt.bb rfl | exact cell_of pt.bx rfl | assumption)) rfl rfl rfl ?_
  have hbz := pt.sz
  have hlz : True := by trivial
  refine KL.call rfl rfl rfl rfl Try.call30 rfl rfl rfl (put1_any pt.bb pt.wo pt.hne hbz.1 (by simp only [List.length_append, List.length_cons, List.length_nil]; omega) _ (hx.2.2.1)) ?_
  rintro _ H7 ⟨rfl, v9, bq, wq, hq, fq, nq⟩
  have pt := pt.num bq wq hq fq nq
  have zpt := pt.sz
  have zfq := fq.1
  have o0 : OldB 0 H H7 := ⟨by omega, fun k hk => by omega⟩
  refine KL.nil ?_
  refine KQ.normBlock ?_
  refine KQ.seq ?_
  refine KC.seq ?_
  refine KC.region ?_
  refine KL.op (R.load rfl Try.underlying23 rfl rfl (by first | exact cell_of pt.bb rfl | exact cell_of pt.bx rfl | assumption)) rfl rfl rfl ?_
  refine KL.op (R.assign rfl rfl) rfl rfl rfl ?_
  refine KL.nil ?_
  refine KQ.seq ?_
  refine KC.ret ?_
  refine KQ.ofRet ?_
  refine KQ.fin1 Try.results19 rfl ?_
  have e : Isp.bytes x = x.op :: (Isp.apN false x.a ++ Isp.apN false x.b) := by unfold Isp.bytes Isp.bodyE Isp.rest Isp.labsE; rw [hf]; simp
  rw [e]
  obtain ⟨r1, r2, r3⟩ := pt.ends oHb (by omega) w0
  exact ⟨by simpa [List.append_assoc] using r1, r2, r3⟩

set_option maxRecDepth 100000 in
set_option maxHeartbeats 4000000 in
theorem put7 {H : Heap} {B : Nat} {vb : Value} {lb : List Int} {x : Ins} {vl : Value} (w0 : Own 1 (EInt .u8) 5 #[] B H vb lb) (hB : B ≤ H.size) (hx : InsR x) (hll : x.l.length ≤ 100000000) (hlb : lb.length ≤ 1000000000) (hs0 : ∀ H2, OldB B H H2 → Sl 1 (EInt .u32) H2 vl x.l) (hf : Opc.form x.op = 7) : Ct Try.prog 19 [vb, insV x vl] H (fun u H' => Own 1 (EInt .u8) 5 #[] B H' u (lb ++ Isp.bytes x) ∧ Grown vb H H' ∧ Nx H vb u) := by
  refine Ct.mk Try.func19 rfl Try.ntmps19 rfl ?_
  intro W0 hW0
  have o0 : OldB 0 H H := OldB.refl _ H
  have hlx1 := apL hx.2.1
  have hlx2 := apL hx.2.2.1
  have hv0 := w0.lt.imp (fun h => h) (fun h => h.2)
  have oZ : Old H H := Old.refl _
  unfold insV
  refine KC.seq ?_
  refine KC.region ?_
  refine KL.opM (M.box (cs := [vb]) rfl rfl w0.cells1) rfl rfl rfl ?_
  rintro _ H1 ⟨rfl, n1⟩
  have z1 := n1.2.1
  have o0 := o0.trans ((n1.1).b (by omega))
  have oZ := oZ.trans n1.1
  have b1 := n1.2.2
  have bb := b1
  refine KL.opM (M.box rfl rfl rfl) rfl rfl rfl ?_
  rintro _ H2 ⟨rfl, n2⟩
  have z2 := n2.2.1
  have o0 := o0.trans ((n2.1).b (by omega))
  have oZ := oZ.trans n2.1
  have bb := (n2.1).blk bb
  have b2 := n2.2.2
  have bx := b2
  have pt : PT H2 H2 (Array.size H) (Array.size H1) B vb vb vb x vl lb := ⟨bb, bx, w0.old oZ, hv0.imp id (fun e => by omega), hv0.imp id (fun e => by omega), Nx.refl _ _, Fr.refl _ _ _, fun H2 k => hs0 H2 ((oZ.b hB).trans k), by omega, ⟨by omega, by omega, by omega, by omega, by omega⟩, w0.lt.imp id (fun e => e.1)⟩
  have zpt := pt.sz
  have oHb : Old H H2 := oZ
  refine KL.op (R.assign rfl rfl) rfl rfl rfl ?_
  refine KL.nil ?_
  refine KQ.seq ?_
  refine KC.seq ?_
  refine KC.region ?_
  refine KL.op (R.load rfl Try.underlying23 rfl rfl (by first | exact cell_of pt.bb rfl | exact cell_of pt.bx rfl | assumption)) rfl rfl rfl ?_
  refine KL.op ((by first | exact R.fieldAddr rfl Try.underlying36 rfl rfl sz5 rfl | exact R.fieldAddrP rfl Try.underlying36 rfl rfl sz5 rfl)) rfl rfl rfl ?_
  refine KL.op (R.load rfl Try.underlying5 rfl rfl (by first | exact cell_of pt.bb rfl | exact cell_of pt.bx rfl | assumption)) rfl rfl rfl ?_
  refine KL.opM (M.lit rfl Try.underlying23 zs5 (by decide) rfl rfl rfl) rfl rfl rfl ?_
  rintro _ H3 ⟨rfl, n3⟩
  have z3 := n3.2.1
  have o0 := o0.trans ((n3.1).b (by omega))
  have pt := pt.old n3.1
  have b3 := n3.2.2
  have ptA := pt
  have hap : Sl 1 (EInt .u8) H3 _ [x.op] := Sl.lits (l := [x.op]) n3 rfl (by simp) (by intro y hy; simp only [List.mem_cons, List.not_mem_nil, or_false] at hy; subst hy; exact hx.1)
  have wo := ptA.wo
  have zpA := ptA.sz
  have lt4 := wo.lt
  refine KL.opM (M.appendN rfl Try.underlying23 inf5 rfl (by decide) rfl rfl wo (by exact hap) (fun _ _ h _ => h) (by omega) (by simp only [List.length_append, List.length_cons, List.length_nil]; omega) (by unfold maxLen; simp only [List.length_append, List.length_cons, List.length_nil]; omega)) rfl rfl rfl ?_
  rintro v1 H4 ⟨w4, g4, nx4⟩
  try dsimp only at g4 nx4
  have ob4 := g4.oldB wo (by omega)
  have o0 := o0.trans (ob4.mono (by omega))
  have z4 := ob4.1
  have wo := w4
  have ptB := ptA.app w4 g4 nx4
  have bb := ptB.bb
  have zpB := ptB.sz
  refine KL.opS (S.store rfl sz23 rfl rfl ptB.wo.cells1 ptB.wo.one bb (by simp)) rfl rfl ?_
  rintro H5 ⟨u5, b5⟩
  have o0 := o0.trans (OldB.upd u5 (by omega))
  have zu5 := u5.1
  have bb := b5
  have pt := ptB.sto u5 bb
  have zpt := pt.sz
  refine KL.nil ?_
  refine KQ.seq ?_
  refine KC.seq ?_
  refine KC.region ?_
  refine KL.op (R.makeFunc rfl rfl rfl) rfl rfl rfl ?_
  refine KL.op (R.assign rfl rfl) rfl rfl rfl ?_
  refine KL.nil ?_
  refine KQ.seq ?_
  refine KC.seq ?_
  refine KC.seq ?_
  refine KC.region ?_
  refine KL.op ((by first | exact R.fieldAddr rfl Try.underlying36 rfl rfl sz5 rfl | exact R.fieldAddrP rfl Try.underlying36 rfl rfl sz5 rfl)) rfl rfl rfl ?_
  refine KL.op (R.load rfl Try.underlying5 rfl rfl (by first | exact cell_of pt.bb rfl | exact cell_of pt.bx rfl | assumption)) rfl rfl rfl ?_
  refine KL.call rfl rfl rfl rfl Try.call29 rfl rfl rfl (Form_k _) ?_
  rintro _ _ ⟨rfl, rfl⟩
  rw [hf]
  refine KL.nil ?_
  refine KQ.seq ?_
  refine KC.block ?_
  refine KC.seq ?_
  refine KC.region ?_
  refine KL.op ((R.eql rfl rfl rfl).val (congrArg Value.bool (decide_eq_false (by decide)))) rfl rfl rfl ?_
  refine KL.op (R.assign rfl rfl) rfl rfl rfl ?_
  refine KL.nil ?_
  refine KQ.seq ?_
  refine KC.condF rfl ?_
  refine KC.seq ?_
  refine KC.seq ?_
  refine KC.region ?_
  refine KL.op ((R.eql rfl rfl rfl).val (congrArg Value.bool (decide_eq_false (by decide)))) rfl rfl rfl ?_
  refine KL.op (R.assign rfl rfl) rfl rfl rfl ?_
  refine KL.nil ?_
  refine KQ.seq ?_
  refine KC.condF rfl ?_
  refine KC.region ?_
  refine KL.op ((R.eql rfl rfl rfl).val (congrArg Value.bool (decide_eq_false (by decide)))) rfl rfl rfl ?_
  refine KL.op (R.assign rfl rfl) rfl rfl rfl ?_
  refine KL.nil ?_
  refine KQ.seq ?_
  refine KC.condF rfl ?_
  refine KC.seq ?_
  refine KC.region ?_
  refine KL.op ((R.eql rfl rfl rfl).val (congrArg Value.bool (decide_eq_false (by decide)))) rfl rfl rfl ?_
  refine KL.op (R.assign rfl rfl) rfl rfl rfl ?_
  refine KL.nil ?_
  refine KQ.seq ?_
  refine KC.condF rfl ?_
  refine KC.seq ?_
  refine KC.region ?_
  refine KL.op ((R.eql rfl rfl rfl).val (congrArg Value.bool (decide_eq_false (by decide)))) rfl rfl rfl ?_
  refine KL.op (R.assign rfl rfl) rfl rfl rfl ?_
  refine KL.nil ?_
  refine KQ.seq ?_
  refine KC.condF rfl ?_
  refine KC.seq ?_
  refine KC.region ?_
  refine KL.op ((R.eql rfl rfl rfl).val (congrArg Value.bool (decide_eq_false (by decide)))) rfl rfl rfl ?_
  refine KL.op (R.assign rfl rfl) rfl rfl rfl ?_
  refine KL.nil ?_
  refine KQ.seq ?_
  refine KC.condF rfl ?_
  refine KC.seq ?_
  refine KC.region ?_
  refine KL.op ((R.eql rfl rfl rfl).val (congrArg Value.bool (decide_eq_true (by decide)))) rfl rfl rfl ?_
  refine KL.op (R.assign rfl rfl) rfl rfl rfl ?_
  refine KL.nil ?_
  refine KQ.seq ?_
  refine KC.condT rfl ?_
  refine KC.region ?_
  refine KL.op (R.load rfl Try.underlying23 rfl rfl (by first | exact cell_of pt.bb rfl | exact cell_of pt.bx rfl | assumption)) rfl rfl rfl ?_
  refine KL.opM (M.lit rfl Try.underlying23 zs5 (by decide) rfl rfl rfl) rfl rfl rfl ?_
  rintro _ H6 ⟨rfl, n6⟩
  have z6 := n6.2.1
  have o0 := o0.trans ((n6.1).b (by omega))
  have pt := pt.old n6.1
  have b6 := n6.2.2
  have ptA := pt
  have hap : Sl 1 (EInt .u8) H6 _ [0] := Sl.lits (l := [0]) n6 rfl (by simp) (by decide)
  have wo := ptA.wo
  have zpA := ptA.sz
  have lt7 := wo.lt
  refine KL.opM (M.appendN rfl Try.underlying23 inf5 rfl (by decide) rfl rfl wo (by exact hap) (fun _ _ h _ => h) (by omega) (by simp only [List.length_append, List.length_cons, List.length_nil]; omega) (by unfold maxLen; simp only [List.length_append, List.length_cons, List.length_nil]; omega)) rfl rfl rfl ?_
  rintro va H7 ⟨w7, g7, nx7⟩
  try dsimp only at g7 nx7
  have ob7 := g7.oldB wo (by omega)
  have o0 := o0.trans (ob7.mono (by omega))
  have z7 := ob7.1
  have wo := w7
  have ptB := ptA.app w7 g7 nx7
  have bb := ptB.bb
  have zpB := ptB.sz
  refine KL.opS (S.store rfl sz23 rfl rfl ptB.wo.cells1 ptB.wo.one bb (by simp)) rfl rfl ?_
  rintro H8 ⟨u8, b8⟩
  have o0 := o0.trans (OldB.upd u8 (by omega))
  have zu8 := u8.1
  have bb := b8
  have pt := ptB.sto u8 bb
  have zpt := pt.sz
  refine KL.nil ?_
  refine KQ.normBlock ?_
  refine KQ.seq ?_
  refine KC.seq ?_
  refine KC.region ?_
  refine KL.op (R.load rfl Try.underlying23 rfl rfl (by first | exact cell_of pt.bb rfl | exact cell_of pt.bx rfl | assumption)) rfl rfl rfl ?_
  refine KL.op (R.assign rfl rfl) rfl rfl rfl ?_
  refine KL.nil ?_
  refine KQ.seq ?_
  refine KC.ret ?_
  refine KQ.ofRet ?_
  refine KQ.fin1 Try.results19 rfl ?_
  have e : Isp.bytes x = x.op :: [0] := by unfold Isp.bytes Isp.bodyE Isp.rest Isp.labsE; rw [hf]; simp
  rw [e]
  obtain ⟨r1, r2, r3⟩ := pt.ends oHb (by omega) w0
  exact ⟨by simpa [List.append_assoc] using r1, r2, r3⟩

set_option maxRecDepth 100000 in
set_option maxHeartbeats 4000000 in
theorem put8 {H : Heap} {B : Nat} {vb : Value} {lb : List Int} {x : Ins} {vl : Value} (w0 : Own 1 (EInt .u8) 5 #[] B H vb lb) (hB : B ≤ H.size) (hx : InsR x) (hll : x.l.length ≤ 100000000) (hlb : lb.length ≤ 1000000000) (hs0 : ∀ H2, OldB B H H2 → Sl 1 (EInt .u32) H2 vl x.l) (hf : Opc.form x.op = 8) : Ct Try.prog 19 [vb, insV x vl] H (fun u H' => Own 1 (EInt .u8) 5 #[] B H' u (lb ++ Isp.bytes x) ∧ Grown vb H H' ∧ Nx H vb u) := by
  refine Ct.mk Try.func19 rfl Try.ntmps19 rfl ?_
  intro W0 hW0
  have o0 : OldB 0 H H := OldB.refl _ H
  have hlx1 := apL hx.2.1
  have hlx2 := apL hx.2.2.1
  have hv0 := w0.lt.imp (fun h => h) (fun h => h.2)
  have oZ : Old H H := Old.refl _
  unfold insV
  refine KC.seq ?_
  refine KC.region ?_
  refine KL.opM (M.box (cs := [vb]) rfl rfl w0.cells1) rfl rfl rfl ?_
  rintro _ H1 ⟨rfl, n1⟩
  have z1 := n1.2.1
  have o0 := o0.trans ((n1.1).b (by omega))
  have oZ := oZ.trans n1.1
  have b1 := n1.2.2
  have bb := b1
  refine KL.opM (M.box rfl rfl rfl) rfl rfl rfl ?_
  rintro _ H2 ⟨rfl, n2⟩
  have z2 := n2.2.1
  have o0 := o0.trans ((n2.1).b (by omega))
  have oZ := oZ.trans n2.1
  have bb := (n2.1).blk bb
  have b2 := n2.2.2
  have bx := b2
  have pt : PT H2 H2 (Array.size H) (Array.size H1) B vb vb vb x vl lb := ⟨bb, bx, w0.old oZ, hv0.imp id (fun e => by omega), hv0.imp id (fun e => by omega), Nx.refl _ _, Fr.refl _ _ _, fun H2 k => hs0 H2 ((oZ.b hB).trans k), by omega, ⟨by omega, by omega, by omega, by omega, by omega⟩, w0.lt.imp id (fun e => e.1)⟩
  have zpt := pt.sz
  have oHb : Old H H2 := oZ
  refine KL.op (R.assign rfl rfl) rfl rfl rfl ?_
  refine KL.nil ?_
  refine KQ.seq ?_
  refine KC.seq ?_
  refine KC.region ?_
  refine KL.op (R.load rfl Try.underlying23 rfl rfl (by first | exact cell_of pt.bb rfl | exact cell_of pt.bx rfl | assumption)) rfl rfl rfl ?_
  refine KL.op ((by first | exact R.fieldAddr rfl Try.underlying36 rfl rfl sz5 rfl | exact R.fieldAddrP rfl Try.underlying36 rfl rfl sz5 rfl)) rfl rfl rfl ?_
  refine KL.op (R.load rfl Try.underlying5 rfl rfl (by first | exact cell_of pt.bb rfl | exact cell_of pt.bx rfl | assumption)) rfl rfl rfl ?_
  refine KL.opM (M.lit rfl Try.underlying23 zs5 (by decide) rfl rfl rfl) rfl rfl rfl ?_
  rintro _ H3 ⟨rfl, n3⟩
  have z3 := n3.2.1
  have o0 := o0.trans ((n3.1).b (by omega))
  have pt := pt.old n3.1
  have b3 := n3.2.2
  have ptA := pt
  have hap : Sl 1 (EInt .u8) H3 _ [x.op] := Sl.lits (l := [x.op]) n3 rfl (by simp) (by intro y hy; simp only [List.mem_cons, List.not_mem_nil, or_false] at hy; subst hy; exact hx.1)
  have wo := ptA.wo
  have zpA := ptA.sz
  have lt4 := wo.lt
  refine KL.opM (M.appendN rfl Try.underlying23 inf5 rfl (by decide) rfl rfl wo (by exact hap) (fun _ _ h _ => h) (by omega) (by simp only [List.length_append, List.length_cons, List.length_nil]; omega) (by unfold maxLen; simp only [List.length_append, List.length_cons, List.length_nil]; omega)) rfl rfl rfl ?_
  rintro v1 H4 ⟨w4, g4, nx4⟩
  try dsimp only at g4 nx4
  have ob4 := g4.oldB wo (by omega)
  have o0 := o0.trans (ob4.mono (by omega))
  have z4 := ob4.1
  have wo := w4
  have ptB := ptA.app w4 g4 nx4
  have bb := ptB.bb
  have zpB := ptB.sz
  refine KL.opS (S.store rfl sz23 rfl rfl ptB.wo.cells1 ptB.wo.one bb (by simp)) rfl rfl ?_
  rintro H5 ⟨u5, b5⟩
  have o0 := o0.trans (OldB.upd u5 (by omega))
  have zu5 := u5.1
  have bb := b5
  have pt := ptB.sto u5 bb
  have zpt := pt.sz
  refine KL.nil ?_
  refine KQ.seq ?_
  refine KC.seq ?_
  refine KC.region ?_
  refine KL.op (R.makeFunc rfl rfl rfl) rfl rfl rfl ?_
  refine KL.op (R.assign rfl rfl) rfl rfl rfl ?_
  refine KL.nil ?_
  refine KQ.seq ?_
  refine KC.seq ?_
  refine KC.seq ?_
  refine KC.region ?_
  refine KL.op ((by first | exact R.fieldAddr rfl Try.underlying36 rfl rfl sz5 rfl | exact R.fieldAddrP rfl Try.underlying36 rfl rfl sz5 rfl)) rfl rfl rfl ?_
  refine KL.op (R.load rfl Try.underlying5 rfl rfl (by first | exact cell_of pt.bb rfl | exact cell_of pt.bx rfl | assumption)) rfl rfl rfl ?_
  refine KL.call rfl rfl rfl rfl Try.call29 rfl rfl rfl (Form_k _) ?_
  rintro _ _ ⟨rfl, rfl⟩
  rw [hf]
  refine KL.nil ?_
  refine KQ.seq ?_
  refine KC.block ?_
  refine KC.seq ?_
  refine KC.region ?_
  refine KL.op ((R.eql rfl rfl rfl).val (congrArg Value.bool (decide_eq_false (by decide)))) rfl rfl rfl ?_
  refine KL.op (R.assign rfl rfl) rfl rfl rfl ?_
  refine KL.nil ?_
  refine KQ.seq ?_
  refine KC.condF rfl ?_
  refine KC.seq ?_
  refine KC.seq ?_
  refine KC.region ?_
  refine KL.op ((R.eql rfl rfl rfl).val (congrArg Value.bool (decide_eq_false (by decide)))) rfl rfl rfl ?_
  refine KL.op (R.assign rfl rfl) rfl rfl rfl ?_
  refine KL.nil ?_
  refine KQ.seq ?_
  refine KC.condF rfl ?_
  refine KC.region ?_
  refine KL.op ((R.eql rfl rfl rfl).val (congrArg Value.bool (decide_eq_false (by decide)))) rfl rfl rfl ?_
  refine KL.op (R.assign rfl rfl) rfl rfl rfl ?_
  refine KL.nil ?_
  refine KQ.seq ?_
  refine KC.condF rfl ?_
  refine KC.seq ?_
  refine KC.region ?_
  refine KL.op ((R.eql rfl rfl rfl).val (congrArg Value.bool (decide_eq_false (by decide)))) rfl rfl rfl ?_
  refine KL.op (R.assign rfl rfl) rfl rfl rfl ?_
  refine KL.nil ?_
  refine KQ.seq ?_
  refine KC.condF rfl ?_
  refine KC.seq ?_
  refine KC.region ?_
  refine KL.op ((R.eql rfl rfl rfl).val (congrArg Value.bool (decide_eq_false (by decide)))) rfl rfl rfl ?_
  refine KL.op (R.assign rfl rfl) rfl rfl rfl ?_
  refine KL.nil ?_
  refine KQ.seq ?_
  refine KC.condF rfl ?_
  refine KC.seq ?_
  refine KC.region ?_
  refine KL.op ((R.eql rfl rfl rfl).val (congrArg Value.bool (decide_eq_false (by decide)))) rfl rfl rfl ?_
  refine KL.op (R.assign rfl rfl) rfl rfl rfl ?_
  refine KL.nil ?_
  refine KQ.seq ?_
  refine KC.condF rfl ?_
  refine KC.seq ?_
  refine KC.region ?_
  refine KL.op ((R.eql rfl rfl rfl).val (congrArg Value.bool (decide_eq_false (by decide)))) rfl rfl rfl ?_
  refine KL.op (R.assign rfl rfl) rfl rfl rfl ?_
  refine KL.nil ?_
  refine KQ.seq ?_
  refine KC.condF rfl ?_
  refine KC.seq ?_
  refine KC.seq ?_
  refine KC.region ?_
  refine KL.op ((R.eql rfl rfl rfl).val (congrArg Value.bool (decide_eq_true (by decide)))) rfl rfl rfl ?_
  refine KL.op (R.assign rfl rfl) rfl rfl rfl ?_
  refine KL.nil ?_
  refine KQ.seq ?_
  refine KC.condT rfl ?_
  refine KC.skip ?_
  refine KQ.seq ?_
  refine KC.condT rfl ?_
  refine KC.order [0, 1, 2, 3, 4, 5] (clOf [(3, 2), (4, 2), (5, 2)]) (fun j Hc => (j = 0 → Hc[(Array.size H)]? = some (.cells [v1].toArray 23 (0, 0))) ∧ (j = 2 → Hc[(Array.size H1)]? = some (.cells [.int .u8 x.op, .int .u32 x.a, .int .u32 x.b, .int .i64 x.c, vl].toArray 36 (0, 0)))) (fun _ _ => False) (by kernel_rfl) (by kernel_rfl) (by kernel_rfl) rfl (fun _ => ⟨fun _ => pt.bb, fun _ => pt.bx⟩) (fun _ _ h => h.elim) ?_
  refine KO.op rfl rfl (fun Hg hg => R.load rfl Try.underlying23 rfl rfl (cell_of (hg.1 rfl) rfl)) rfl rfl rfl ?_
  refine KO.op rfl rfl (fun Hg hg => (by first | exact R.fieldAddr rfl Try.underlying36 rfl rfl sz2 rfl | exact R.fieldAddrP rfl Try.underlying36 rfl rfl sz2 rfl)) rfl rfl rfl ?_
  refine KO.op rfl rfl (fun Hg hg => R.load rfl Try.underlying2 rfl rfl (cell_of (hg.2 rfl) rfl)) rfl rfl rfl ?_
  refine KO.call rfl rfl rfl rfl rfl rfl Try.call32 rfl rfl rfl (AppS_k x.c hx.2.2.2) (fun _ _ hR _ _ _ => ⟨fun _ => hR.2.blk pt.bb, fun _ => hR.2.blk pt.bx⟩) ?_
  rintro va H6 ⟨wa, ox⟩
  have zc_H6 := (ox).1
  have o0 := o0.trans ((ox).b (by omega))
  have pt := pt.old ox
  have ptA := pt
  have hap := wa.sl (emptyOld _) (by omega)
  have hal := apS hx.2.2.2
  have wo := ptA.wo
  have zpA := ptA.sz
  have lt7 := wo.lt
  refine KO.opM rfl rfl (M.appendN rfl Try.underlying23 inf5 rfl (by decide) rfl rfl wo (by exact hap) (fun _ _ h _ => h) (by omega) (by simp only [List.length_append, List.length_cons, List.length_nil]; omega) (by unfold maxLen; simp only [List.length_append, List.length_cons, List.length_nil]; omega)) rfl rfl rfl (fun _ _ hR j _ hj2 => ⟨fun hj => by subst hj; exact absurd (by decide +kernel) hj2, fun hj => by subst hj; exact absurd (by decide +kernel) hj2⟩) ?_
  rintro vs H7 ⟨w7, g7, nx7⟩
  try dsimp only at g7 nx7
  have ob7 := g7.oldB wo (by omega)
  have o0 := o0.trans (ob7.mono (by omega))
  have z7 := ob7.1
  have wo := w7
  have ptB := ptA.app w7 g7 nx7
  have bb := ptB.bb
  have zpB := ptB.sz
  refine KO.opS rfl rfl (S.store rfl sz23 rfl rfl ptB.wo.cells1 ptB.wo.one bb (by simp)) rfl rfl (fun _ h j hj1 hj2 => ⟨fun hj => by subst hj; exact absurd (by decide +kernel) hj2, fun hj => by subst hj; exact absurd (by decide +kernel) hj2⟩) ?_
  rintro H8 ⟨u8, b8⟩
  have o0 := o0.trans (OldB.upd u8 (by omega))
  have zu8 := u8.1
  have bb := b8
  have pt := ptB.sto u8 bb
  have zpt := pt.sz
  refine KO.nil ?_
  refine KQ.normBlock ?_
  refine KQ.seq ?_
  refine KC.seq ?_
  refine KC.region ?_
  refine KL.op (R.load rfl Try.underlying23 rfl rfl (by first | exact cell_of pt.bb rfl | exact cell_of pt.bx rfl | assumption)) rfl rfl rfl ?_
  refine KL.op (R.assign rfl rfl) rfl rfl rfl ?_
  refine KL.nil ?_
  refine KQ.seq ?_
  refine KC.ret ?_
  refine KQ.ofRet ?_
  refine KQ.fin1 Try.results19 rfl ?_
  have e : Isp.bytes x = x.op :: Isp.apN true x.c := by unfold Isp.bytes Isp.bodyE Isp.rest Isp.labsE; rw [hf]; simp
  rw [e]
  obtain ⟨r1, r2, r3⟩ := pt.ends oHb (by omega) w0
  exact ⟨by simpa [List.append_assoc] using r1, r2, r3⟩

set_option maxRecDepth 100000 in
set_option maxHeartbeats 4000000 in
theorem put9 {H : Heap} {B : Nat} {vb : Value} {lb : List Int} {x : Ins} {vl : Value} (w0 : Own 1 (EInt .u8) 5 #[] B H vb lb) (hB : B ≤ H.size) (hx : InsR x) (hll : x.l.length ≤ 100000000) (hlb : lb.length ≤ 1000000000) (hs0 : ∀ H2, OldB B H H2 → Sl 1 (EInt .u32) H2 vl x.l) (hf : Opc.form x.op = 9) : Ct Try.prog 19 [vb, insV x vl] H (fun u H' => Own 1 (EInt .u8) 5 #[] B H' u (lb ++ Isp.bytes x) ∧ Grown vb H H' ∧ Nx H vb u) := by
  refine Ct.mk Try.func19 rfl Try.ntmps19 rfl ?_
  intro W0 hW0
  have o0 : OldB 0 H H := OldB.refl _ H
  have hlx1 := apL hx.2.1
  have hlx2 := apL hx.2.2.1
  have hv0 := w0.lt.imp (fun h => h) (fun h => h.2)
  have oZ : Old H H := Old.refl _
  unfold insV
  refine KC.seq ?_
  refine KC.region ?_
  refine KL.opM (M.box (cs := [vb]) rfl rfl w0.cells1) rfl rfl rfl ?_
  rintro _ H1 ⟨rfl, n1⟩
  have z1 := n1.2.1
  have o0 := o0.trans ((n1.1).b (by omega))
  have oZ := oZ.trans n1.1
  have b1 := n1.2.2
  have bb := b1
  refine KL.opM (M.box rfl rfl rfl) rfl rfl rfl ?_
  rintro _ H2 ⟨rfl, n2⟩
  have z2 := n2.2.1
  have o0 := o0.trans ((n2.1).b (by omega))
  have oZ := oZ.trans n2.1
  have bb := (n2.1).blk bb
  have b2 := n2.2.2
  have bx := b2
  have pt : PT H2 H2 (Array.size H) (Array.size H1) B vb vb vb x vl lb := ⟨bb, bx, w0.old oZ, hv0.imp id (fun e => by omega), hv0.imp id (fun e => by omega), Nx.refl _ _, Fr.refl _ _ _, fun H2 k => hs0 H2 ((oZ.b hB).trans k), by omega, ⟨by omega, by omega, by omega, by omega, by omega⟩, w0.lt.imp id (fun e => e.1)⟩
  have zpt := pt.sz
  have oHb : Old H H2 := oZ
  refine KL.op (R.assign rfl rfl) rfl rfl rfl ?_
  refine KL.nil ?_
  refine KQ.seq ?_
  refine KC.seq ?_
  refine KC.region ?_
  refine KL.op (R.load rfl Try.underlying23 rfl rfl (by first | exact cell_of pt.bb rfl | exact cell_of pt.bx rfl | assumption)) rfl rfl rfl ?_
  refine KL.op ((by first | exact R.fieldAddr rfl Try.underlying36 rfl rfl sz5 rfl | exact R.fieldAddrP rfl Try.underlying36 rfl rfl sz5 rfl)) rfl rfl rfl ?_
  refine KL.op (R.load rfl Try.underlying5 rfl rfl (by first | exact cell_of pt.bb rfl | exact cell_of pt.bx rfl | assumption)) rfl rfl rfl ?_
  refine KL.opM (M.lit rfl Try.underlying23 zs5 (by decide) rfl rfl rfl) rfl rfl rfl ?_
  rintro _ H3 ⟨rfl, n3⟩
  have z3 := n3.2.1
  have o0 := o0.trans ((n3.1).b (by omega))
  have pt := pt.old n3.1
  have b3 := n3.2.2
  have ptA := pt
  have hap : Sl 1 (EInt .u8) H3 _ [x.op] := Sl.lits (l := [x.op]) n3 rfl (by simp) (by intro y hy; simp only [List.mem_cons, List.not_mem_nil, or_false] at hy; subst hy; exact hx.1)
  have wo := ptA.wo
  have zpA := ptA.sz
  have lt4 := wo.lt
  refine KL.opM (M.appendN rfl Try.underlying23 inf5 rfl (by decide) rfl rfl wo (by exact hap) (fun _ _ h _ => h) (by omega) (by simp only [List.length_append, List.length_cons, List.length_nil]; omega) (by unfold maxLen; simp only [List.length_append, List.length_cons, List.length_nil]; omega)) rfl rfl rfl ?_
  rintro v1 H4 ⟨w4, g4, nx4⟩
  try dsimp only at g4 nx4
  have ob4 := g4.oldB wo (by omega)
  have o0 := o0.trans (ob4.mono (by omega))
  have z4 := ob4.1
  have wo := w4
  have ptB := ptA.app w4 g4 nx4
  have bb := ptB.bb
  have zpB := ptB.sz
  refine KL.opS (S.store rfl sz23 rfl rfl ptB.wo.cells1 ptB.wo.one bb (by simp)) rfl rfl ?_
  rintro H5 ⟨u5, b5⟩
  have o0 := o0.trans (OldB.upd u5 (by omega))
  have zu5 := u5.1
  have bb := b5
  have pt := ptB.sto u5 bb
  have zpt := pt.sz
  refine KL.nil ?_
  refine KQ.seq ?_
  refine KC.seq ?_
  refine KC.region ?_
  refine KL.op (R.makeFunc rfl rfl rfl) rfl rfl rfl ?_
  refine KL.op (R.assign rfl rfl) rfl rfl rfl ?_
  refine KL.nil ?_
  refine KQ.seq ?_
  refine KC.seq ?_
  refine KC.seq ?_
  refine KC.region ?_
  refine KL.op ((by first | exact R.fieldAddr rfl Try.underlying36 rfl rfl sz5 rfl | exact R.fieldAddrP rfl Try.underlying36 rfl rfl sz5 rfl)) rfl rfl rfl ?_
  refine KL.op (R.load rfl Try.underlying5 rfl rfl (by first | exact cell_of pt.bb rfl | exact cell_of pt.bx rfl | assumption)) rfl rfl rfl ?_
  refine KL.call rfl rfl rfl rfl Try.call29 rfl rfl rfl (Form_k _) ?_
  rintro _ _ ⟨rfl, rfl⟩
  rw [hf]
  refine KL.nil ?_
  refine KQ.seq ?_
  refine KC.block ?_
  refine KC.seq ?_
  refine KC.region ?_
  refine KL.op ((R.eql rfl rfl rfl).val (congrArg Value.bool (decide_eq_false (by decide)))) rfl rfl rfl ?_
  refine KL.op (R.assign rfl rfl) rfl rfl rfl ?_
  refine KL.nil ?_
  refine KQ.seq ?_
  refine KC.condF rfl ?_
  refine KC.seq ?_
  refine KC.seq ?_
  refine KC.region ?_
  refine KL.op ((R.eql rfl rfl rfl).val (congrArg Value.bool (decide_eq_false (by decide)))) rfl rfl rfl ?_
  refine KL.op (R.assign rfl rfl) rfl rfl rfl ?_
  refine KL.nil ?_
  refine KQ.seq ?_
  refine KC.condF rfl ?_
  refine KC.region ?_
  refine KL.op ((R.eql rfl rfl rfl).val (congrArg Value.bool (decide_eq_false (by decide)))) rfl rfl rfl ?_
  refine KL.op (R.assign rfl rfl) rfl rfl rfl ?_
  refine KL.nil ?_
  refine KQ.seq ?_
  refine KC.condF rfl ?_
  refine KC.seq ?_
  refine KC.region ?_
  refine KL.op ((R.eql rfl rfl rfl).val (congrArg Value.bool (decide_eq_false (by decide)))) rfl rfl rfl ?_
  refine KL.op (R.assign rfl rfl) rfl rfl rfl ?_
  refine KL.nil ?_
  refine KQ.seq ?_
  refine KC.condF rfl ?_
  refine KC.seq ?_
  refine KC.region ?_
  refine KL.op ((R.eql rfl rfl rfl).val (congrArg Value.bool (decide_eq_false (by decide)))) rfl rfl rfl ?_
  refine KL.op (R.assign rfl rfl) rfl rfl rfl ?_
  refine KL.nil ?_
  refine KQ.seq ?_
  refine KC.condF rfl ?_
  refine KC.seq ?_
  refine KC.region ?_
  refine KL.op ((R.eql rfl rfl rfl).val (congrArg Value.bool (decide_eq_false (by decide)))) rfl rfl rfl ?_
  refine KL.op (R.assign rfl rfl) rfl rfl rfl ?_
  refine KL.nil ?_
  refine KQ.seq ?_
  refine KC.condF rfl ?_
  refine KC.seq ?_
  refine KC.region ?_
  refine KL.op ((R.eql rfl rfl rfl).val (congrArg Value.bool (decide_eq_false (by decide)))) rfl rfl rfl ?_
  refine KL.op (R.assign rfl rfl) rfl rfl rfl ?_
  refine KL.nil ?_
  refine KQ.seq ?_
  refine KC.condF rfl ?_
  refine KC.seq ?_
  refine KC.seq ?_
  refine KC.region ?_
  refine KL.op ((R.eql rfl rfl rfl).val (congrArg Value.bool (decide_eq_false (by decide)))) rfl rfl rfl ?_
  refine KL.op (R.assign rfl rfl) rfl rfl rfl ?_
  refine KL.nil ?_
  refine KQ.seq ?_
  refine KC.condF rfl ?_
  refine KC.region ?_
  refine KL.op ((R.eql rfl rfl rfl).val (congrArg Value.bool (decide_eq_true (by decide)))) rfl rfl rfl ?_
  refine KL.op (R.assign rfl rfl) rfl rfl rfl ?_
  refine KL.nil ?_
  refine KQ.seq ?_
  refine KC.condT rfl ?_
  refine KC.order [0, 1, 2, 3, 4, 5] (clOf [(3, 2), (4, 2), (5, 2)]) (fun j Hc => (j = 0 → Hc[(Array.size H)]? = some (.cells [v1].toArray 23 (0, 0))) ∧ (j = 2 → Hc[(Array.size H1)]? = some (.cells [.int .u8 x.op, .int .u32 x.a, .int .u32 x.b, .int .i64 x.c, vl].toArray 36 (0, 0)))) (fun _ _ => False) (by kernel_rfl) (by kernel_rfl) (by kernel_rfl) rfl (fun _ => ⟨fun _ => pt.bb, fun _ => pt.bx⟩) (fun _ _ h => h.elim) ?_
  refine KO.op rfl rfl (fun Hg hg => R.load rfl Try.underlying23 rfl rfl (cell_of (hg.1 rfl) rfl)) rfl rfl rfl ?_
  refine KO.op rfl rfl (fun Hg hg => (by first | exact R.fieldAddr rfl Try.underlying36 rfl rfl sz2 rfl | exact R.fieldAddrP rfl Try.underlying36 rfl rfl sz2 rfl)) rfl rfl rfl ?_
  refine KO.op rfl rfl (fun Hg hg => R.load rfl Try.underlying2 rfl rfl (cell_of (hg.2 rfl) rfl)) rfl rfl rfl ?_
  refine KO.call rfl rfl rfl rfl rfl rfl Try.call32 rfl rfl rfl (AppS_k x.c hx.2.2.2) (fun _ _ hR _ _ _ => ⟨fun _ => hR.2.blk pt.bb, fun _ => hR.2.blk pt.bx⟩) ?_
  rintro va H6 ⟨wa, ox⟩
  have zc_H6 := (ox).1
  have o0 := o0.trans ((ox).b (by omega))
  have pt := pt.old ox
  have ptA := pt
  have hap := wa.sl (emptyOld _) (by omega)
  have hal := apS hx.2.2.2
  have wo := ptA.wo
  have zpA := ptA.sz
  have lt7 := wo.lt
  refine KO.opM rfl rfl (M.appendN rfl Try.underlying23 inf5 rfl (by decide) rfl rfl wo (by exact hap) (fun _ _ h _ => h) (by omega) (by simp only [List.length_append, List.length_cons, List.length_nil]; omega) (by unfold maxLen; simp only [List.length_append, List.length_cons, List.length_nil]; omega)) rfl rfl rfl (fun _ _ hR j _ hj2 => ⟨fun hj => by subst hj; exact absurd (by decide +kernel) hj2, fun hj => by subst hj; exact absurd (by decide +kernel) hj2⟩) ?_
  rintro vs H7 ⟨w7, g7, nx7⟩
  try dsimp only at g7 nx7
  have ob7 := g7.oldB wo (by omega)
  have o0 := o0.trans (ob7.mono (by omega))
  have z7 := ob7.1
  have wo := w7
  have ptB := ptA.app w7 g7 nx7
  have bb := ptB.bb
  have zpB := ptB.sz
  refine KO.opS rfl rfl (S.store rfl sz23 rfl rfl ptB.wo.cells1 ptB.wo.one bb (by simp)) rfl rfl (fun _ h j hj1 hj2 => ⟨fun hj => by subst hj; exact absurd (by decide +kernel) hj2, fun hj => by subst hj; exact absurd (by decide +kernel) hj2⟩) ?_
  rintro H8 ⟨u8, b8⟩
  have o0 := o0.trans (OldB.upd u8 (by omega))
  have zu8 := u8.1
  have bb := b8
  have pt := ptB.sto u8 bb
  have zpt := pt.sz
  refine KO.nil ?_
  refine KQ.normBlock ?_
  refine KQ.seq ?_
  refine KC.seq ?_
  refine KC.region ?_
  refine KL.op (R.load rfl Try.underlying23 rfl rfl (by first | exact cell_of pt.bb rfl | exact cell_of pt.bx rfl | assumption)) rfl rfl rfl ?_
  refine KL.op (R.assign rfl rfl) rfl rfl rfl ?_
  refine KL.nil ?_
  refine KQ.seq ?_
  refine KC.ret ?_
  refine KQ.ofRet ?_
  refine KQ.fin1 Try.results19 rfl ?_
  have e : Isp.bytes x = x.op :: Isp.apN true x.c := by unfold Isp.bytes Isp.bodyE Isp.rest Isp.labsE; rw [hf]; simp
  rw [e]
  obtain ⟨r1, r2, r3⟩ := pt.ends oHb (by omega) w0
  exact ⟨by simpa [List.append_assoc] using r1, r2, r3⟩

theorem put_any {H : Heap} {B : Nat} {vb : Value} {lb : List Int} {x : Ins} {vl : Value} (w0 : Own 1 (EInt .u8) 5 #[] B H vb lb) (hB : B ≤ H.size) (hx : InsR x) (hll : x.l.length ≤ 100000000) (hlb : lb.length ≤ 1000000000) (hs0 : ∀ H2, OldB B H H2 → Sl 1 (EInt .u32) H2 vl x.l) (hM : Isp.May x) : Ct Try.prog 19 [vb, insV x vl] H (fun u H' => Own 1 (EInt .u8) 5 #[] B H' u (lb ++ Isp.bytes x) ∧ Grown vb H H' ∧ Nx H vb u) := by
  have hfr := Isp.form_range hx.1
  have hrg : ∀ y ∈ x.l, InR .u32 y := (hs0 H (OldB.refl _ _)).rng
  have hc : Opc.form x.op = 0 ∨ Opc.form x.op = 1 ∨ Opc.form x.op = 2 ∨ Opc.form x.op = 3 ∨ Opc.form x.op = 4 ∨ Opc.form x.op = 5 ∨ Opc.form x.op = 6 ∨ Opc.form x.op = 7 ∨ Opc.form x.op = 8 ∨ Opc.form x.op = 9 := by omega
  rcases hc with h | h | h | h | h | h | h | h | h | h
  · exact put0 w0 hB hx hll hlb hs0 h
  · exact put1 w0 hB hx hll hlb hs0 h (by have := ((Isp.may_iff hx (by omega) hrg).1 hM).2.1; omega)
  · exact put2 w0 hB hx hll hlb hs0 h
  · exact put3 w0 hB hx hll hlb hs0 h
  · exact put4 w0 hB hx hll hlb hs0 h
  · exact put5 w0 hB hx hll hlb hs0 h
  · exact put6 w0 hB hx hll hlb hs0 h
  · exact put7 w0 hB hx hll hlb hs0 h
  · exact put8 w0 hB hx hll hlb hs0 h
  · exact put9 w0 hB hx hll hlb hs0 h
end Go.Proofs.Ytnjodpgahbpiaaa
