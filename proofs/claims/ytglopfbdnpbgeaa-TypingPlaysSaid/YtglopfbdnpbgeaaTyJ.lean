/- gabellelaw09.known is true. No condition. -/
import Derived.Test.YtglopfbdnpbgeaaTyI
import Derived.Test.YtglopfbdnpbgeaaKStr
namespace Go.Proofs.Ytglopfbdnpbgeaa
open Go Go.RowKit
set_option linter.unusedVariables false
set_option linter.unusedSimpArgs false
set_option linter.unnecessarySimpa false
theorem TS.base_le {B B' : Nat} {X : Nat → Prop} {H : Heap} {g : Nat} {vl vf : Value} {s : DS} (h : TS B X H g vl vf s) (hB : B' ≤ B) : TS B' X H g vl vf s :=
  ⟨h.bg, by have := h.hB; omega, h.wl.weak hB, h.wf.weak hB, h.ngl, h.ngf, h.nlf, h.hX, h.hm, h.ha, h.hf⟩
theorem RS.base_le {B B' : Nat} {X : Nat → Prop} {H : Heap} {g : Nat} {vL : Value} {s : DS} (h : RS B X H g vL s) (hB : B' ≤ B) : RS B' X H g vL s :=
  ⟨h.bg, by have := h.hB; omega, h.wL.weak hB, h.ng, h.hX, h.hm, h.ha, h.hf⟩

set_option maxRecDepth 100000 in
set_option maxHeartbeats 4000000 in
theorem known_k {H : Heap} : Ct Try.prog 6 [] H (fun u H' => u = .bool true ∧ Old H H') := by
  refine Ct.mk Try.func6 rfl Try.ntmps6 rfl ?_
  intro W0 hW0
  have o0 : Old H H := Old.refl H
  refine KC.seq ?_
  refine KC.region ?_
  refine KL.op (R.assign rfl rfl) rfl rfl rfl ?_
  refine KL.nil ?_
  refine KQ.seq ?_
  refine KC.seq ?_
  refine KC.region ?_
  refine KL.opM (M.lit rfl Try.underlying22 zs5 (by decide) rfl rfl rfl) rfl rfl rfl ?_
  rintro _ H1 ⟨rfl, n1⟩
  have z1 := n1.2.1
  have o0 := o0.trans n1.1
  have b1 := n1.2.2
  have h1 : Sl 1 (EInt .u8) H1 _ [127] := Sl.lits (l := [127]) n1 rfl (by simp) (by decide)
  refine KL.call rfl rfl rfl rfl Try.call8 rfl rfl rfl (New_k h1 (by decide)) ?_
  rintro _ H2 ⟨g, vl, vf, rfl, ts0, ox⟩
  have ts : TS H.size (fun _ => False) H2 g vl vf ⟨[⟨[127], [127], [], false⟩], [], 0⟩ := TS.base_le ts0 (by have := o0.1; omega)
  have zc_H2 := (ox).1
  have o0 := o0.trans ox
  have h1 := h1.old ox
  refine KL.op (R.assign rfl rfl) rfl rfl rfl ?_
  refine KL.nil ?_
  refine KQ.seq ?_
  refine KC.seq ?_
  refine KC.region ?_
  refine KL.op (R.move rfl rfl) rfl rfl rfl ?_
  refine KL.opM (M.lit rfl Try.underlying22 zs5 (by decide) rfl rfl rfl) rfl rfl rfl ?_
  rintro _ H3 ⟨rfl, n3⟩
  have z3 := n3.2.1
  have o0 := o0.trans n3.1
  have ts := ts.old n3.1
  have b3 := n3.2.2
  have h1 : Sl 1 (EInt .u8) H3 _ [127, 126] := Sl.lits (l := [127, 126]) n3 rfl (by simp) (by decide)
  refine KL.call rfl rfl rfl rfl Try.call10 rfl rfl rfl (Push_k ts h1 (by decide)) ?_
  rintro uu H4 ⟨vl, ts1, st⟩
  have hob := st.oldB (B0 := H.size) (by have := o0.1; omega) (fun b hb => (ts.low b hb).1)
  have ts : TS H.size (fun _ => False) H4 _ _ _ ⟨[⟨[127], [127], [127, 126], false⟩], [], 2⟩ := ts1
  have z_hob := hob.1
  have o0 := o0.then hob (by omega)
  refine KL.nil ?_
  refine KQ.seq ?_
  refine KC.seq ?_
  refine KC.seq ?_
  refine KC.region ?_
  refine KL.op (R.move rfl rfl) rfl rfl rfl ?_
  refine KL.opM (M.lit rfl Try.underlying22 zs5 (by decide) rfl rfl rfl) rfl rfl rfl ?_
  rintro _ H5 ⟨rfl, n5⟩
  have z5 := n5.2.1
  have o0 := o0.trans n5.1
  have ts := ts.old n5.1
  have b5 := n5.2.2
  have h1 : Sl 1 (EInt .u8) H5 _ [127, 126] := Sl.lits (l := [127, 126]) n5 rfl (by simp) (by decide)
  refine KL.call rfl rfl rfl rfl Try.call14 rfl rfl rfl (Want_k ts h1) ?_
  rintro uu H6 ⟨vl, hu, ts1, st⟩
  have hu : uu = .bool true := hu
  subst hu
  have hob := st.oldB (B0 := H.size) (by have := o0.1; omega) (fun b hb => (ts.low b hb).1)
  have ts : TS H.size (fun _ => False) H6 _ _ _ ⟨[⟨[127], [127], [], false⟩], [], 2⟩ := ts1
  have z_hob := hob.1
  have o0 := o0.then hob (by omega)
  refine KL.op (R.not rfl rfl) rfl rfl rfl ?_
  refine KL.nil ?_
  refine KQ.seq ?_
  refine KC.condF rfl ?_
  refine KC.skip ?_
  refine KQ.seq ?_
  refine KC.seq ?_
  refine KC.seq ?_
  refine KC.region ?_
  refine KL.op (R.move rfl rfl) rfl rfl rfl ?_
  refine KL.call rfl rfl rfl rfl Try.call12 rfl rfl rfl (Pop_k ts) ?_
  rintro uu H7 ⟨vl, hu, ts1, st⟩
  have hu : uu = .tuple #[.int .u8 0, .bool false] := hu
  subst hu
  have hob := st.oldB (B0 := H.size) (by have := o0.1; omega) (fun b hb => (ts.low b hb).1)
  have ts : TS H.size (fun _ => False) H7 _ _ _ ⟨[⟨[127], [127], [], false⟩], [], 2⟩ := ts1
  have z_hob := hob.1
  have o0 := o0.then hob (by omega)
  refine KL.op (R.move rfl rfl) rfl rfl rfl ?_
  refine KL.op (R.extract rfl rfl rfl) rfl rfl rfl ?_
  refine KL.op (R.extract rfl rfl rfl) rfl rfl rfl ?_
  refine KL.op (R.assign rfl rfl) rfl rfl rfl ?_
  refine KL.op (R.assign rfl rfl) rfl rfl rfl ?_
  refine KL.nil ?_
  refine KQ.seq ?_
  refine KC.seq ?_
  refine KC.region ?_
  refine KL.op (R.move rfl rfl) rfl rfl rfl ?_
  refine KL.nil ?_
  refine KQ.seq ?_
  refine KC.condF rfl ?_
  refine KC.skip ?_
  refine KQ.seq ?_
  refine KC.seq ?_
  refine KC.region ?_
  refine KL.op (R.move rfl rfl) rfl rfl rfl ?_
  refine KL.call rfl rfl rfl rfl Try.call20 rfl rfl rfl (Dead_k ts) ?_
  rintro uu H8 ⟨vl, ts1, st⟩
  have hob := st.oldB (B0 := H.size) (by have := o0.1; omega) (fun b hb => (ts.low b hb).1)
  have ts : TS H.size (fun _ => False) H8 _ _ _ ⟨[⟨[127], [127], [], true⟩], [], 2⟩ := ts1
  have z_hob := hob.1
  have o0 := o0.then hob (by omega)
  refine KL.nil ?_
  refine KQ.seq ?_
  refine KC.seq ?_
  refine KC.region ?_
  refine KL.op (R.move rfl rfl) rfl rfl rfl ?_
  refine KL.call rfl rfl rfl rfl Try.call12 rfl rfl rfl (Pop_k ts) ?_
  rintro uu H9 ⟨vl, hu, ts1, st⟩
  have hu : uu = .tuple #[.int .u8 0, .bool true] := hu
  subst hu
  have hob := st.oldB (B0 := H.size) (by have := o0.1; omega) (fun b hb => (ts.low b hb).1)
  have ts : TS H.size (fun _ => False) H9 _ _ _ ⟨[⟨[127], [127], [], true⟩], [], 2⟩ := ts1
  have z_hob := hob.1
  have o0 := o0.then hob (by omega)
  refine KL.op (R.move rfl rfl) rfl rfl rfl ?_
  refine KL.op (R.extract rfl rfl rfl) rfl rfl rfl ?_
  refine KL.op (R.extract rfl rfl rfl) rfl rfl rfl ?_
  refine KL.op (R.assign rfl rfl) rfl rfl rfl ?_
  refine KL.op (R.assign rfl rfl) rfl rfl rfl ?_
  refine KL.nil ?_
  refine KQ.seq ?_
  refine KC.seq ?_
  refine KC.region ?_
  refine KL.op (R.move rfl rfl) rfl rfl rfl ?_
  refine KL.opM (M.lit rfl Try.underlying22 zs5 (by decide) rfl rfl rfl) rfl rfl rfl ?_
  rintro _ H10 ⟨rfl, n10⟩
  have z10 := n10.2.1
  have o0 := o0.trans n10.1
  have ts := ts.old n10.1
  have b10 := n10.2.2
  have h1 : Sl 1 (EInt .u8) H10 _ [126] := Sl.lits (l := [126]) n10 rfl (by simp) (by decide)
  refine KL.call rfl rfl rfl rfl Try.call10 rfl rfl rfl (Push_k ts h1 (by decide)) ?_
  rintro uu H11 ⟨vl, ts1, st⟩
  have hob := st.oldB (B0 := H.size) (by have := o0.1; omega) (fun b hb => (ts.low b hb).1)
  have ts : TS H.size (fun _ => False) H11 _ _ _ ⟨[⟨[127], [127], [126], true⟩], [], 2⟩ := ts1
  have z_hob := hob.1
  have o0 := o0.then hob (by omega)
  refine KL.nil ?_
  refine KQ.seq ?_
  refine KC.seq ?_
  refine KC.region ?_
  refine KL.op (R.move rfl rfl) rfl rfl rfl ?_
  refine KL.opM (M.lit rfl Try.underlying22 zs5 (by decide) rfl rfl rfl) rfl rfl rfl ?_
  rintro _ H12 ⟨rfl, n12⟩
  have z12 := n12.2.1
  have o0 := o0.trans n12.1
  have ts := ts.old n12.1
  have b12 := n12.2.2
  have h1 : Sl 1 (EInt .u8) H12 _ [127, 126] := Sl.lits (l := [127, 126]) n12 rfl (by simp) (by decide)
  refine KL.call rfl rfl rfl rfl Try.call14 rfl rfl rfl (Want_k ts h1) ?_
  rintro uu H13 ⟨vl, hu, ts1, st⟩
  have hu : uu = .bool true := hu
  subst hu
  have hob := st.oldB (B0 := H.size) (by have := o0.1; omega) (fun b hb => (ts.low b hb).1)
  have ts : TS H.size (fun _ => False) H13 _ _ _ ⟨[⟨[127], [127], [], true⟩], [], 2⟩ := ts1
  have z_hob := hob.1
  have o0 := o0.then hob (by omega)
  refine KL.op (R.move rfl rfl) rfl rfl rfl ?_
  refine KL.opM (M.lit rfl Try.underlying22 zs5 (by decide) rfl rfl rfl) rfl rfl rfl ?_
  rintro _ H14 ⟨rfl, n14⟩
  have z14 := n14.2.1
  have o0 := o0.trans n14.1
  have ts := ts.old n14.1
  have b14 := n14.2.2
  have h1 : Sl 1 (EInt .u8) H14 _ [126] := Sl.lits (l := [126]) n14 rfl (by simp) (by decide)
  refine KL.call rfl rfl rfl rfl Try.call14 rfl rfl rfl (Want_k ts h1) ?_
  rintro uu H15 ⟨vl, hu, ts1, st⟩
  have hu : uu = .bool true := hu
  subst hu
  have hob := st.oldB (B0 := H.size) (by have := o0.1; omega) (fun b hb => (ts.low b hb).1)
  have ts : TS H.size (fun _ => False) H15 _ _ _ ⟨[⟨[127], [127], [], true⟩], [], 2⟩ := ts1
  have z_hob := hob.1
  have o0 := o0.then hob (by omega)
  refine KL.op (R.assign rfl rfl) rfl rfl rfl ?_
  refine KL.op (R.assign rfl rfl) rfl rfl rfl ?_
  refine KL.nil ?_
  refine KQ.seq ?_
  refine KC.seq ?_
  refine KC.region ?_
  refine KL.op (R.move rfl rfl) rfl rfl rfl ?_
  refine KL.call rfl rfl rfl rfl Try.call18 rfl rfl rfl (Close_k ts) ?_
  rintro uu H16 ⟨ev, vl, vf, hu, hx, ts1, st⟩
  have hu : uu = .tuple #[ev, .bool true] := hu
  subst hu
  have hob := st.oldB (B0 := H.size) (by have := o0.1; omega) (fun b hb => (ts.low b hb).1)
  have ts : TS H.size (fun _ => False) H16 _ _ _ ⟨[], [], 2⟩ := ts1
  have z_hob := hob.1
  have o0 := o0.then hob (by omega)
  refine KL.op (R.move rfl rfl) rfl rfl rfl ?_
  refine KL.op (R.extract rfl rfl rfl) rfl rfl rfl ?_
  refine KL.op (R.extract rfl rfl rfl) rfl rfl rfl ?_
  refine KL.op (R.assign rfl rfl) rfl rfl rfl ?_
  refine KL.op (R.assign rfl rfl) rfl rfl rfl ?_
  refine KL.nil ?_
  refine KQ.seq ?_
  refine KC.seq ?_
  refine KC.seq ?_
  refine KC.region ?_
  refine KL.op (R.move rfl rfl) rfl rfl rfl ?_
  refine KL.op ((R.neq rfl rfl rfl).val ((congrArg (fun b => Value.bool (!b)) (decide_eq_true (by rfl))))) rfl rfl rfl ?_
  refine KL.op (R.move rfl rfl) rfl rfl rfl ?_
  refine KL.op (R.move rfl rfl) rfl rfl rfl ?_
  refine KL.op (R.not rfl rfl) rfl rfl rfl ?_
  refine KL.op (R.pick rfl rfl rfl) rfl rfl rfl ?_
  refine KL.op (R.move rfl rfl) rfl rfl rfl ?_
  refine KL.op (R.move rfl rfl) rfl rfl rfl ?_
  refine KL.op (R.not rfl rfl) rfl rfl rfl ?_
  refine KL.op (R.pick rfl rfl rfl) rfl rfl rfl ?_
  refine KL.op (R.move rfl rfl) rfl rfl rfl ?_
  refine KL.op (R.move rfl rfl) rfl rfl rfl ?_
  refine KL.op (R.not rfl rfl) rfl rfl rfl ?_
  refine KL.op (R.pick rfl rfl rfl) rfl rfl rfl ?_
  refine KL.op (R.move rfl rfl) rfl rfl rfl ?_
  refine KL.op (R.move rfl rfl) rfl rfl rfl ?_
  refine KL.op (R.convBS rfl Try.underlying22 Try.underlying5 Try.underlying9 rfl (hx)) rfl rfl rfl ?_
  refine KL.opM (M.lit rfl Try.underlying22 zs5 (by decide) rfl rfl rfl) rfl rfl rfl ?_
  rintro _ H17 ⟨rfl, n17⟩
  have z17 := n17.2.1
  have o0 := o0.trans n17.1
  have ts := ts.old n17.1
  have hx := hx.old n17.1
  have b17 := n17.2.2
  have h2 : Sl 1 (EInt .u8) H17 _ [127] := Sl.lits (l := [127]) n17 rfl (by simp) (by decide)
  refine KL.op (R.convBS rfl Try.underlying22 Try.underlying5 Try.underlying9 rfl (h2)) rfl rfl rfl ?_
  refine KL.op ((R.neqStr rfl rfl rfl).val (congrArg (fun b => Value.bool (!b)) (beq_self_eq_true _))) rfl rfl rfl ?_
  refine KL.op (R.pick rfl rfl rfl) rfl rfl rfl ?_
  refine KL.op (R.move rfl rfl) rfl rfl rfl ?_
  refine KL.op (R.move rfl rfl) rfl rfl rfl ?_
  refine KL.op (R.not rfl rfl) rfl rfl rfl ?_
  refine KL.op (R.pick rfl rfl rfl) rfl rfl rfl ?_
  refine KL.op (R.move rfl rfl) rfl rfl rfl ?_
  refine KL.op (R.move rfl rfl) rfl rfl rfl ?_
  refine KL.call rfl rfl rfl rfl Try.call24 rfl rfl rfl (Frames_k ts) ?_
  rintro _ _ ⟨rfl, rfl⟩
  refine KL.op ((R.neq rfl rfl rfl).val ((congrArg (fun b => Value.bool (!b)) (decide_eq_true (by rfl))))) rfl rfl rfl ?_
  refine KL.op (R.pick rfl rfl rfl) rfl rfl rfl ?_
  refine KL.nil ?_
  refine KQ.seq ?_
  refine KC.condF rfl ?_
  refine KC.skip ?_
  refine KQ.seq ?_
  refine KC.seq ?_
  refine KC.region ?_
  refine KL.opM (M.lit rfl Try.underlying22 zs5 (by decide) rfl rfl rfl) rfl rfl rfl ?_
  rintro _ H18 ⟨rfl, n18⟩
  have z18 := n18.2.1
  have o0 := o0.trans n18.1
  have ts := ts.old n18.1
  have hx := hx.old n18.1
  have h2 := h2.old n18.1
  have b18 := n18.2.2
  have h1 : Sl 1 (EInt .u8) H18 _ [127] := Sl.lits (l := [127]) n18 rfl (by simp) (by decide)
  refine KL.call rfl rfl rfl rfl Try.call8 rfl rfl rfl (New_k h1 (by decide)) ?_
  rintro _ H19 ⟨g, vl, vf, rfl, ts0, ox⟩
  have ts : TS H.size (fun _ => False) H19 g vl vf ⟨[⟨[127], [127], [], false⟩], [], 0⟩ := TS.base_le ts0 (by have := o0.1; omega)
  have zc_H19 := (ox).1
  have o0 := o0.trans ox
  have h1 := h1.old ox
  refine KL.op (R.assign rfl rfl) rfl rfl rfl ?_
  refine KL.nil ?_
  refine KQ.seq ?_
  refine KC.seq ?_
  refine KC.region ?_
  refine KL.op (R.move rfl rfl) rfl rfl rfl ?_
  refine KL.opM (M.lit rfl Try.underlying22 zs5 (by decide) rfl rfl rfl) rfl rfl rfl ?_
  rintro _ H20 ⟨rfl, n20⟩
  have z20 := n20.2.1
  have o0 := o0.trans n20.1
  have ts := ts.old n20.1
  have b20 := n20.2.2
  have h1 : Sl 1 (EInt .u8) H20 _ [126] := Sl.lits (l := [126]) n20 rfl (by simp) (by decide)
  refine KL.call rfl rfl rfl rfl Try.call16 rfl rfl rfl (Open_k ts h1 (Sl.nil _ _ _) (by decide) (by decide) (by decide)) ?_
  rintro uu H21 ⟨vf, ts1, st⟩
  have hob := st.oldB (B0 := H.size) (by have := o0.1; omega) (fun b hb => (ts.low b hb).1)
  have ts : TS H.size (fun _ => False) H21 _ _ _ ⟨[⟨[127], [127], [], false⟩, ⟨[126], [], [], false⟩], [], 0⟩ := ts1
  have z_hob := hob.1
  have o0 := o0.then hob (by omega)
  refine KL.nil ?_
  refine KQ.seq ?_
  refine KC.seq ?_
  refine KC.region ?_
  refine KL.op (R.move rfl rfl) rfl rfl rfl ?_
  refine KL.call rfl rfl rfl rfl Try.call22 rfl rfl rfl (Label_k ts 0 (by omega)) ?_
  rintro uu H22 ⟨vx, hu, wx, ox⟩
  have hdx : ∀ b, Of vx b → ¬ MS g vl vf b := fun b hb hm => by have := (wx.ofLt hb).1; have := (ts.low b hm).2; omega
  have hu : uu = .tuple #[vx, .bool true] := hu
  subst hu
  have zc_H22 := (ox).1
  have o0 := o0.trans ox
  have ts := ts.old ox
  refine KL.op (R.move rfl rfl) rfl rfl rfl ?_
  refine KL.op (R.extract rfl rfl rfl) rfl rfl rfl ?_
  refine KL.op (R.extract rfl rfl rfl) rfl rfl rfl ?_
  refine KL.op (R.assign rfl rfl) rfl rfl rfl ?_
  refine KL.op (R.assign rfl rfl) rfl rfl rfl ?_
  refine KL.nil ?_
  refine KQ.seq ?_
  refine KC.seq ?_
  refine KC.region ?_
  refine KL.op (R.move rfl rfl) rfl rfl rfl ?_
  refine KL.call rfl rfl rfl rfl Try.call22 rfl rfl rfl (Label_k ts 1 (by omega)) ?_
  rintro uu H23 ⟨vy, hu, wy, ox⟩
  have hdy : ∀ b, Of vy b → ¬ MS g vl vf b := fun b hb hm => by have := (wy.ofLt hb).1; have := (ts.low b hm).2; omega
  have hu : uu = .tuple #[vy, .bool true] := hu
  subst hu
  have zc_H23 := (ox).1
  have o0 := o0.trans ox
  have ts := ts.old ox
  have wx := wx.old ox
  refine KL.op (R.move rfl rfl) rfl rfl rfl ?_
  refine KL.op (R.extract rfl rfl rfl) rfl rfl rfl ?_
  refine KL.op (R.extract rfl rfl rfl) rfl rfl rfl ?_
  refine KL.op (R.assign rfl rfl) rfl rfl rfl ?_
  refine KL.op (R.assign rfl rfl) rfl rfl rfl ?_
  refine KL.nil ?_
  refine KQ.seq ?_
  refine KC.seq ?_
  refine KC.region ?_
  refine KL.op (R.move rfl rfl) rfl rfl rfl ?_
  refine KL.call rfl rfl rfl rfl Try.call22 rfl rfl rfl (Label_k ts 2 (by omega)) ?_
  rintro uu H24 ⟨vz, hu, wz, ox⟩
  have hu : uu = .tuple #[vz, .bool false] := hu
  subst hu
  have zc_H24 := (ox).1
  have o0 := o0.trans ox
  have ts := ts.old ox
  have wx := wx.old ox
  have wy := wy.old ox
  refine KL.op (R.move rfl rfl) rfl rfl rfl ?_
  refine KL.op (R.extract rfl rfl rfl) rfl rfl rfl ?_
  refine KL.op (R.extract rfl rfl rfl) rfl rfl rfl ?_
  refine KL.op (R.assign rfl rfl) rfl rfl rfl ?_
  refine KL.op (R.assign rfl rfl) rfl rfl rfl ?_
  refine KL.nil ?_
  refine KQ.seq ?_
  refine KC.seq ?_
  refine KC.region ?_
  refine KL.op (R.move rfl rfl) rfl rfl rfl ?_
  refine KL.call rfl rfl rfl rfl Try.call12 rfl rfl rfl (Pop_k ts) ?_
  rintro uu H25 ⟨vl, hu, ts1, st⟩
  have hu : uu = .tuple #[.int .u8 0, .bool false] := hu
  subst hu
  have hob := st.oldB (B0 := H.size) (by have := o0.1; omega) (fun b hb => (ts.low b hb).1)
  have wN := wx.stp st hdx
  have hdx : ∀ b, Of vx b → ¬ MS g vl vf b := fun b hb hm => (st.2.2 b hm).elim (hdx b hb) (fun h => by have := (wx.ofLt hb).2; omega)
  have wx := wN
  have wN := wy.stp st hdy
  have hdy : ∀ b, Of vy b → ¬ MS g vl vf b := fun b hb hm => (st.2.2 b hm).elim (hdy b hb) (fun h => by have := (wy.ofLt hb).2; omega)
  have wy := wN
  have ts : TS H.size (fun _ => False) H25 _ _ _ ⟨[⟨[127], [127], [], false⟩, ⟨[126], [], [], false⟩], [], 0⟩ := ts1
  have z_hob := hob.1
  have o0 := o0.then hob (by omega)
  refine KL.op (R.move rfl rfl) rfl rfl rfl ?_
  refine KL.op (R.extract rfl rfl rfl) rfl rfl rfl ?_
  refine KL.op (R.extract rfl rfl rfl) rfl rfl rfl ?_
  refine KL.op (R.assign rfl rfl) rfl rfl rfl ?_
  refine KL.op (R.assign rfl rfl) rfl rfl rfl ?_
  refine KL.nil ?_
  refine KQ.seq ?_
  refine KC.seq ?_
  refine KC.region ?_
  refine KL.op (R.move rfl rfl) rfl rfl rfl ?_
  refine KL.call rfl rfl rfl rfl Try.call18 rfl rfl rfl (Close_k ts) ?_
  rintro uu H26 ⟨ev, vl, vf, hu, hx, ts1, st⟩
  have hu : uu = .tuple #[ev, .bool true] := hu
  subst hu
  have hob := st.oldB (B0 := H.size) (by have := o0.1; omega) (fun b hb => (ts.low b hb).1)
  have wN := wx.stp st hdx
  have hdx : ∀ b, Of vx b → ¬ MS g vl vf b := fun b hb hm => (st.2.2 b hm).elim (hdx b hb) (fun h => by have := (wx.ofLt hb).2; omega)
  have wx := wN
  have wN := wy.stp st hdy
  have hdy : ∀ b, Of vy b → ¬ MS g vl vf b := fun b hb hm => (st.2.2 b hm).elim (hdy b hb) (fun h => by have := (wy.ofLt hb).2; omega)
  have wy := wN
  have ts : TS H.size (fun _ => False) H26 _ _ _ ⟨[⟨[127], [127], [], false⟩], [], 0⟩ := ts1
  have z_hob := hob.1
  have o0 := o0.then hob (by omega)
  refine KL.op (R.move rfl rfl) rfl rfl rfl ?_
  refine KL.op (R.extract rfl rfl rfl) rfl rfl rfl ?_
  refine KL.op (R.extract rfl rfl rfl) rfl rfl rfl ?_
  refine KL.op (R.assign rfl rfl) rfl rfl rfl ?_
  refine KL.op (R.assign rfl rfl) rfl rfl rfl ?_
  refine KL.nil ?_
  refine KQ.seq ?_
  refine KC.seq ?_
  refine KC.region ?_
  refine KL.op (R.assign rfl rfl) rfl rfl rfl ?_
  refine KL.nil ?_
  refine KQ.seq ?_
  refine KC.seq ?_
  refine KC.region ?_
  refine KL.op (R.move rfl rfl) rfl rfl rfl ?_
  refine KL.opM (M.lit rfl Try.underlying22 zs5 (by decide) rfl rfl rfl) rfl rfl rfl ?_
  rintro _ H27 ⟨rfl, n27⟩
  have z27 := n27.2.1
  have o0 := o0.trans n27.1
  have wx := wx.old n27.1
  have wy := wy.old n27.1
  have b27 := n27.2.2
  have h1 : Sl 1 (EInt .u8) H27 _ [127] := Sl.lits (l := [127]) n27 rfl (by simp) (by decide)
  refine KL.call rfl rfl rfl rfl Try.call10 rfl rfl rfl (Push_nil _) ?_
  rintro _ _ rfl
  refine KL.nil ?_
  refine KQ.seq ?_
  refine KC.seq ?_
  refine KC.region ?_
  refine KL.op (R.move rfl rfl) rfl rfl rfl ?_
  refine KL.call rfl rfl rfl rfl Try.call16 rfl rfl rfl (Open_nil _ _) ?_
  rintro _ _ rfl
  refine KL.nil ?_
  refine KQ.seq ?_
  refine KC.seq ?_
  refine KC.region ?_
  refine KL.op (R.move rfl rfl) rfl rfl rfl ?_
  refine KL.call rfl rfl rfl rfl Try.call20 rfl rfl rfl (Dead_nil) ?_
  rintro _ _ rfl
  refine KL.nil ?_
  refine KQ.seq ?_
  refine KC.seq ?_
  refine KC.region ?_
  refine KL.op (R.move rfl rfl) rfl rfl rfl ?_
  refine KL.call rfl rfl rfl rfl Try.call12 rfl rfl rfl (Pop_nil) ?_
  rintro _ _ ⟨rfl, rfl⟩
  refine KL.op (R.move rfl rfl) rfl rfl rfl ?_
  refine KL.op (R.extract rfl rfl rfl) rfl rfl rfl ?_
  refine KL.op (R.extract rfl rfl rfl) rfl rfl rfl ?_
  refine KL.op (R.assign rfl rfl) rfl rfl rfl ?_
  refine KL.op (R.assign rfl rfl) rfl rfl rfl ?_
  refine KL.nil ?_
  refine KQ.seq ?_
  refine KC.seq ?_
  refine KC.region ?_
  refine KL.op (R.move rfl rfl) rfl rfl rfl ?_
  refine KL.call rfl rfl rfl rfl Try.call18 rfl rfl rfl (Close_nil) ?_
  rintro _ _ ⟨rfl, rfl⟩
  refine KL.op (R.move rfl rfl) rfl rfl rfl ?_
  refine KL.op (R.extract rfl rfl rfl) rfl rfl rfl ?_
  refine KL.op (R.extract rfl rfl rfl) rfl rfl rfl ?_
  refine KL.op (R.assign rfl rfl) rfl rfl rfl ?_
  refine KL.op (R.assign rfl rfl) rfl rfl rfl ?_
  refine KL.nil ?_
  refine KQ.seq ?_
  refine KC.seq ?_
  refine KC.region ?_
  refine KL.op (R.move rfl rfl) rfl rfl rfl ?_
  refine KL.call rfl rfl rfl rfl Try.call22 rfl rfl rfl (Label_nil 0) ?_
  rintro _ _ ⟨rfl, rfl⟩
  refine KL.op (R.move rfl rfl) rfl rfl rfl ?_
  refine KL.op (R.extract rfl rfl rfl) rfl rfl rfl ?_
  refine KL.op (R.extract rfl rfl rfl) rfl rfl rfl ?_
  refine KL.op (R.assign rfl rfl) rfl rfl rfl ?_
  refine KL.op (R.assign rfl rfl) rfl rfl rfl ?_
  refine KL.nil ?_
  refine KQ.seq ?_
  refine KC.seq ?_
  refine KC.region ?_
  refine KL.op (R.move rfl rfl) rfl rfl rfl ?_
  refine KL.op (R.convBS rfl Try.underlying22 Try.underlying5 Try.underlying9 rfl (wx.sl (emptyOld _) (by decide))) rfl rfl rfl ?_
  refine KL.opM (M.lit rfl Try.underlying22 zs5 (by decide) rfl rfl rfl) rfl rfl rfl ?_
  rintro _ H28 ⟨rfl, n28⟩
  have z28 := n28.2.1
  have o0 := o0.trans n28.1
  have wx := wx.old n28.1
  have wy := wy.old n28.1
  have h1 := h1.old n28.1
  have b28 := n28.2.2
  have h3 : Sl 1 (EInt .u8) H28 _ [126] := Sl.lits (l := [126]) n28 rfl (by simp) (by decide)
  refine KL.op (R.convBS rfl Try.underlying22 Try.underlying5 Try.underlying9 rfl (h3)) rfl rfl rfl ?_
  refine KL.op ((R.eqlStr rfl rfl rfl).val (congrArg Value.bool (beq_self_eq_true _))) rfl rfl rfl ?_
  refine KL.op (R.move rfl rfl) rfl rfl rfl ?_
  refine KL.op (R.move rfl rfl) rfl rfl rfl ?_
  refine KL.op (R.pick rfl rfl rfl) rfl rfl rfl ?_
  refine KL.op (R.move rfl rfl) rfl rfl rfl ?_
  refine KL.op (R.move rfl rfl) rfl rfl rfl ?_
  refine KL.op (R.convBS rfl Try.underlying22 Try.underlying5 Try.underlying9 rfl (wy.sl (emptyOld _) (by decide))) rfl rfl rfl ?_
  refine KL.opM (M.lit rfl Try.underlying22 zs5 (by decide) rfl rfl rfl) rfl rfl rfl ?_
  rintro _ H29 ⟨rfl, n29⟩
  have z29 := n29.2.1
  have o0 := o0.trans n29.1
  have wx := wx.old n29.1
  have wy := wy.old n29.1
  have h1 := h1.old n29.1
  have h3 := h3.old n29.1
  have b29 := n29.2.2
  have h4 : Sl 1 (EInt .u8) H29 _ [127] := Sl.lits (l := [127]) n29 rfl (by simp) (by decide)
  refine KL.op (R.convBS rfl Try.underlying22 Try.underlying5 Try.underlying9 rfl (h4)) rfl rfl rfl ?_
  refine KL.op ((R.eqlStr rfl rfl rfl).val (congrArg Value.bool (beq_self_eq_true _))) rfl rfl rfl ?_
  refine KL.op (R.pick rfl rfl rfl) rfl rfl rfl ?_
  refine KL.op (R.move rfl rfl) rfl rfl rfl ?_
  refine KL.op (R.move rfl rfl) rfl rfl rfl ?_
  refine KL.op (R.pick rfl rfl rfl) rfl rfl rfl ?_
  refine KL.op (R.move rfl rfl) rfl rfl rfl ?_
  refine KL.op (R.move rfl rfl) rfl rfl rfl ?_
  refine KL.op (R.not rfl rfl) rfl rfl rfl ?_
  refine KL.op (R.pick rfl rfl rfl) rfl rfl rfl ?_
  refine KL.op (R.move rfl rfl) rfl rfl rfl ?_
  refine KL.op (R.move rfl rfl) rfl rfl rfl ?_
  refine KL.op (R.not rfl rfl) rfl rfl rfl ?_
  refine KL.op (R.pick rfl rfl rfl) rfl rfl rfl ?_
  refine KL.op (R.move rfl rfl) rfl rfl rfl ?_
  refine KL.op (R.move rfl rfl) rfl rfl rfl ?_
  refine KL.op (R.lenS rfl Try.underlying22 rfl hx) rfl rfl rfl ?_
  refine KL.op ((R.eql rfl rfl rfl).val (congrArg Value.bool (decide_eq_true (by rfl)))) rfl rfl rfl ?_
  refine KL.op (R.pick rfl rfl rfl) rfl rfl rfl ?_
  refine KL.op (R.move rfl rfl) rfl rfl rfl ?_
  refine KL.op (R.move rfl rfl) rfl rfl rfl ?_
  refine KL.op (R.pick rfl rfl rfl) rfl rfl rfl ?_
  refine KL.op (R.move rfl rfl) rfl rfl rfl ?_
  refine KL.op (R.move rfl rfl) rfl rfl rfl ?_
  refine KL.op (R.not rfl rfl) rfl rfl rfl ?_
  refine KL.op (R.pick rfl rfl rfl) rfl rfl rfl ?_
  refine KL.op (R.move rfl rfl) rfl rfl rfl ?_
  refine KL.op (R.move rfl rfl) rfl rfl rfl ?_
  refine KL.op (R.not rfl rfl) rfl rfl rfl ?_
  refine KL.op (R.pick rfl rfl rfl) rfl rfl rfl ?_
  refine KL.op (R.move rfl rfl) rfl rfl rfl ?_
  refine KL.op (R.move rfl rfl) rfl rfl rfl ?_
  refine KL.op (R.not rfl rfl) rfl rfl rfl ?_
  refine KL.op (R.pick rfl rfl rfl) rfl rfl rfl ?_
  refine KL.op (R.move rfl rfl) rfl rfl rfl ?_
  refine KL.op (R.move rfl rfl) rfl rfl rfl ?_
  refine KL.call rfl rfl rfl rfl Try.call14 rfl rfl rfl (Want_nil _) ?_
  rintro _ H30 ⟨rfl, ox⟩
  have zc_H30 := (ox).1
  have o0 := o0.trans ox
  have wx := wx.old ox
  have wy := wy.old ox
  have h1 := h1.old ox
  have h3 := h3.old ox
  have h4 := h4.old ox
  refine KL.op (R.not rfl rfl) rfl rfl rfl ?_
  refine KL.op (R.pick rfl rfl rfl) rfl rfl rfl ?_
  refine KL.op (R.move rfl rfl) rfl rfl rfl ?_
  refine KL.op (R.move rfl rfl) rfl rfl rfl ?_
  refine KL.call rfl rfl rfl rfl Try.call24 rfl rfl rfl (Frames_nil) ?_
  rintro _ _ ⟨rfl, rfl⟩
  refine KL.op (R.move rfl rfl) rfl rfl rfl ?_
  refine KL.call rfl rfl rfl rfl Try.call25 rfl rfl rfl (Height_nil) ?_
  rintro _ _ ⟨rfl, rfl⟩
  refine KL.op (R.add rfl rfl rfl (by dsimp only [InR]; omega)) rfl rfl rfl ?_
  refine KL.op (R.move rfl rfl) rfl rfl rfl ?_
  refine KL.call rfl rfl rfl rfl Try.call27 rfl rfl rfl (Most_nil) ?_
  rintro _ _ ⟨rfl, rfl⟩
  refine KL.op (R.add rfl rfl rfl (by dsimp only [InR]; omega)) rfl rfl rfl ?_
  refine KL.op ((R.eql rfl rfl rfl).val (congrArg Value.bool (decide_eq_true (by rfl)))) rfl rfl rfl ?_
  refine KL.op (R.pick rfl rfl rfl) rfl rfl rfl ?_
  refine KL.op (R.assign rfl rfl) rfl rfl rfl ?_
  refine KL.nil ?_
  refine KQ.seq ?_
  refine KC.ret ?_
  refine KQ.ofRet ?_
  refine KQ.fin1 Try.results6 rfl ?_
  exact ⟨rfl, o0⟩

end Go.Proofs.Ytglopfbdnpbgeaa
