/- Want, Close, Label. No condition. -/
import Derived.Test.YtglopfbdnpbgeaaTyE
namespace Go.Proofs.Ytglopfbdnpbgeaa
open Go Go.RowKit
set_option linter.unusedVariables false
set_option linter.unusedSimpArgs false
set_option linter.unnecessarySimpa false

theorem CellsH.old {H H' : Heap} {p : Addr} {cs : List Value} (h : CellsH H p cs) (o : Old H H') : CellsH H' p cs := o.cells h
theorem DS.want_no {s : DS} {l : List Int} (h : s.left l = none) : s.want l = (false, s) := by unfold DS.want; rw [h]
theorem DS.want_yes {s : DS} {l : List Int} {m : Nat} (h : s.left l = some m) : s.want l = (true, s.cut m) := by unfold DS.want; rw [h]
theorem DS.close_no {s : DS} (h : s.left s.top.ends ≠ some 0) : s.close = ([], false, s) := by unfold DS.close; rw [if_neg h]
theorem DS.close_yes {s : DS} (h : s.left s.top.ends = some 0) : s.close = (s.top.ends, true, s.less) := by unfold DS.close; rw [if_pos h]
theorem DS.less_all {s : DS} (h : s.fr ≠ []) : s.less.all = s.all.take s.base.length := by
  rw [DS.all_eq h, List.take_left' rfl]; rfl
theorem DS.less_frs {s : DS} (h : s.fr ≠ []) : frs s.less.loose.length s.less.fr = (frs s.loose.length s.fr).take (s.fr.length - 1) := DS.frs_less h
theorem DS.left_nil {s : DS} {l : List Int} (h : s.fr = []) : s.left l = none := by unfold DS.left; rw [if_pos h]

set_option maxRecDepth 100000 in
set_option maxHeartbeats 4000000 in
theorem Want_no {B : Nat} {X : Nat → Prop} {H : Heap} {g : Nat} {vl vf : Value} {s : DS} (h : TS B X H g vl vf s) {v : Value} {l : List Int} (hs : Sl 1 (EInt .u8) H v l) (hw : s.left l = none) : Ct Try.prog 14 [.pointer (some ⟨g, 0, none⟩), v] H (fun u H' => ∃ vl', u = .bool (s.want l).1 ∧ TS B X H' g vl' vf (s.want l).2 ∧ StepO (MS g vl vf) (MS g vl' vf) H H') := by
  refine Ct.mk Try.func14 rfl Try.ntmps14 rfl ?_
  intro W0 hW0
  have o0 : Old H H := Old.refl H
  refine KC.seq ?_
  refine KC.region ?_
  refine KL.op (R.assign rfl rfl) rfl rfl rfl ?_
  refine KL.nil ?_
  refine KQ.seq ?_
  refine KC.seq ?_
  refine KC.region ?_
  refine KL.op (R.move rfl rfl) rfl rfl rfl ?_
  refine KL.op (R.move rfl rfl) rfl rfl rfl ?_
  refine KL.call rfl rfl rfl rfl Try.call29 rfl rfl rfl (left_k h hs) ?_
  rintro _ H1 ⟨rfl, ox⟩
  have zc_H1 := (ox).1
  have o0 := o0.trans ox
  refine KL.op (R.assign rfl rfl) rfl rfl rfl ?_
  refine KL.nil ?_
  refine KQ.seq ?_
  refine KC.seq ?_
  refine KC.seq ?_
  refine KC.region ?_
  refine KL.op (R.move rfl rfl) rfl rfl rfl ?_
  refine KL.op ((R.lss rfl rfl rfl).val (congrArg Value.bool (decide_eq_true (by rw [DS.leftN_none hw]; omega)))) rfl rfl rfl ?_
  refine KL.nil ?_
  refine KQ.seq ?_
  refine KC.condT rfl ?_
  refine KC.seq ?_
  refine KC.region ?_
  refine KL.op (R.assign rfl rfl) rfl rfl rfl ?_
  refine KL.nil ?_
  refine KQ.seq ?_
  refine KC.ret ?_
  refine KQ.retThen ?_
  refine KQ.ofRet ?_
  refine KQ.fin1 Try.results14 rfl ?_
  exact ⟨vl, by rw [DS.want_no hw], by rw [DS.want_no hw]; exact h.old o0, StepO.ofOld o0⟩

set_option maxRecDepth 100000 in
set_option maxHeartbeats 4000000 in
theorem Want_yes {B : Nat} {X : Nat → Prop} {H : Heap} {g : Nat} {vl vf : Value} {s : DS} (h : TS B X H g vl vf s) {v : Value} {l : List Int} (hs : Sl 1 (EInt .u8) H v l) {m : Nat} (hw : s.left l = some m) : Ct Try.prog 14 [.pointer (some ⟨g, 0, none⟩), v] H (fun u H' => ∃ vl', u = .bool (s.want l).1 ∧ TS B X H' g vl' vf (s.want l).2 ∧ StepO (MS g vl vf) (MS g vl' vf) H H') := by
  refine Ct.mk Try.func14 rfl Try.ntmps14 rfl ?_
  intro W0 hW0
  have o0 : OldB 0 H H := OldB.refl _ H
  obtain ⟨bg, hB, wl, wf, ngl, ngf, nlf, hX, hm, ha, hfl⟩ := id h
  have zg := blk_lt bg
  obtain ⟨h0, hml⟩ := DS.left_le hw
  have hall := congrArg List.length (DS.all_eq h0)
  rw [List.length_append] at hall
  have st : StepO (MS g vl (.slice none 0 0)) (MS g vl (.slice none 0 0)) H H := StepO.refl _ _
  have hgg : MS g vl (.slice none 0 0) g := .inl rfl
  have hvl : vl = .slice none 0 0 ∨ MS g vl (.slice none 0 0) (vblock vl) := Classical.byCases .inl (fun e => .inr (.inr (.inl ⟨e, rfl⟩)))
  have hgl : vl = .slice none 0 0 ∨ g ≠ vblock vl := Classical.byCases .inl (fun e => .inr (fun e2 => ngl _ ⟨e, rfl⟩ e2.symm))
  have hgl2 : vl = .slice none 0 0 ∨ vblock vl ≠ g := hgl.imp id Ne.symm
  refine KC.seq ?_
  refine KC.region ?_
  refine KL.op (R.assign rfl rfl) rfl rfl rfl ?_
  refine KL.nil ?_
  refine KQ.seq ?_
  refine KC.seq ?_
  refine KC.region ?_
  refine KL.op (R.move rfl rfl) rfl rfl rfl ?_
  refine KL.op (R.move rfl rfl) rfl rfl rfl ?_
  refine KL.call rfl rfl rfl rfl Try.call29 rfl rfl rfl (left_k h hs) ?_
  rintro _ H1 ⟨rfl, ox⟩
  have zc_H1 := (ox).1
  have o0 := o0.trans ((ox).b (by omega))
  have bg := (ox).blk bg
  have wl := wl.old ox
  have st := st.old ox
  refine KL.op (R.assign rfl rfl) rfl rfl rfl ?_
  refine KL.nil ?_
  refine KQ.seq ?_
  refine KC.seq ?_
  refine KC.seq ?_
  refine KC.region ?_
  refine KL.op (R.move rfl rfl) rfl rfl rfl ?_
  refine KL.op ((R.lss rfl rfl rfl).val (congrArg Value.bool (decide_eq_false (by rw [DS.leftN_some hw]; omega)))) rfl rfl rfl ?_
  refine KL.nil ?_
  refine KQ.seq ?_
  refine KC.condF rfl ?_
  refine KC.skip ?_
  refine KQ.seq ?_
  refine KC.seq ?_
  refine KC.region ?_
  refine KL.op (R.move rfl rfl) rfl rfl rfl ?_
  refine KL.op (R.move rfl rfl) rfl rfl rfl ?_
  refine KL.op (R.nilCheck rfl rfl) rfl rfl rfl ?_
  refine KL.op ((by first | exact R.fieldAddr rfl Try.underlying52 rfl rfl sz22 rfl | exact R.fieldAddrP rfl Try.underlying52 rfl rfl sz22 rfl)) rfl rfl rfl ?_
  refine KL.op (R.load rfl Try.underlying22 rfl rfl (cell_of bg rfl)) rfl rfl rfl ?_
  refine KL.op (R.move rfl rfl) rfl rfl rfl ?_
  refine KL.op (R.sliceTo (j := s.base.length + m) rfl Try.underlying22 sz5 rfl rfl wl (DS.leftN_some hw) (by omega)) rfl rfl rfl ?_
  refine KL.op (R.nilCheck rfl rfl) rfl rfl rfl ?_
  refine KL.op ((by first | exact R.fieldAddr rfl Try.underlying52 rfl rfl sz22 rfl | exact R.fieldAddrP rfl Try.underlying52 rfl rfl sz22 rfl)) rfl rfl rfl ?_
  refine KL.opS (S.store rfl sz22 rfl rfl (wl.to (j := s.base.length + m) (by omega)).1.cells1 (wl.to (j := s.base.length + m) (by omega)).1.one bg (by simp)) rfl rfl ?_
  rintro H2 ⟨u2, b2⟩
  have o0 := o0.trans (OldB.upd u2 (by omega))
  have zu2 := u2.1
  have wl := wl.upd u2 (by first | exact .inl rfl | exact .inr (by omega) | exact hgl2 | exact wl.lt.imp id (fun h => by omega))
  have st := (by first | exact st.upd u2 | exact st.updN u2 (by omega))
  have bg := b2
  refine KL.nil ?_
  refine KQ.seq ?_
  refine KC.seq ?_
  refine KC.region ?_
  refine KL.op (R.assign rfl rfl) rfl rfl rfl ?_
  refine KL.nil ?_
  refine KQ.seq ?_
  refine KC.ret ?_
  refine KQ.ofRet ?_
  refine KQ.fin1 Try.results14 rfl ?_
  have h2 := h.setL (s' := s.cut m) st (fun b hb => .inl (h.wl.ofTo (by omega) hb)) bg (by rw [DS.cut_all h0]; exact (wl.to (j := s.base.length + m) (by omega)).1) (DS.cut_frs h0 _) hm (by rw [DS.cut_all h0, List.length_take]; omega) (by rw [DS.cut_len]; exact hfl)
  exact ⟨_, by rw [DS.want_yes hw], by rw [DS.want_yes hw]; exact h2.1, h2.2⟩

theorem Want_k {B : Nat} {X : Nat → Prop} {H : Heap} {g : Nat} {vl vf : Value} {s : DS} (h : TS B X H g vl vf s) {v : Value} {l : List Int} (hs : Sl 1 (EInt .u8) H v l) : Ct Try.prog 14 [.pointer (some ⟨g, 0, none⟩), v] H (fun u H' => ∃ vl', u = .bool (s.want l).1 ∧ TS B X H' g vl' vf (s.want l).2 ∧ StepO (MS g vl vf) (MS g vl' vf) H H') := by
  cases hw : s.left l with
  | none => exact Want_no h hs hw
  | some m => exact Want_yes h hs hw

set_option maxRecDepth 100000 in
set_option maxHeartbeats 4000000 in
theorem Want_nil {H : Heap} (v : Value) : Ct Try.prog 14 [.pointer none, v] H (fun u H' => u = .bool false ∧ Old H H') := by
  refine Ct.mk Try.func14 rfl Try.ntmps14 rfl ?_
  intro W0 hW0
  have o0 : Old H H := Old.refl H
  refine KC.seq ?_
  refine KC.region ?_
  refine KL.op (R.assign rfl rfl) rfl rfl rfl ?_
  refine KL.nil ?_
  refine KQ.seq ?_
  refine KC.seq ?_
  refine KC.region ?_
  refine KL.op (R.move rfl rfl) rfl rfl rfl ?_
  refine KL.op (R.move rfl rfl) rfl rfl rfl ?_
  refine KL.call rfl rfl rfl rfl Try.call29 rfl rfl rfl (left_nil v) ?_
  rintro _ H1 ⟨rfl, ox⟩
  have zc_H1 := (ox).1
  have o0 := o0.trans ox
  refine KL.op (R.assign rfl rfl) rfl rfl rfl ?_
  refine KL.nil ?_
  refine KQ.seq ?_
  refine KC.seq ?_
  refine KC.seq ?_
  refine KC.region ?_
  refine KL.op (R.move rfl rfl) rfl rfl rfl ?_
  refine KL.op ((R.lss rfl rfl rfl).val (congrArg Value.bool (decide_eq_true (by omega)))) rfl rfl rfl ?_
  refine KL.nil ?_
  refine KQ.seq ?_
  refine KC.condT rfl ?_
  refine KC.seq ?_
  refine KC.region ?_
  refine KL.op (R.assign rfl rfl) rfl rfl rfl ?_
  refine KL.nil ?_
  refine KQ.seq ?_
  refine KC.ret ?_
  refine KQ.retThen ?_
  refine KQ.ofRet ?_
  refine KQ.fin1 Try.results14 rfl ?_
  exact ⟨rfl, o0⟩

set_option maxRecDepth 100000 in
set_option maxHeartbeats 4000000 in
theorem Close_no {B : Nat} {X : Nat → Prop} {H : Heap} {g : Nat} {vl vf : Value} {s : DS} (h : TS B X H g vl vf s) (h0 : s.fr = []) : Ct Try.prog 18 [.pointer (some ⟨g, 0, none⟩)] H (fun u H' => ∃ ev vl' vf', u = .tuple #[ev, .bool s.close.2.1] ∧ (∀ H2, KeepP (MX (MS g vl' vf') X) H' H2 → Sl 1 (EInt .u8) H2 ev s.close.1) ∧ TS B X H' g vl' vf' s.close.2.2 ∧ StepO (MS g vl vf) (MS g vl' vf') H H') := by
  refine Ct.mk Try.func18 rfl Try.ntmps18 rfl ?_
  intro W0 hW0
  have o0 : Old H H := Old.refl H
  have hc : s.left s.top.ends ≠ some 0 := by rw [DS.left_nil h0]; simp
  refine KC.seq ?_
  refine KC.region ?_
  refine KL.op (R.assign rfl rfl) rfl rfl rfl ?_
  refine KL.op (R.assign rfl rfl) rfl rfl rfl ?_
  refine KL.nil ?_
  refine KQ.seq ?_
  refine KC.seq ?_
  refine KC.region ?_
  refine KL.op (R.move rfl rfl) rfl rfl rfl ?_
  refine KL.call rfl rfl rfl rfl Try.call28 rfl rfl rfl (top_no h h0) ?_
  rintro _ _ ⟨rfl, rfl⟩
  refine KL.op (R.assign rfl rfl) rfl rfl rfl ?_
  refine KL.nil ?_
  refine KQ.seq ?_
  refine KC.seq ?_
  refine KC.seq ?_
  have os : Old H H := Old.refl _
  have ob := o0
  refine KC.text (clOf [(8, 2)]) (fun _ Hc => Old H Hc) (by kernel_rfl) (by kernel_rfl) (fun _ => Old.refl _) ?_
  refine KP.op rfl (fun Hg og => by have o0 := ob.trans og; exact R.move rfl rfl) rfl rfl rfl ?_
  refine KP.op rfl (fun Hg og => by have o0 := ob.trans og; exact R.eqlP rfl Try.underlying55 rfl rfl) rfl rfl rfl ?_
  refine KP.op rfl (fun Hg og => by have o0 := ob.trans og; exact R.move rfl rfl) rfl rfl rfl ?_
  refine KP.skip rfl rfl rfl ?_
  refine KP.skip rfl rfl rfl ?_
  refine KP.skip rfl rfl rfl ?_
  refine KP.skip rfl rfl rfl ?_
  refine KP.skip rfl rfl rfl ?_
  refine KP.skip rfl rfl rfl ?_
  refine KP.skip rfl rfl rfl ?_
  refine KP.skip rfl rfl rfl ?_
  refine KP.skip rfl rfl rfl ?_
  refine KP.skip rfl rfl rfl ?_
  refine KP.skip rfl rfl rfl ?_
  refine KP.op rfl (fun Hg og => by have o0 := ob.trans og; exact R.pick rfl rfl rfl) rfl rfl rfl ?_
  refine KP.nil ?_
  refine KQ.seq ?_
  refine KC.condT rfl ?_
  refine KC.seq ?_
  refine KC.region ?_
  refine KL.op (R.assign rfl rfl) rfl rfl rfl ?_
  refine KL.op (R.assign rfl rfl) rfl rfl rfl ?_
  refine KL.nil ?_
  refine KQ.seq ?_
  refine KC.ret ?_
  refine KQ.retThen ?_
  refine KQ.ofRet ?_
  refine KQ.fin2 Try.results18 rfl rfl ?_
  exact ⟨_, vl, vf, by rw [DS.close_no hc], by rw [DS.close_no hc]; exact fun _ _ => Sl.nil _ _ _, by rw [DS.close_no hc]; exact h.old o0, StepO.ofOld o0⟩

set_option maxRecDepth 100000 in
set_option maxHeartbeats 4000000 in
theorem Close_nil {H : Heap} : Ct Try.prog 18 [.pointer none] H (fun u H' => u = .tuple #[.slice none 0 0, .bool false] ∧ H = H') := by
  refine Ct.mk Try.func18 rfl Try.ntmps18 rfl ?_
  intro W0 hW0
  have o0 : Old H H := Old.refl H
  refine KC.seq ?_
  refine KC.region ?_
  refine KL.op (R.assign rfl rfl) rfl rfl rfl ?_
  refine KL.op (R.assign rfl rfl) rfl rfl rfl ?_
  refine KL.nil ?_
  refine KQ.seq ?_
  refine KC.seq ?_
  refine KC.region ?_
  refine KL.op (R.move rfl rfl) rfl rfl rfl ?_
  refine KL.call rfl rfl rfl rfl Try.call28 rfl rfl rfl (top_nil) ?_
  rintro _ _ ⟨rfl, rfl⟩
  refine KL.op (R.assign rfl rfl) rfl rfl rfl ?_
  refine KL.nil ?_
  refine KQ.seq ?_
  refine KC.seq ?_
  refine KC.seq ?_
  have os : Old H H := Old.refl _
  have ob := o0
  refine KC.text (clOf [(8, 2)]) (fun _ Hc => Old H Hc) (by kernel_rfl) (by kernel_rfl) (fun _ => Old.refl _) ?_
  refine KP.op rfl (fun Hg og => by have o0 := ob.trans og; exact R.move rfl rfl) rfl rfl rfl ?_
  refine KP.op rfl (fun Hg og => by have o0 := ob.trans og; exact R.eqlP rfl Try.underlying55 rfl rfl) rfl rfl rfl ?_
  refine KP.op rfl (fun Hg og => by have o0 := ob.trans og; exact R.move rfl rfl) rfl rfl rfl ?_
  refine KP.skip rfl rfl rfl ?_
  refine KP.skip rfl rfl rfl ?_
  refine KP.skip rfl rfl rfl ?_
  refine KP.skip rfl rfl rfl ?_
  refine KP.skip rfl rfl rfl ?_
  refine KP.skip rfl rfl rfl ?_
  refine KP.skip rfl rfl rfl ?_
  refine KP.skip rfl rfl rfl ?_
  refine KP.skip rfl rfl rfl ?_
  refine KP.skip rfl rfl rfl ?_
  refine KP.skip rfl rfl rfl ?_
  refine KP.op rfl (fun Hg og => by have o0 := ob.trans og; exact R.pick rfl rfl rfl) rfl rfl rfl ?_
  refine KP.nil ?_
  refine KQ.seq ?_
  refine KC.condT rfl ?_
  refine KC.seq ?_
  refine KC.region ?_
  refine KL.op (R.assign rfl rfl) rfl rfl rfl ?_
  refine KL.op (R.assign rfl rfl) rfl rfl rfl ?_
  refine KL.nil ?_
  refine KQ.seq ?_
  refine KC.ret ?_
  refine KQ.retThen ?_
  refine KQ.ofRet ?_
  refine KQ.fin2 Try.results18 rfl rfl ?_
  exact ⟨rfl, rfl⟩

set_option maxRecDepth 100000 in
set_option maxHeartbeats 4000000 in
theorem Close_fail {B : Nat} {X : Nat → Prop} {H : Heap} {g : Nat} {vl vf : Value} {s : DS} (h : TS B X H g vl vf s) (h0 : s.fr ≠ []) (hc : s.left s.top.ends ≠ some 0) : Ct Try.prog 18 [.pointer (some ⟨g, 0, none⟩)] H (fun u H' => ∃ ev vl' vf', u = .tuple #[ev, .bool s.close.2.1] ∧ (∀ H2, KeepP (MX (MS g vl' vf') X) H' H2 → Sl 1 (EInt .u8) H2 ev s.close.1) ∧ TS B X H' g vl' vf' s.close.2.2 ∧ StepO (MS g vl vf) (MS g vl' vf') H H') := by
  refine Ct.mk Try.func18 rfl Try.ntmps18 rfl ?_
  intro W0 hW0
  have o0 : Old H H := Old.refl H
  obtain ⟨bg, hB, wl, wf, ngl, ngf, nlf, hX, hm, ha, hfl⟩ := id h
  have zg := blk_lt bg
  have hfn := frs_len s.fr s.loose.length
  have hn := List.length_pos_iff.2 h0
  obtain ⟨cs, hcl, hcx, hfp⟩ := wf.fpAt (by decide) (s.fr.length - 1) (by omega)
  rw [DS.frs_top h0] at hfp
  obtain ⟨lv, ev, rfl, hlab, hend, hlb, hle⟩ := hfp H (KeepP.refl _ _)
  dsimp only at hcx hlab hend hlb hle
  have hall := congrArg List.length (DS.all_eq h0)
  rw [List.length_append] at hall
  have hne : ¬ s.leftN s.top.ends = (s.base.length : Nat) := by
    cases hw : s.left s.top.ends with
    | none => rw [DS.leftN_none hw]; omega
    | some m =>
      rw [DS.leftN_some hw]
      intro e
      have : m = 0 := by omega
      subst this
      exact hc hw
  refine KC.seq ?_
  refine KC.region ?_
  refine KL.op (R.assign rfl rfl) rfl rfl rfl ?_
  refine KL.op (R.assign rfl rfl) rfl rfl rfl ?_
  refine KL.nil ?_
  refine KQ.seq ?_
  refine KC.seq ?_
  refine KC.region ?_
  refine KL.op (R.move rfl rfl) rfl rfl rfl ?_
  refine KL.call rfl rfl rfl rfl Try.call28 rfl rfl rfl (top_yes h h0) ?_
  rintro _ _ ⟨rfl, rfl⟩
  refine KL.op (R.assign rfl rfl) rfl rfl rfl ?_
  refine KL.nil ?_
  refine KQ.seq ?_
  refine KC.seq ?_
  refine KC.seq ?_
  have os : Old H H := Old.refl _
  have ob := o0
  have hcxS := hcx
  refine KC.text (clOf [(8, 2)]) (fun _ Hc => Old H Hc) (by kernel_rfl) (by kernel_rfl) (fun _ => Old.refl _) ?_
  refine KP.op rfl (fun Hg og => by have hcx := hcxS.old og; have o0 := ob.trans og; exact R.move rfl rfl) rfl rfl rfl ?_
  refine KP.op rfl (fun Hg og => by have hcx := hcxS.old og; have o0 := ob.trans og; exact R.eqlP rfl Try.underlying55 rfl rfl) rfl rfl rfl ?_
  refine KP.op rfl (fun Hg og => by have hcx := hcxS.old og; have o0 := ob.trans og; exact R.move rfl rfl) rfl rfl rfl ?_
  refine KP.op rfl (fun Hg og => by have hcx := hcxS.old og; have o0 := ob.trans og; exact R.move rfl rfl) rfl rfl rfl ?_
  refine KP.op rfl (fun Hg og => by have hcx := hcxS.old og; have o0 := ob.trans og; exact R.move rfl rfl) rfl rfl rfl ?_
  refine KP.op rfl (fun Hg og => by have hcx := hcxS.old og; have o0 := ob.trans og; exact R.nilCheck rfl rfl) rfl rfl rfl ?_
  refine KP.op rfl (fun Hg og => by have hcx := hcxS.old og; have o0 := ob.trans og; exact (by first | exact R.fieldAddr rfl Try.underlying58 rfl rfl sz22 rfl | exact R.fieldAddrP rfl Try.underlying58 rfl rfl sz22 rfl)) rfl rfl rfl ?_
  refine KP.op rfl (fun Hg og => by have hcx := hcxS.old og; have o0 := ob.trans og; exact R.load rfl Try.underlying22 rfl rfl (hcx 1 _ rfl)) rfl rfl rfl ?_
  refine KP.call rfl rfl rfl rfl rfl Try.call29 rfl rfl rfl (left_k h hend) (fun _ _ h _ _ _ => os.trans h.2) ?_
  rintro _ H1 ⟨rfl, ox⟩
  have zc_H1 := (ox).1
  have o0 := o0.trans ox
  have os := os.trans ox
  have hcx := hcx.old ox
  refine KP.op rfl (fun Hg og => by have hcx := hcxS.old og; have o0 := ob.trans og; exact R.move rfl rfl) rfl rfl rfl ?_
  refine KP.op rfl (fun Hg og => by have hcx := hcxS.old og; have o0 := ob.trans og; exact R.nilCheck rfl rfl) rfl rfl rfl ?_
  refine KP.op rfl (fun Hg og => by have hcx := hcxS.old og; have o0 := ob.trans og; exact (by first | exact R.fieldAddr rfl Try.underlying58 rfl rfl sz3 rfl | exact R.fieldAddrP rfl Try.underlying58 rfl rfl sz3 rfl)) rfl rfl rfl ?_
  refine KP.op rfl (fun Hg og => by have hcx := hcxS.old og; have o0 := ob.trans og; exact R.load rfl Try.underlying3 rfl rfl (hcx 2 _ rfl)) rfl rfl rfl ?_
  refine KP.op rfl (fun Hg og => by have hcx := hcxS.old og; have o0 := ob.trans og; exact (R.neq rfl rfl rfl).val (congrArg Value.bool (show (!decide (s.leftN s.top.ends = (s.base.length : Nat))) = true by rw [decide_eq_false hne]; rfl))) rfl rfl rfl ?_
  refine KP.op rfl (fun Hg og => by have hcx := hcxS.old og; have o0 := ob.trans og; exact R.pick rfl rfl rfl) rfl rfl rfl ?_
  refine KP.nil ?_
  refine KQ.seq ?_
  refine KC.condT rfl ?_
  refine KC.seq ?_
  refine KC.region ?_
  refine KL.op (R.assign rfl rfl) rfl rfl rfl ?_
  refine KL.op (R.assign rfl rfl) rfl rfl rfl ?_
  refine KL.nil ?_
  refine KQ.seq ?_
  refine KC.ret ?_
  refine KQ.retThen ?_
  refine KQ.ofRet ?_
  refine KQ.fin2 Try.results18 rfl rfl ?_
  exact ⟨_, vl, vf, by rw [DS.close_no hc], by rw [DS.close_no hc]; exact fun _ _ => Sl.nil _ _ _, by rw [DS.close_no hc]; exact h.old o0, StepO.ofOld o0⟩

set_option maxRecDepth 100000 in
set_option maxHeartbeats 4000000 in
theorem Close_yes {B : Nat} {X : Nat → Prop} {H : Heap} {g : Nat} {vl vf : Value} {s : DS} (h : TS B X H g vl vf s) (h0 : s.fr ≠ []) (hc : s.left s.top.ends = some 0) : Ct Try.prog 18 [.pointer (some ⟨g, 0, none⟩)] H (fun u H' => ∃ ev vl' vf', u = .tuple #[ev, .bool s.close.2.1] ∧ (∀ H2, KeepP (MX (MS g vl' vf') X) H' H2 → Sl 1 (EInt .u8) H2 ev s.close.1) ∧ TS B X H' g vl' vf' s.close.2.2 ∧ StepO (MS g vl vf) (MS g vl' vf') H H') := by
  refine Ct.mk Try.func18 rfl Try.ntmps18 rfl ?_
  intro W0 hW0
  have o0 : OldB 0 H H := OldB.refl _ H
  obtain ⟨bg, hB, wl, wf, ngl, ngf, nlf, hX, hm, ha, hfl⟩ := id h
  have zg := blk_lt bg
  have hfn := frs_len s.fr s.loose.length
  have hn := List.length_pos_iff.2 h0
  obtain ⟨cs, hcl, hcx, hfp⟩ := wf.fpAt (by decide) (s.fr.length - 1) (by omega)
  rw [DS.frs_top h0] at hfp
  obtain ⟨lv, ev, rfl, hlab, hend, hlb, hle⟩ := hfp H (KeepP.refl _ _)
  dsimp only at hcx hlab hend hlb hle
  have hall := congrArg List.length (DS.all_eq h0)
  rw [List.length_append] at hall
  have st : StepO (MS g vl vf) (MS g vl vf) H H := StepO.refl _ _
  have hgg : MS g vl vf g := .inl rfl
  have hgl2 : vl = .slice none 0 0 ∨ vblock vl ≠ g := Classical.byCases .inl (fun e => .inr (fun e2 => ngl _ ⟨e, rfl⟩ e2))
  have hgf2 : vf = .slice none 0 0 ∨ vblock vf ≠ g := Classical.byCases .inl (fun e => .inr (fun e2 => ngf _ ⟨e, rfl⟩ e2))
  refine KC.seq ?_
  refine KC.region ?_
  refine KL.op (R.assign rfl rfl) rfl rfl rfl ?_
  refine KL.op (R.assign rfl rfl) rfl rfl rfl ?_
  refine KL.nil ?_
  refine KQ.seq ?_
  refine KC.seq ?_
  refine KC.region ?_
  refine KL.op (R.move rfl rfl) rfl rfl rfl ?_
  refine KL.call rfl rfl rfl rfl Try.call28 rfl rfl rfl (top_yes h h0) ?_
  rintro _ _ ⟨rfl, rfl⟩
  refine KL.op (R.assign rfl rfl) rfl rfl rfl ?_
  refine KL.nil ?_
  refine KQ.seq ?_
  refine KC.seq ?_
  refine KC.seq ?_
  have os : Old H H := Old.refl _
  have ob := o0
  have bgS := bg
  have wlS := wl
  have wfS := wf
  have hcxS := hcx
  have stS := st
  refine KC.text (clOf [(8, 2)]) (fun _ Hc => Old H Hc) (by kernel_rfl) (by kernel_rfl) (fun _ => Old.refl _) ?_
  refine KP.op rfl (fun Hg og => by have bg := og.blk bgS; have wl := wlS.old og; have wf := wfS.old og; have hcx := hcxS.old og; have st := stS.old og; have o0 := ob.trans (og.b (by omega)); exact R.move rfl rfl) rfl rfl rfl ?_
  refine KP.op rfl (fun Hg og => by have bg := og.blk bgS; have wl := wlS.old og; have wf := wfS.old og; have hcx := hcxS.old og; have st := stS.old og; have o0 := ob.trans (og.b (by omega)); exact R.eqlP rfl Try.underlying55 rfl rfl) rfl rfl rfl ?_
  refine KP.op rfl (fun Hg og => by have bg := og.blk bgS; have wl := wlS.old og; have wf := wfS.old og; have hcx := hcxS.old og; have st := stS.old og; have o0 := ob.trans (og.b (by omega)); exact R.move rfl rfl) rfl rfl rfl ?_
  refine KP.op rfl (fun Hg og => by have bg := og.blk bgS; have wl := wlS.old og; have wf := wfS.old og; have hcx := hcxS.old og; have st := stS.old og; have o0 := ob.trans (og.b (by omega)); exact R.move rfl rfl) rfl rfl rfl ?_
  refine KP.op rfl (fun Hg og => by have bg := og.blk bgS; have wl := wlS.old og; have wf := wfS.old og; have hcx := hcxS.old og; have st := stS.old og; have o0 := ob.trans (og.b (by omega)); exact R.move rfl rfl) rfl rfl rfl ?_
  refine KP.op rfl (fun Hg og => by have bg := og.blk bgS; have wl := wlS.old og; have wf := wfS.old og; have hcx := hcxS.old og; have st := stS.old og; have o0 := ob.trans (og.b (by omega)); exact R.nilCheck rfl rfl) rfl rfl rfl ?_
  refine KP.op rfl (fun Hg og => by have bg := og.blk bgS; have wl := wlS.old og; have wf := wfS.old og; have hcx := hcxS.old og; have st := stS.old og; have o0 := ob.trans (og.b (by omega)); exact (by first | exact R.fieldAddr rfl Try.underlying58 rfl rfl sz22 rfl | exact R.fieldAddrP rfl Try.underlying58 rfl rfl sz22 rfl)) rfl rfl rfl ?_
  refine KP.op rfl (fun Hg og => by have bg := og.blk bgS; have wl := wlS.old og; have wf := wfS.old og; have hcx := hcxS.old og; have st := stS.old og; have o0 := ob.trans (og.b (by omega)); exact R.load rfl Try.underlying22 rfl rfl (hcx 1 _ rfl)) rfl rfl rfl ?_
  refine KP.call rfl rfl rfl rfl rfl Try.call29 rfl rfl rfl (left_k h hend) (fun _ _ h _ _ _ => os.trans h.2) ?_
  rintro _ H1 ⟨rfl, ox⟩
  have zc_H1 := (ox).1
  have o0 := o0.trans ((ox).b (by omega))
  have os := os.trans ox
  have bg := (ox).blk bg
  have wl := wl.old ox
  have wf := wf.old ox
  have hcx := hcx.old ox
  have st := st.old ox
  refine KP.op rfl (fun Hg og => by have bg := og.blk bgS; have wl := wlS.old og; have wf := wfS.old og; have hcx := hcxS.old og; have st := stS.old og; have o0 := ob.trans (og.b (by omega)); exact R.move rfl rfl) rfl rfl rfl ?_
  refine KP.op rfl (fun Hg og => by have bg := og.blk bgS; have wl := wlS.old og; have wf := wfS.old og; have hcx := hcxS.old og; have st := stS.old og; have o0 := ob.trans (og.b (by omega)); exact R.nilCheck rfl rfl) rfl rfl rfl ?_
  refine KP.op rfl (fun Hg og => by have bg := og.blk bgS; have wl := wlS.old og; have wf := wfS.old og; have hcx := hcxS.old og; have st := stS.old og; have o0 := ob.trans (og.b (by omega)); exact (by first | exact R.fieldAddr rfl Try.underlying58 rfl rfl sz3 rfl | exact R.fieldAddrP rfl Try.underlying58 rfl rfl sz3 rfl)) rfl rfl rfl ?_
  refine KP.op rfl (fun Hg og => by have bg := og.blk bgS; have wl := wlS.old og; have wf := wfS.old og; have hcx := hcxS.old og; have st := stS.old og; have o0 := ob.trans (og.b (by omega)); exact R.load rfl Try.underlying3 rfl rfl (hcx 2 _ rfl)) rfl rfl rfl ?_
  refine KP.op rfl (fun Hg og => by have bg := og.blk bgS; have wl := wlS.old og; have wf := wfS.old og; have hcx := hcxS.old og; have st := stS.old og; have o0 := ob.trans (og.b (by omega)); exact (R.neq rfl rfl rfl).val (congrArg Value.bool (show (!decide (s.leftN s.top.ends = (s.base.length : Nat))) = false by rw [DS.leftN_some hc, Nat.add_zero]; simp))) rfl rfl rfl ?_
  refine KP.op rfl (fun Hg og => by have bg := og.blk bgS; have wl := wlS.old og; have wf := wfS.old og; have hcx := hcxS.old og; have st := stS.old og; have o0 := ob.trans (og.b (by omega)); exact R.pick rfl rfl rfl) rfl rfl rfl ?_
  refine KP.nil ?_
  refine KQ.seq ?_
  refine KC.condF rfl ?_
  refine KC.skip ?_
  refine KQ.seq ?_
  refine KC.seq ?_
  refine KC.region ?_
  refine KL.op (R.move rfl rfl) rfl rfl rfl ?_
  refine KL.op (R.nilCheck rfl rfl) rfl rfl rfl ?_
  refine KL.op ((by first | exact R.fieldAddr rfl Try.underlying58 rfl rfl sz22 rfl | exact R.fieldAddrP rfl Try.underlying58 rfl rfl sz22 rfl)) rfl rfl rfl ?_
  refine KL.op (R.load rfl Try.underlying22 rfl rfl (hcx 1 _ rfl)) rfl rfl rfl ?_
  refine KL.op (R.assign rfl rfl) rfl rfl rfl ?_
  refine KL.nil ?_
  refine KQ.seq ?_
  refine KC.seq ?_
  refine KC.text (clOf [(4, 1), (8, 1), (12, 2)]) (fun _ _ => True) (by kernel_rfl) (by kernel_rfl) (fun _ => trivial) ?_
  refine KP.op rfl (fun Hg hg => R.move rfl rfl) rfl rfl rfl ?_
  refine KP.op rfl (fun Hg hg => R.move rfl rfl) rfl rfl rfl ?_
  refine KP.op rfl (fun Hg hg => R.nilCheck rfl rfl) rfl rfl rfl ?_
  refine KP.op rfl (fun Hg hg => (by first | exact R.fieldAddr rfl Try.underlying52 rfl rfl sz22 rfl | exact R.fieldAddrP rfl Try.underlying52 rfl rfl sz22 rfl)) rfl rfl rfl ?_
  refine KP.now rfl (R.load rfl Try.underlying22 rfl rfl (cell_of bg rfl)) rfl rfl rfl ?_
  refine KP.op rfl (fun Hg hg => R.move rfl rfl) rfl rfl rfl ?_
  refine KP.op rfl (fun Hg hg => R.nilCheck rfl rfl) rfl rfl rfl ?_
  refine KP.op rfl (fun Hg hg => (by first | exact R.fieldAddr rfl Try.underlying58 rfl rfl sz3 rfl | exact R.fieldAddrP rfl Try.underlying58 rfl rfl sz3 rfl)) rfl rfl rfl ?_
  refine KP.now rfl (R.load rfl Try.underlying3 rfl rfl (hcx 2 _ rfl)) rfl rfl rfl ?_
  refine KP.op rfl (fun Hg hg => R.sliceTo (j := s.base.length) rfl Try.underlying22 sz5 rfl rfl wl rfl (by omega)) rfl rfl rfl ?_
  refine KP.op rfl (fun Hg hg => R.nilCheck rfl rfl) rfl rfl rfl ?_
  refine KP.op rfl (fun Hg hg => (by first | exact R.fieldAddr rfl Try.underlying52 rfl rfl sz22 rfl | exact R.fieldAddrP rfl Try.underlying52 rfl rfl sz22 rfl)) rfl rfl rfl ?_
  refine KP.opS rfl (S.store rfl sz22 rfl rfl (wl.to (j := s.base.length) (by omega)).1.cells1 (wl.to (j := s.base.length) (by omega)).1.one bg (by simp)) rfl rfl (fun _ _ _ _ _ => trivial) ?_
  rintro H2 ⟨u2, b2⟩
  have o0 := o0.trans (OldB.upd u2 (by omega))
  have zu2 := u2.1
  have wl := wl.upd u2 (by first | exact .inl rfl | exact .inr (by omega) | exact hgl2 | exact hgf2 | exact wl.lt.imp id (fun h => by omega))
  have wf := wf.upd u2 (by first | exact .inl rfl | exact .inr (by omega) | exact hgl2 | exact hgf2 | exact wf.lt.imp id (fun h => by omega))
  have st := (by first | exact st.upd u2 | exact st.updN u2 (by omega))
  have bg := b2
  refine KP.nil ?_
  refine KQ.seq ?_
  refine KC.seq ?_
  refine KC.text (clOf [(4, 1), (8, 1), (14, 2)]) (fun _ _ => True) (by kernel_rfl) (by kernel_rfl) (fun _ => trivial) ?_
  refine KP.op rfl (fun Hg hg => R.move rfl rfl) rfl rfl rfl ?_
  refine KP.op rfl (fun Hg hg => R.move rfl rfl) rfl rfl rfl ?_
  refine KP.op rfl (fun Hg hg => R.nilCheck rfl rfl) rfl rfl rfl ?_
  refine KP.op rfl (fun Hg hg => (by first | exact R.fieldAddr rfl Try.underlying52 rfl rfl sz50 rfl | exact R.fieldAddrP rfl Try.underlying52 rfl rfl sz50 rfl)) rfl rfl rfl ?_
  refine KP.now rfl (R.load rfl Try.underlying50 rfl rfl (cell_of bg rfl)) rfl rfl rfl ?_
  refine KP.op rfl (fun Hg hg => R.move rfl rfl) rfl rfl rfl ?_
  refine KP.op rfl (fun Hg hg => R.nilCheck rfl rfl) rfl rfl rfl ?_
  refine KP.op rfl (fun Hg hg => (by first | exact R.fieldAddr rfl Try.underlying52 rfl rfl sz50 rfl | exact R.fieldAddrP rfl Try.underlying52 rfl rfl sz50 rfl)) rfl rfl rfl ?_
  refine KP.now rfl (R.load rfl Try.underlying50 rfl rfl (cell_of bg rfl)) rfl rfl rfl ?_
  refine KP.op rfl (fun Hg hg => R.lenO rfl Try.underlying50 rfl wf) rfl rfl rfl ?_
  refine KP.op rfl (fun Hg hg => (R.sub rfl rfl rfl (by dsimp only [InR]; omega)).val (congrArg (Value.int .i64) (show ((frs s.loose.length s.fr).length : Int) - 1 = ((s.fr.length - 1 : Nat) : Int) by omega))) rfl rfl rfl ?_
  refine KP.op rfl (fun Hg hg => R.sliceTo (j := s.fr.length - 1) rfl Try.underlying50 sz58 rfl rfl wf rfl (by omega)) rfl rfl rfl ?_
  refine KP.op rfl (fun Hg hg => R.nilCheck rfl rfl) rfl rfl rfl ?_
  refine KP.op rfl (fun Hg hg => (by first | exact R.fieldAddr rfl Try.underlying52 rfl rfl sz50 rfl | exact R.fieldAddrP rfl Try.underlying52 rfl rfl sz50 rfl)) rfl rfl rfl ?_
  refine KP.opS rfl (S.store rfl sz50 rfl rfl (wf.to (j := s.fr.length - 1) (by omega)).1.cells1 (wf.to (j := s.fr.length - 1) (by omega)).1.one bg (by simp)) rfl rfl (fun _ _ _ _ _ => trivial) ?_
  rintro H3 ⟨u3, b3⟩
  have o0 := o0.trans (OldB.upd u3 (by omega))
  have zu3 := u3.1
  have wl := wl.upd u3 (by first | exact .inl rfl | exact .inr (by omega) | exact hgl2 | exact hgf2 | exact wl.lt.imp id (fun h => by omega))
  have wf := wf.upd u3 (by first | exact .inl rfl | exact .inr (by omega) | exact hgl2 | exact hgf2 | exact wf.lt.imp id (fun h => by omega))
  have st := (by first | exact st.upd u3 | exact st.updN u3 (by omega))
  have bg := b3
  refine KP.nil ?_
  refine KQ.seq ?_
  refine KC.seq ?_
  refine KC.region ?_
  refine KL.op (R.move rfl rfl) rfl rfl rfl ?_
  refine KL.op (R.assign rfl rfl) rfl rfl rfl ?_
  refine KL.op (R.assign rfl rfl) rfl rfl rfl ?_
  refine KL.nil ?_
  refine KQ.seq ?_
  refine KC.ret ?_
  refine KQ.ofRet ?_
  refine KQ.fin2 Try.results18 rfl rfl ?_
  have hofl : ∀ b, Of (toV vl s.base.length) b → Of vl b := fun b hb => h.wl.ofTo (by omega) hb
  have hoff : ∀ b, Of (toV vf (s.fr.length - 1)) b → Of vf b := fun b hb => h.wf.ofTo (by omega) hb
  have h2 := h.set (s' := s.less) st (fun b hb => .inl (hofl b hb)) (fun b hb => .inl (hoff b hb)) (fun b hb hb2 => nlf b (hofl b hb) (hoff b hb2)) bg (by rw [DS.less_all h0]; exact (wl.to (j := s.base.length) (by omega)).1) (by rw [DS.less_frs h0]; exact (wf.to (j := s.fr.length - 1) (by omega)).1) st (Nat.le_refl _) (fun b hb => .inl (hoff b hb)) (fun b hb => .inl (hofl b hb)) hm (by rw [DS.less_all h0, List.length_take]; omega) (by show (s.fr.take _).length ≤ _; rw [List.length_take]; omega)
  refine ⟨ev, _, _, by rw [DS.close_yes hc], ?_, by rw [DS.close_yes hc]; exact h2.1, h2.2⟩
  rw [DS.close_yes hc]
  intro Hq kq
  obtain ⟨lv2, ev2, he2, _, hs2, _⟩ := (hfp.step (H0' := H) h2.2.mx1) Hq kq
  injection he2 with _ he3
  injection he3 with he4 _
  rw [he4]
  exact hs2

theorem Close_s {B : Nat} {X : Nat → Prop} {H : Heap} {g : Nat} {vl vf : Value} {s : DS} (h : TS B X H g vl vf s) : Ct Try.prog 18 [.pointer (some ⟨g, 0, none⟩)] H (fun u H' => ∃ ev vl' vf', u = .tuple #[ev, .bool s.close.2.1] ∧ (∀ H2, KeepP (MX (MS g vl' vf') X) H' H2 → Sl 1 (EInt .u8) H2 ev s.close.1) ∧ TS B X H' g vl' vf' s.close.2.2 ∧ StepO (MS g vl vf) (MS g vl' vf') H H') := by
  by_cases h0 : s.fr = []
  · exact Close_no h h0
  · by_cases hc : s.left s.top.ends = some 0
    · exact Close_yes h h0 hc
    · exact Close_fail h h0 hc

theorem Close_k {B : Nat} {X : Nat → Prop} {H : Heap} {g : Nat} {vl vf : Value} {s : DS} (h : TS B X H g vl vf s) : Ct Try.prog 18 [.pointer (some ⟨g, 0, none⟩)] H (fun u H' => ∃ ev vl' vf', u = .tuple #[ev, .bool s.close.2.1] ∧ Sl 1 (EInt .u8) H' ev s.close.1 ∧ TS B X H' g vl' vf' s.close.2.2 ∧ StepO (MS g vl vf) (MS g vl' vf') H H') := (Close_s h).mono fun u H' hh => by
  obtain ⟨ev, vl', vf', h1, h2, h3, h4⟩ := hh
  exact ⟨ev, vl', vf', h1, h2 _ (KeepP.refl _ _), h3, h4⟩

set_option maxRecDepth 100000 in
set_option maxHeartbeats 4000000 in
theorem Label_nil {H : Heap} (n : Nat) : Ct Try.prog 22 [.pointer none, .int .u32 (n : Nat)] H (fun u H' => u = .tuple #[.slice none 0 0, .bool false] ∧ H = H') := by
  refine Ct.mk Try.func22 rfl Try.ntmps22 rfl ?_
  intro W0 hW0
  have o0 : Old H H := Old.refl H
  refine KC.seq ?_
  refine KC.region ?_
  refine KL.op (R.assign rfl rfl) rfl rfl rfl ?_
  refine KL.op (R.assign rfl rfl) rfl rfl rfl ?_
  refine KL.nil ?_
  refine KQ.seq ?_
  refine KC.seq ?_
  refine KC.seq ?_
  refine KC.region ?_
  refine KL.op (R.move rfl rfl) rfl rfl rfl ?_
  refine KL.op (R.eqlP rfl Try.underlying26 rfl rfl) rfl rfl rfl ?_
  refine KL.op (R.move rfl rfl) rfl rfl rfl ?_
  refine KL.skip rfl rfl rfl ?_
  refine KL.skip rfl rfl rfl ?_
  refine KL.skip rfl rfl rfl ?_
  refine KL.skip rfl rfl rfl ?_
  refine KL.skip rfl rfl rfl ?_
  refine KL.skip rfl rfl rfl ?_
  refine KL.skip rfl rfl rfl ?_
  refine KL.skip rfl rfl rfl ?_
  refine KL.skip rfl rfl rfl ?_
  refine KL.op (R.pick rfl rfl rfl) rfl rfl rfl ?_
  refine KL.nil ?_
  refine KQ.seq ?_
  refine KC.condT rfl ?_
  refine KC.seq ?_
  refine KC.region ?_
  refine KL.op (R.assign rfl rfl) rfl rfl rfl ?_
  refine KL.op (R.assign rfl rfl) rfl rfl rfl ?_
  refine KL.nil ?_
  refine KQ.seq ?_
  refine KC.ret ?_
  refine KQ.retThen ?_
  refine KQ.ofRet ?_
  refine KQ.fin2 Try.results22 rfl rfl ?_
  exact ⟨rfl, rfl⟩

set_option maxRecDepth 100000 in
set_option maxHeartbeats 4000000 in
theorem Label_no {B : Nat} {X : Nat → Prop} {H : Heap} {g : Nat} {vl vf : Value} {s : DS} (h : TS B X H g vl vf s) (n : Nat) (hn : n < 4294967296) (h0 : s.fr.length ≤ n) : Ct Try.prog 22 [.pointer (some ⟨g, 0, none⟩), .int .u32 (n : Nat)] H (fun u H' => ∃ lv, u = .tuple #[lv, .bool (s.lab n).2] ∧ Own 1 (EInt .u8) 5 #[] H.size H' lv (s.lab n).1 ∧ Old H H') := by
  refine Ct.mk Try.func22 rfl Try.ntmps22 rfl ?_
  intro W0 hW0
  have o0 : Old H H := Old.refl H
  obtain ⟨bg, hB, wl, wf, ngl, ngf, nlf, hX, hm, ha, hfl⟩ := id h
  have zg := blk_lt bg
  have hfn := frs_len s.fr s.loose.length
  have hlb : s.lab n = ([], false) := by unfold DS.lab; rw [if_neg (by omega)]
  refine KC.seq ?_
  refine KC.region ?_
  refine KL.op (R.assign rfl rfl) rfl rfl rfl ?_
  refine KL.op (R.assign rfl rfl) rfl rfl rfl ?_
  refine KL.nil ?_
  refine KQ.seq ?_
  refine KC.seq ?_
  refine KC.seq ?_
  refine KC.region ?_
  refine KL.op (R.move rfl rfl) rfl rfl rfl ?_
  refine KL.op (R.eqlP rfl Try.underlying26 rfl rfl) rfl rfl rfl ?_
  refine KL.op (R.move rfl rfl) rfl rfl rfl ?_
  refine KL.op (R.move rfl rfl) rfl rfl rfl ?_
  refine KL.op (R.convI rfl Try.underlying30 Try.underlying63 rfl (by dsimp only [InR]; omega)) rfl rfl rfl ?_
  refine KL.op (R.move rfl rfl) rfl rfl rfl ?_
  refine KL.op (R.nilCheck rfl rfl) rfl rfl rfl ?_
  refine KL.op ((by first | exact R.fieldAddr rfl Try.underlying52 rfl rfl sz50 rfl | exact R.fieldAddrP rfl Try.underlying52 rfl rfl sz50 rfl)) rfl rfl rfl ?_
  refine KL.op (R.load rfl Try.underlying50 rfl rfl (cell_of bg rfl)) rfl rfl rfl ?_
  refine KL.op (R.lenO rfl Try.underlying50 rfl wf) rfl rfl rfl ?_
  refine KL.op (R.convI rfl Try.underlying3 Try.underlying63 rfl (by dsimp only [InR]; omega)) rfl rfl rfl ?_
  refine KL.op ((R.geq rfl rfl rfl).val (congrArg Value.bool (decide_eq_true (by omega)))) rfl rfl rfl ?_
  refine KL.op (R.pick rfl rfl rfl) rfl rfl rfl ?_
  refine KL.nil ?_
  refine KQ.seq ?_
  refine KC.condT rfl ?_
  refine KC.seq ?_
  refine KC.region ?_
  refine KL.op (R.assign rfl rfl) rfl rfl rfl ?_
  refine KL.op (R.assign rfl rfl) rfl rfl rfl ?_
  refine KL.nil ?_
  refine KQ.seq ?_
  refine KC.ret ?_
  refine KQ.retThen ?_
  refine KQ.ofRet ?_
  refine KQ.fin2 Try.results22 rfl rfl ?_
  exact ⟨_, by rw [hlb], by rw [hlb]; exact Own.nil _ _ _ _ _ _, o0⟩

set_option maxRecDepth 100000 in
set_option maxHeartbeats 4000000 in
theorem Label_yes {B : Nat} {X : Nat → Prop} {H : Heap} {g : Nat} {vl vf : Value} {s : DS} (h : TS B X H g vl vf s) (n : Nat) (hn : n < 4294967296) (h0 : n < s.fr.length) : Ct Try.prog 22 [.pointer (some ⟨g, 0, none⟩), .int .u32 (n : Nat)] H (fun u H' => ∃ lv, u = .tuple #[lv, .bool (s.lab n).2] ∧ Own 1 (EInt .u8) 5 #[] H.size H' lv (s.lab n).1 ∧ Old H H') := by
  refine Ct.mk Try.func22 rfl Try.ntmps22 rfl ?_
  intro W0 hW0
  have o0 : Old H H := Old.refl H
  obtain ⟨bg, hB, wl, wf, ngl, ngf, nlf, hX, hm, ha, hfl⟩ := id h
  have zg := blk_lt bg
  have hfn := frs_len s.fr s.loose.length
  have hln : s.lab n = ((s.fr.getD (s.fr.length - 1 - n) default).label, true) := by unfold DS.lab; rw [if_pos h0]
  obtain ⟨cs, hcl, hcx, hfp⟩ := wf.fpAt (by decide) (s.fr.length - 1 - n) (by omega)
  obtain ⟨lv, ev, rfl, hlab, hend, hlb, hle⟩ := hfp H (KeepP.refl _ _)
  rw [frs_label] at hlab hlb
  refine KC.seq ?_
  refine KC.region ?_
  refine KL.op (R.assign rfl rfl) rfl rfl rfl ?_
  refine KL.op (R.assign rfl rfl) rfl rfl rfl ?_
  refine KL.nil ?_
  refine KQ.seq ?_
  refine KC.seq ?_
  refine KC.seq ?_
  refine KC.region ?_
  refine KL.op (R.move rfl rfl) rfl rfl rfl ?_
  refine KL.op (R.eqlP rfl Try.underlying26 rfl rfl) rfl rfl rfl ?_
  refine KL.op (R.move rfl rfl) rfl rfl rfl ?_
  refine KL.op (R.move rfl rfl) rfl rfl rfl ?_
  refine KL.op (R.convI rfl Try.underlying30 Try.underlying63 rfl (by dsimp only [InR]; omega)) rfl rfl rfl ?_
  refine KL.op (R.move rfl rfl) rfl rfl rfl ?_
  refine KL.op (R.nilCheck rfl rfl) rfl rfl rfl ?_
  refine KL.op ((by first | exact R.fieldAddr rfl Try.underlying52 rfl rfl sz50 rfl | exact R.fieldAddrP rfl Try.underlying52 rfl rfl sz50 rfl)) rfl rfl rfl ?_
  refine KL.op (R.load rfl Try.underlying50 rfl rfl (cell_of bg rfl)) rfl rfl rfl ?_
  refine KL.op (R.lenO rfl Try.underlying50 rfl wf) rfl rfl rfl ?_
  refine KL.op (R.convI rfl Try.underlying3 Try.underlying63 rfl (by dsimp only [InR]; omega)) rfl rfl rfl ?_
  refine KL.op ((R.geq rfl rfl rfl).val (congrArg Value.bool (decide_eq_false (by omega)))) rfl rfl rfl ?_
  refine KL.op (R.pick rfl rfl rfl) rfl rfl rfl ?_
  refine KL.nil ?_
  refine KQ.seq ?_
  refine KC.condF rfl ?_
  refine KC.skip ?_
  refine KQ.seq ?_
  refine KC.seq ?_
  refine KC.text (clOf [(3, 1), (7, 1), (15, 1), (16, 2)]) (fun _ _ => True) (by kernel_rfl) (by kernel_rfl) (fun _ => trivial) ?_
  refine KP.op rfl (fun Hg hg => R.move rfl rfl) rfl rfl rfl ?_
  refine KP.op rfl (fun Hg hg => R.nilCheck rfl rfl) rfl rfl rfl ?_
  refine KP.op rfl (fun Hg hg => (by first | exact R.fieldAddr rfl Try.underlying52 rfl rfl sz50 rfl | exact R.fieldAddrP rfl Try.underlying52 rfl rfl sz50 rfl)) rfl rfl rfl ?_
  refine KP.now rfl (R.load rfl Try.underlying50 rfl rfl (cell_of bg rfl)) rfl rfl rfl ?_
  refine KP.op rfl (fun Hg hg => R.move rfl rfl) rfl rfl rfl ?_
  refine KP.op rfl (fun Hg hg => R.nilCheck rfl rfl) rfl rfl rfl ?_
  refine KP.op rfl (fun Hg hg => (by first | exact R.fieldAddr rfl Try.underlying52 rfl rfl sz50 rfl | exact R.fieldAddrP rfl Try.underlying52 rfl rfl sz50 rfl)) rfl rfl rfl ?_
  refine KP.now rfl (R.load rfl Try.underlying50 rfl rfl (cell_of bg rfl)) rfl rfl rfl ?_
  refine KP.op rfl (fun Hg hg => R.lenO rfl Try.underlying50 rfl wf) rfl rfl rfl ?_
  refine KP.op rfl (fun Hg hg => (R.sub rfl rfl rfl (by dsimp only [InR]; omega)).val (congrArg (Value.int .i64) (show ((frs s.loose.length s.fr).length : Int) - 1 = ((s.fr.length - 1 : Nat) : Int) by omega))) rfl rfl rfl ?_
  refine KP.op rfl (fun Hg hg => R.move rfl rfl) rfl rfl rfl ?_
  refine KP.op rfl (fun Hg hg => R.convI rfl Try.underlying30 Try.underlying3 rfl (by dsimp only [InR]; omega)) rfl rfl rfl ?_
  refine KP.op rfl (fun Hg hg => (R.sub rfl rfl rfl (by dsimp only [InR]; omega)).val (congrArg (Value.int .i64) (show ((s.fr.length - 1 : Nat) : Int) - (n : Nat) = ((s.fr.length - 1 - n : Nat) : Int) by omega))) rfl rfl rfl ?_
  refine KP.op rfl (fun Hg hg => R.indexON (j := s.fr.length - 1 - n) rfl Try.underlying50 sz58 rfl rfl wf rfl (by omega)) rfl rfl rfl ?_
  refine KP.op rfl (fun Hg hg => (by first | exact R.fieldAddr rfl Try.underlying58 rfl rfl sz22 rfl | exact R.fieldAddrP rfl Try.underlying58 rfl rfl sz22 rfl)) rfl rfl rfl ?_
  refine KP.now rfl (R.load rfl Try.underlying22 rfl rfl (hcx 0 _ rfl)) rfl rfl rfl ?_
  refine KP.call rfl rfl rfl rfl rfl Try.call31 rfl rfl rfl (Clone_k hlab hlb) (fun _ _ _ _ _ _ => trivial) ?_
  rintro v2 H1 ⟨wc, ox⟩
  have zc_H1 := (ox).1
  have o0 := o0.trans ox
  have bg := (ox).blk bg
  have wl := wl.old ox
  refine KP.op rfl (fun Hg hg => R.assign rfl rfl) rfl rfl rfl ?_
  refine KP.op rfl (fun Hg hg => R.assign rfl rfl) rfl rfl rfl ?_
  refine KP.nil ?_
  refine KQ.seq ?_
  refine KC.ret ?_
  refine KQ.ofRet ?_
  refine KQ.fin2 Try.results22 rfl rfl ?_
  exact ⟨_, by rw [hln], by rw [hln]; exact wc, o0⟩

theorem Label_k {B : Nat} {X : Nat → Prop} {H : Heap} {g : Nat} {vl vf : Value} {s : DS} (h : TS B X H g vl vf s) (n : Nat) (hn : n < 4294967296) : Ct Try.prog 22 [.pointer (some ⟨g, 0, none⟩), .int .u32 (n : Nat)] H (fun u H' => ∃ lv, u = .tuple #[lv, .bool (s.lab n).2] ∧ Own 1 (EInt .u8) 5 #[] H.size H' lv (s.lab n).1 ∧ Old H H') := by
  by_cases h0 : n < s.fr.length
  · exact Label_yes h n hn h0
  · exact Label_no h n hn (by omega)

end Go.Proofs.Ytglopfbdnpbgeaa
