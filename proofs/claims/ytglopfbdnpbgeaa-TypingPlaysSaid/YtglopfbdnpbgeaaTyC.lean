/- Pop, Open, Dead, Label. No condition but sizes. -/
import Derived.Test.YtglopfbdnpbgeaaTyB
namespace Go.Proofs.Ytglopfbdnpbgeaa
open Go Go.RowKit
set_option linter.unusedVariables false
set_option linter.unusedSimpArgs false
set_option linter.unnecessarySimpa false

theorem Nx.le {A B : Heap} {v v' : Value} (h : Nx A v v') (hs : B.size ≤ A.size) : Nx B v v' := h.imp id (fun h => h.imp id (fun h => by omega))
theorem DS.cut_all {s : DS} (h : s.fr ≠ []) (m : Nat) : (s.cut m).all = s.all.take (s.base.length + m) := by
  unfold DS.cut
  rw [DS.all_put h, DS.all_eq h]
  exact (List.take_length_add_append _).symm
theorem DS.cut_frs {s : DS} (h : s.fr ≠ []) (m : Nat) : frs (s.cut m).loose.length (s.cut m).fr = frs s.loose.length s.fr := DS.frs_same h _ rfl rfl rfl
theorem DS.cut_len (s : DS) (m : Nat) : (s.cut m).fr.length = s.fr.length := DS.put_len _ _
theorem DS.put_most (s : DS) (f : DF) : (s.put f).most = s.most := rfl
theorem DS.kill_nil {s : DS} (h : s.fr = []) : s.kill = s := by
  obtain ⟨fr, loose, most⟩ := s
  simp only at h
  subst h; rfl
theorem DS.open_all (s : DS) (a b : List Int) : (s.open a b).all = s.all := by
  unfold DS.open DS.all
  dsimp only
  rw [flat_app]; simp [flat]
theorem DS.open_frs (s : DS) (a b : List Int) : frs (s.open a b).loose.length (s.open a b).fr = frs s.loose.length s.fr ++ [⟨a, b, s.all.length, false⟩] := by
  unfold DS.open DS.all
  dsimp only
  rw [frs_app]; simp [frs]
section
variable {B : Nat} {X X' : Nat → Prop} {H H' H2 : Heap} {g : Nat} {vl vf vl' vf' : Value} {s s' : DS}
/-- the frames change alone -/
theorem TS.setF (h : TS B X H g vl vf s) (st : StepO (MS g (.slice none 0 0) vf) (MS g (.slice none 0 0) vf) H H') (hz : H.size ≤ H2.size) (st2 : StepO (MS g (.slice none 0 0) vf) (MS g (.slice none 0 0) vf) H2 H') (nx : Nx H2 vf vf')
    (bg' : H'[g]? = some (.cells [vl, vf', .int .i64 s'.most].toArray 52 (0, 0))) (wf' : Own 4 (FP EFr H2 (MX (MS g vl vf) X)) 58 #[] B H' vf' (frs s'.loose.length s'.fr)) (hall : s'.all = s.all)
    (hm' : s'.most ≤ 1000000) (ha' : s'.all.length ≤ 1000000) (hf' : s'.fr.length ≤ 1000000) : TS B X H' g vl vf' s' ∧ StepO (MS g vl vf) (MS g vl vf') H H' := by
  have hw : ∀ b, MS g (.slice none 0 0) vf b → MS g vl vf b := fun b hb => hb.imp id (fun h => h.imp (fun h => absurd h (Of.nil b)) id)
  have st1 : StepO (MS g vl vf) (MS g vl vf) H H' := (st.wide hw).to fun b hb => .inl hb
  have st3 : StepO (MS g vl vf) (MS g vl vf) H2 H' := (st2.wide hw).to fun b hb => .inl hb
  have wl' : Own 1 (EInt .u8) 5 #[] B H' vl s'.all := by
    rw [hall]
    refine h.wl.stp st fun b hb => ?_
    rintro (h1 | h1 | h1)
    · exact h.ngl b hb h1
    · exact Of.nil b h1
    · exact h.nlf b hb h1
  have hf2 : ∀ b, Of vf' b → Of vf b ∨ H2.size ≤ b := fun b hb => nx.of hb
  have hf1 : ∀ b, Of vf' b → Of vf b ∨ H.size ≤ b := fun b hb => (hf2 b hb).imp id (fun h => by omega)
  refine h.set st1 (fun b hb => .inl hb) hf1 (fun b hb hb2 => ?_) bg' wl' wf' st3 hz hf2 (fun b hb => .inl hb) hm' ha' hf'
  rcases hf1 b hb2 with h1 | h1
  · exact h.nlf b hb h1
  · have := (h.wl.ofLt hb).2; omega
end
theorem fr_dead {H H0 : Heap} {M : Nat → Prop} {a b : List Int} {h : Nat} {d : Bool} (cs : List Value) (hc : cs.length = 4) (hf : FP EFr H M H0 cs ⟨a, b, h, d⟩) : FP EFr H M H0 (cs.set 3 (.bool true)) ⟨a, b, h, true⟩ := by
  intro H2 k
  obtain ⟨lv, ev, rfl, h1, h2⟩ := hf H2 k
  exact ⟨lv, ev, rfl, h1, h2⟩

set_option maxRecDepth 100000 in
set_option maxHeartbeats 4000000 in
theorem Pop_no {B : Nat} {X : Nat → Prop} {H : Heap} {g : Nat} {vl vf : Value} {s : DS} (h : TS B X H g vl vf s) (h0 : s.fr = []) : Ct Try.prog 12 [.pointer (some ⟨g, 0, none⟩)] H (fun u H' => ∃ vl', u = .tuple #[.int .u8 s.pop.1, .bool s.pop.2.1] ∧ TS B X H' g vl' vf s.pop.2.2 ∧ StepO (MS g vl vf) (MS g vl' vf) H H') := by
  refine Ct.mk Try.func12 rfl Try.ntmps12 rfl ?_
  intro W0 hW0
  have o0 : Old H H := Old.refl H
  have hp : s.pop = (0, false, s) := by unfold DS.pop; rw [if_pos h0]
  refine KC.seq ?_
  refine KC.region ?_
  refine KL.op (R.assign rfl rfl) rfl rfl rfl ?_
  refine KL.op (R.assign rfl rfl) rfl rfl rfl ?_
  refine KL.nil ?_
  refine KQ.seq ?_
  refine KC.seq ?_
  refine KC.region ?_
  refine KL.op (R.move rfl rfl) rfl rfl rfl ?_
  refine KL.call rfl rfl rfl rfl Try.call28 rfl rfl rfl (top_no h h0) ?_
  rintro _ _ ⟨rfl, rfl⟩
  refine KL.op (R.assign rfl rfl) rfl rfl rfl ?_
  refine KL.nil ?_
  refine KQ.seq ?_
  refine KC.seq ?_
  refine KC.block ?_
  refine KC.seq ?_
  refine KC.region ?_
  refine KL.op (R.move rfl rfl) rfl rfl rfl ?_
  refine KL.op (R.eqlP rfl Try.underlying55 rfl rfl) rfl rfl rfl ?_
  refine KL.op (R.assign rfl rfl) rfl rfl rfl ?_
  refine KL.nil ?_
  refine KQ.seq ?_
  refine KC.condT rfl ?_
  refine KC.seq ?_
  refine KC.region ?_
  refine KL.op (R.assign rfl rfl) rfl rfl rfl ?_
  refine KL.op (R.assign rfl rfl) rfl rfl rfl ?_
  refine KL.nil ?_
  refine KQ.seq ?_
  refine KC.ret ?_
  refine KQ.retBlock ?_
  refine KQ.retThen ?_
  refine KQ.ofRet ?_
  refine KQ.fin2 Try.results12 rfl rfl ?_
  exact ⟨vl, by rw [hp], by rw [hp]; exact h, StepO.refl _ _⟩

set_option maxRecDepth 100000 in
set_option maxHeartbeats 4000000 in
theorem Pop_dead {B : Nat} {X : Nat → Prop} {H : Heap} {g : Nat} {vl vf : Value} {s : DS} (h : TS B X H g vl vf s) (h0 : s.fr ≠ []) (h1 : s.top.own = []) : Ct Try.prog 12 [.pointer (some ⟨g, 0, none⟩)] H (fun u H' => ∃ vl', u = .tuple #[.int .u8 s.pop.1, .bool s.pop.2.1] ∧ TS B X H' g vl' vf s.pop.2.2 ∧ StepO (MS g vl vf) (MS g vl' vf) H H') := by
  refine Ct.mk Try.func12 rfl Try.ntmps12 rfl ?_
  intro W0 hW0
  have o0 : Old H H := Old.refl H
  obtain ⟨bg, hB, wl, wf, ngl, ngf, nlf, hX, hm, ha, hfl⟩ := id h
  have zg := blk_lt bg
  have hfn := frs_len s.fr s.loose.length
  have hn := List.length_pos_iff.2 h0
  obtain ⟨cs, hcl, hcx, hfp⟩ := wf.fpAt (by decide) (s.fr.length - 1) (by omega)
  rw [DS.frs_top h0] at hfp
  obtain ⟨lv, ev, rfl, hlab, hend, hlb, hle⟩ := hfp H (KeepP.refl _ _)
  dsimp only at hcx hlab hend hlb hle
  have hall := congrArg List.length (DS.all_eq h0)
  rw [List.length_append] at hall
  have hp : s.pop = (0, s.top.dead, s) := by unfold DS.pop; rw [if_neg h0, if_pos h1]
  rw [h1, List.length_nil] at hall
  refine KC.seq ?_
  refine KC.region ?_
  refine KL.op (R.assign rfl rfl) rfl rfl rfl ?_
  refine KL.op (R.assign rfl rfl) rfl rfl rfl ?_
  refine KL.nil ?_
  refine KQ.seq ?_
  refine KC.seq ?_
  refine KC.region ?_
  refine KL.op (R.move rfl rfl) rfl rfl rfl ?_
  refine KL.call rfl rfl rfl rfl Try.call28 rfl rfl rfl (top_yes h h0) ?_
  rintro _ _ ⟨rfl, rfl⟩
  refine KL.op (R.assign rfl rfl) rfl rfl rfl ?_
  refine KL.nil ?_
  refine KQ.seq ?_
  refine KC.seq ?_
  refine KC.block ?_
  refine KC.seq ?_
  refine KC.region ?_
  refine KL.op (R.move rfl rfl) rfl rfl rfl ?_
  refine KL.op (R.eqlP rfl Try.underlying55 rfl rfl) rfl rfl rfl ?_
  refine KL.op (R.assign rfl rfl) rfl rfl rfl ?_
  refine KL.nil ?_
  refine KQ.seq ?_
  refine KC.condF rfl ?_
  refine KC.seq ?_
  refine KC.quiet (by kernel_rfl) (by kernel_rfl) ?_
  refine KD.op (R.move rfl rfl) rfl rfl rfl ?_
  refine KD.op (R.nilCheck rfl rfl) rfl rfl rfl ?_
  refine KD.op ((by first | exact R.fieldAddr rfl Try.underlying52 rfl rfl sz22 rfl | exact R.fieldAddrP rfl Try.underlying52 rfl rfl sz22 rfl)) rfl rfl rfl ?_
  refine KD.op (R.load rfl Try.underlying22 rfl rfl (cell_of bg rfl)) rfl rfl rfl ?_
  refine KD.op (R.lenO rfl Try.underlying22 rfl wl) rfl rfl rfl ?_
  refine KD.op (R.move rfl rfl) rfl rfl rfl ?_
  refine KD.op (R.nilCheck rfl rfl) rfl rfl rfl ?_
  refine KD.op ((by first | exact R.fieldAddr rfl Try.underlying58 rfl rfl sz3 rfl | exact R.fieldAddrP rfl Try.underlying58 rfl rfl sz3 rfl)) rfl rfl rfl ?_
  refine KD.op (R.load rfl Try.underlying3 rfl rfl (hcx 2 _ rfl)) rfl rfl rfl ?_
  refine KD.op ((R.gtr rfl rfl rfl).val (congrArg Value.bool (decide_eq_false (by omega)))) rfl rfl rfl ?_
  refine KD.op (R.assign rfl rfl) rfl rfl rfl ?_
  refine KD.nil ?_
  refine KQ.seq ?_
  refine KC.condF rfl ?_
  refine KC.skip ?_
  refine KQ.normBlock ?_
  refine KQ.seq ?_
  refine KC.seq ?_
  refine KC.quiet (by kernel_rfl) (by kernel_rfl) ?_
  refine KD.op (R.move rfl rfl) rfl rfl rfl ?_
  refine KD.op (R.nilCheck rfl rfl) rfl rfl rfl ?_
  refine KD.op ((by first | exact R.fieldAddr rfl Try.underlying58 rfl rfl sz4 rfl | exact R.fieldAddrP rfl Try.underlying58 rfl rfl sz4 rfl)) rfl rfl rfl ?_
  refine KD.op (R.load rfl Try.underlying4 rfl rfl (hcx 3 _ rfl)) rfl rfl rfl ?_
  refine KD.op (R.assign rfl rfl) rfl rfl rfl ?_
  refine KD.op (R.assign rfl rfl) rfl rfl rfl ?_
  refine KD.nil ?_
  refine KQ.seq ?_
  refine KC.ret ?_
  refine KQ.ofRet ?_
  refine KQ.fin2 Try.results12 rfl rfl ?_
  exact ⟨vl, by rw [hp], by rw [hp]; exact h, StepO.refl _ _⟩

set_option maxRecDepth 100000 in
set_option maxHeartbeats 4000000 in
theorem Pop_yes {B : Nat} {X : Nat → Prop} {H : Heap} {g : Nat} {vl vf : Value} {s : DS} (h : TS B X H g vl vf s) (h0 : s.fr ≠ []) (h1 : s.top.own ≠ []) : Ct Try.prog 12 [.pointer (some ⟨g, 0, none⟩)] H (fun u H' => ∃ vl', u = .tuple #[.int .u8 s.pop.1, .bool s.pop.2.1] ∧ TS B X H' g vl' vf s.pop.2.2 ∧ StepO (MS g vl vf) (MS g vl' vf) H H') := by
  refine Ct.mk Try.func12 rfl Try.ntmps12 rfl ?_
  intro W0 hW0
  have o0 : OldB 0 H H := OldB.refl _ H
  obtain ⟨bg, hB, wl, wf, ngl, ngf, nlf, hX, hm, ha, hfl⟩ := id h
  have zg := blk_lt bg
  have hfn := frs_len s.fr s.loose.length
  have hn := List.length_pos_iff.2 h0
  obtain ⟨cs, hcl, hcx, hfp⟩ := wf.fpAt (by decide) (s.fr.length - 1) (by omega)
  rw [DS.frs_top h0] at hfp
  obtain ⟨lv, ev, rfl, hlab, hend, hlb, hle⟩ := hfp H (KeepP.refl _ _)
  dsimp only at hcx hlab hend hlb hle
  have hall := congrArg List.length (DS.all_eq h0)
  rw [List.length_append] at hall
  have ho := List.length_pos_iff.2 h1
  have hlast : s.all.getD (s.all.length - 1) default = s.top.own.getD (s.top.own.length - 1) default := by
    rw [List.getD_eq_getElem?_getD, List.getD_eq_getElem?_getD, DS.all_eq h0, List.getElem?_append_right (by rw [List.length_append]; omega), List.length_append]
    congr 2; omega
  have hp : s.pop = (s.top.own.getD (s.top.own.length - 1) default, true, s.cut (s.top.own.length - 1)) := by unfold DS.pop; rw [if_neg h0, if_neg h1]
  have hal : (s.cut (s.top.own.length - 1)).all = s.all.take (s.all.length - 1) := by
    rw [DS.cut_all h0]; congr 1; omega
  have st : StepO (MS g vl (.slice none 0 0)) (MS g vl (.slice none 0 0)) H H := StepO.refl _ _
  have hgg : MS g vl (.slice none 0 0) g := .inl rfl
  have hvl : vl = .slice none 0 0 ∨ MS g vl (.slice none 0 0) (vblock vl) := Classical.byCases .inl (fun e => .inr (.inr (.inl ⟨e, rfl⟩)))
  have hgl : vl = .slice none 0 0 ∨ g ≠ vblock vl := Classical.byCases .inl (fun e => .inr (fun e2 => ngl _ ⟨e, rfl⟩ e2.symm))
  have hgl2 : vl = .slice none 0 0 ∨ vblock vl ≠ g := hgl.imp id Ne.symm
  refine KC.seq ?_
  refine KC.region ?_
  refine KL.op (R.assign rfl rfl) rfl rfl rfl ?_
  refine KL.op (R.assign rfl rfl) rfl rfl rfl ?_
  refine KL.nil ?_
  refine KQ.seq ?_
  refine KC.seq ?_
  refine KC.region ?_
  refine KL.op (R.move rfl rfl) rfl rfl rfl ?_
  refine KL.call rfl rfl rfl rfl Try.call28 rfl rfl rfl (top_yes h h0) ?_
  rintro _ _ ⟨rfl, rfl⟩
  refine KL.op (R.assign rfl rfl) rfl rfl rfl ?_
  refine KL.nil ?_
  refine KQ.seq ?_
  refine KC.seq ?_
  refine KC.block ?_
  refine KC.seq ?_
  refine KC.region ?_
  refine KL.op (R.move rfl rfl) rfl rfl rfl ?_
  refine KL.op (R.eqlP rfl Try.underlying55 rfl rfl) rfl rfl rfl ?_
  refine KL.op (R.assign rfl rfl) rfl rfl rfl ?_
  refine KL.nil ?_
  refine KQ.seq ?_
  refine KC.condF rfl ?_
  refine KC.seq ?_
  refine KC.quiet (by kernel_rfl) (by kernel_rfl) ?_
  refine KD.op (R.move rfl rfl) rfl rfl rfl ?_
  refine KD.op (R.nilCheck rfl rfl) rfl rfl rfl ?_
  refine KD.op ((by first | exact R.fieldAddr rfl Try.underlying52 rfl rfl sz22 rfl | exact R.fieldAddrP rfl Try.underlying52 rfl rfl sz22 rfl)) rfl rfl rfl ?_
  refine KD.op (R.load rfl Try.underlying22 rfl rfl (cell_of bg rfl)) rfl rfl rfl ?_
  refine KD.op (R.lenO rfl Try.underlying22 rfl wl) rfl rfl rfl ?_
  refine KD.op (R.move rfl rfl) rfl rfl rfl ?_
  refine KD.op (R.nilCheck rfl rfl) rfl rfl rfl ?_
  refine KD.op ((by first | exact R.fieldAddr rfl Try.underlying58 rfl rfl sz3 rfl | exact R.fieldAddrP rfl Try.underlying58 rfl rfl sz3 rfl)) rfl rfl rfl ?_
  refine KD.op (R.load rfl Try.underlying3 rfl rfl (hcx 2 _ rfl)) rfl rfl rfl ?_
  refine KD.op ((R.gtr rfl rfl rfl).val (congrArg Value.bool (decide_eq_true (by omega)))) rfl rfl rfl ?_
  refine KD.op (R.assign rfl rfl) rfl rfl rfl ?_
  refine KD.nil ?_
  refine KQ.seq ?_
  refine KC.condT rfl ?_
  refine KC.seq ?_
  refine KC.quiet (by kernel_rfl) (by kernel_rfl) ?_
  refine KD.op (R.move rfl rfl) rfl rfl rfl ?_
  refine KD.op (R.nilCheck rfl rfl) rfl rfl rfl ?_
  refine KD.op ((by first | exact R.fieldAddr rfl Try.underlying52 rfl rfl sz22 rfl | exact R.fieldAddrP rfl Try.underlying52 rfl rfl sz22 rfl)) rfl rfl rfl ?_
  refine KD.op (R.load rfl Try.underlying22 rfl rfl (cell_of bg rfl)) rfl rfl rfl ?_
  refine KD.op (R.move rfl rfl) rfl rfl rfl ?_
  refine KD.op (R.nilCheck rfl rfl) rfl rfl rfl ?_
  refine KD.op ((by first | exact R.fieldAddr rfl Try.underlying52 rfl rfl sz22 rfl | exact R.fieldAddrP rfl Try.underlying52 rfl rfl sz22 rfl)) rfl rfl rfl ?_
  refine KD.op (R.load rfl Try.underlying22 rfl rfl (cell_of bg rfl)) rfl rfl rfl ?_
  refine KD.op (R.lenO rfl Try.underlying22 rfl wl) rfl rfl rfl ?_
  refine KD.op ((R.sub rfl rfl rfl (by dsimp only [InR]; omega)).val (congrArg (Value.int .i64) (show (s.all.length : Int) - 1 = ((s.all.length - 1 : Nat) : Int) by omega))) rfl rfl rfl ?_
  refine KD.op (R.indexO1 (j := s.all.length - 1) rfl Try.underlying22 sz5 rfl rfl wl rfl (by omega)) rfl rfl rfl ?_
  refine KD.op ((R.load rfl Try.underlying5 rfl rfl ((wl.int (s.all.length - 1) (by omega)).1)).val (congrArg (Value.int .u8) hlast)) rfl rfl rfl ?_
  refine KD.op (R.assign rfl rfl) rfl rfl rfl ?_
  refine KD.nil ?_
  refine KQ.seq ?_
  refine KC.seq ?_
  refine KC.text (clOf [(4, 1), (8, 1), (14, 2)]) (fun _ _ => True) (by kernel_rfl) (by kernel_rfl) (fun _ => trivial) ?_
  refine KP.op rfl (fun Hg hg => R.move rfl rfl) rfl rfl rfl ?_
  refine KP.op rfl (fun Hg hg => R.move rfl rfl) rfl rfl rfl ?_
  refine KP.op rfl (fun Hg hg => R.nilCheck rfl rfl) rfl rfl rfl ?_
  refine KP.op rfl (fun Hg hg => (by first | exact R.fieldAddr rfl Try.underlying52 rfl rfl sz22 rfl | exact R.fieldAddrP rfl Try.underlying52 rfl rfl sz22 rfl)) rfl rfl rfl ?_
  refine KP.now rfl (R.load rfl Try.underlying22 rfl rfl (cell_of bg rfl)) rfl rfl rfl ?_
  refine KP.op rfl (fun Hg hg => R.move rfl rfl) rfl rfl rfl ?_
  refine KP.op rfl (fun Hg hg => R.nilCheck rfl rfl) rfl rfl rfl ?_
  refine KP.op rfl (fun Hg hg => (by first | exact R.fieldAddr rfl Try.underlying52 rfl rfl sz22 rfl | exact R.fieldAddrP rfl Try.underlying52 rfl rfl sz22 rfl)) rfl rfl rfl ?_
  refine KP.now rfl (R.load rfl Try.underlying22 rfl rfl (cell_of bg rfl)) rfl rfl rfl ?_
  refine KP.op rfl (fun Hg hg => R.lenO rfl Try.underlying22 rfl wl) rfl rfl rfl ?_
  refine KP.op rfl (fun Hg hg => (R.sub rfl rfl rfl (by dsimp only [InR]; omega)).val (congrArg (Value.int .i64) (show (s.all.length : Int) - 1 = ((s.all.length - 1 : Nat) : Int) by omega))) rfl rfl rfl ?_
  refine KP.op rfl (fun Hg hg => R.sliceTo (j := s.all.length - 1) rfl Try.underlying22 sz5 rfl rfl wl rfl (by omega)) rfl rfl rfl ?_
  refine KP.op rfl (fun Hg hg => R.nilCheck rfl rfl) rfl rfl rfl ?_
  refine KP.op rfl (fun Hg hg => (by first | exact R.fieldAddr rfl Try.underlying52 rfl rfl sz22 rfl | exact R.fieldAddrP rfl Try.underlying52 rfl rfl sz22 rfl)) rfl rfl rfl ?_
  refine KP.opS rfl (S.store rfl sz22 rfl rfl (wl.to (j := s.all.length - 1) (by omega)).1.cells1 (wl.to (j := s.all.length - 1) (by omega)).1.one bg (by simp)) rfl rfl (fun _ _ _ _ _ => trivial) ?_
  rintro H1 ⟨u1, b1⟩
  have o0 := o0.trans (OldB.upd u1 (by omega))
  have zu1 := u1.1
  have wl := wl.upd u1 (by first | exact .inl rfl | exact .inr (by omega) | exact hgl2 | exact wl.lt.imp id (fun h => by omega))
  have st := (by first | exact st.upd u1 | exact st.updN u1 (by omega))
  have bg := b1
  refine KP.nil ?_
  refine KQ.seq ?_
  refine KC.seq ?_
  refine KC.region ?_
  refine KL.op (R.move rfl rfl) rfl rfl rfl ?_
  refine KL.op (R.assign rfl rfl) rfl rfl rfl ?_
  refine KL.op (R.assign rfl rfl) rfl rfl rfl ?_
  refine KL.nil ?_
  refine KQ.seq ?_
  refine KC.ret ?_
  refine KQ.retBlock ?_
  refine KQ.retThen ?_
  refine KQ.ofRet ?_
  refine KQ.fin2 Try.results12 rfl rfl ?_
  have h2 := h.setL (s' := s.cut (s.top.own.length - 1)) st (fun b hb => .inl (h.wl.ofTo (by omega) hb)) bg (by rw [hal]; exact (wl.to (j := s.all.length - 1) (by omega)).1) (DS.cut_frs h0 _) hm (by rw [hal, List.length_take]; omega) (by rw [DS.cut_len]; exact hfl)
  exact ⟨_, by rw [hp], by rw [hp]; exact h2.1, h2.2⟩

theorem Pop_k {B : Nat} {X : Nat → Prop} {H : Heap} {g : Nat} {vl vf : Value} {s : DS} (h : TS B X H g vl vf s) : Ct Try.prog 12 [.pointer (some ⟨g, 0, none⟩)] H (fun u H' => ∃ vl', u = .tuple #[.int .u8 s.pop.1, .bool s.pop.2.1] ∧ TS B X H' g vl' vf s.pop.2.2 ∧ StepO (MS g vl vf) (MS g vl' vf) H H') := by
  by_cases h0 : s.fr = []
  · exact Pop_no h h0
  · by_cases h1 : s.top.own = []
    · exact Pop_dead h h0 h1
    · exact Pop_yes h h0 h1

set_option maxRecDepth 100000 in
set_option maxHeartbeats 4000000 in
theorem Pop_nil {H : Heap} : Ct Try.prog 12 [.pointer none] H (fun u H' => u = .tuple #[.int .u8 0, .bool false] ∧ H = H') := by
  refine Ct.mk Try.func12 rfl Try.ntmps12 rfl ?_
  intro W0 hW0
  have o0 : Old H H := Old.refl H
  refine KC.seq ?_
  refine KC.region ?_
  refine KL.op (R.assign rfl rfl) rfl rfl rfl ?_
  refine KL.op (R.assign rfl rfl) rfl rfl rfl ?_
  refine KL.nil ?_
  refine KQ.seq ?_
  refine KC.seq ?_
  refine KC.region ?_
  refine KL.op (R.move rfl rfl) rfl rfl rfl ?_
  refine KL.call rfl rfl rfl rfl Try.call28 rfl rfl rfl (top_nil) ?_
  rintro _ _ ⟨rfl, rfl⟩
  refine KL.op (R.assign rfl rfl) rfl rfl rfl ?_
  refine KL.nil ?_
  refine KQ.seq ?_
  refine KC.seq ?_
  refine KC.block ?_
  refine KC.seq ?_
  refine KC.region ?_
  refine KL.op (R.move rfl rfl) rfl rfl rfl ?_
  refine KL.op (R.eqlP rfl Try.underlying55 rfl rfl) rfl rfl rfl ?_
  refine KL.op (R.assign rfl rfl) rfl rfl rfl ?_
  refine KL.nil ?_
  refine KQ.seq ?_
  refine KC.condT rfl ?_
  refine KC.seq ?_
  refine KC.region ?_
  refine KL.op (R.assign rfl rfl) rfl rfl rfl ?_
  refine KL.op (R.assign rfl rfl) rfl rfl rfl ?_
  refine KL.nil ?_
  refine KQ.seq ?_
  refine KC.ret ?_
  refine KQ.retBlock ?_
  refine KQ.retThen ?_
  refine KQ.ofRet ?_
  refine KQ.fin2 Try.results12 rfl rfl ?_
  exact ⟨rfl, rfl⟩

set_option maxRecDepth 100000 in
set_option maxHeartbeats 4000000 in
theorem Dead_no {B : Nat} {X : Nat → Prop} {H : Heap} {g : Nat} {vl vf : Value} {s : DS} (h : TS B X H g vl vf s) (h0 : s.fr = []) : Ct Try.prog 20 [.pointer (some ⟨g, 0, none⟩)] H (fun _ H' => ∃ vl', TS B X H' g vl' vf s.kill ∧ StepO (MS g vl vf) (MS g vl' vf) H H') := by
  refine Ct.mk Try.func20 rfl Try.ntmps20 rfl ?_
  intro W0 hW0
  have o0 : Old H H := Old.refl H
  refine KC.seq ?_
  refine KC.region ?_
  refine KL.op (R.move rfl rfl) rfl rfl rfl ?_
  refine KL.call rfl rfl rfl rfl Try.call28 rfl rfl rfl (top_no h h0) ?_
  rintro _ _ ⟨rfl, rfl⟩
  refine KL.op (R.assign rfl rfl) rfl rfl rfl ?_
  refine KL.nil ?_
  refine KQ.seq ?_
  refine KC.seq ?_
  refine KC.region ?_
  refine KL.op (R.move rfl rfl) rfl rfl rfl ?_
  refine KL.op (R.neqP rfl Try.underlying55 rfl rfl) rfl rfl rfl ?_
  refine KL.nil ?_
  refine KQ.seq ?_
  refine KC.condF rfl ?_
  refine KC.skip ?_
  refine KQ.fin0 Try.results20 ?_
  exact ⟨vl, by rw [DS.kill_nil h0]; exact h, StepO.refl _ _⟩

set_option maxRecDepth 100000 in
set_option maxHeartbeats 4000000 in
theorem Dead_nil {H : Heap} : Ct Try.prog 20 [.pointer none] H (fun _ H' => H = H') := by
  refine Ct.mk Try.func20 rfl Try.ntmps20 rfl ?_
  intro W0 hW0
  have o0 : Old H H := Old.refl H
  refine KC.seq ?_
  refine KC.region ?_
  refine KL.op (R.move rfl rfl) rfl rfl rfl ?_
  refine KL.call rfl rfl rfl rfl Try.call28 rfl rfl rfl (top_nil) ?_
  rintro _ _ ⟨rfl, rfl⟩
  refine KL.op (R.assign rfl rfl) rfl rfl rfl ?_
  refine KL.nil ?_
  refine KQ.seq ?_
  refine KC.seq ?_
  refine KC.region ?_
  refine KL.op (R.move rfl rfl) rfl rfl rfl ?_
  refine KL.op (R.neqP rfl Try.underlying55 rfl rfl) rfl rfl rfl ?_
  refine KL.nil ?_
  refine KQ.seq ?_
  refine KC.condF rfl ?_
  refine KC.skip ?_
  refine KQ.fin0 Try.results20 ?_
  exact rfl

set_option maxRecDepth 100000 in
set_option maxHeartbeats 4000000 in
theorem Dead_yes {B : Nat} {X : Nat → Prop} {H : Heap} {g : Nat} {vl vf : Value} {s : DS} (h : TS B X H g vl vf s) (h0 : s.fr ≠ []) : Ct Try.prog 20 [.pointer (some ⟨g, 0, none⟩)] H (fun _ H' => ∃ vl', TS B X H' g vl' vf s.kill ∧ StepO (MS g vl vf) (MS g vl' vf) H H') := by
  refine Ct.mk Try.func20 rfl Try.ntmps20 rfl ?_
  intro W0 hW0
  have o0 : OldB 0 H H := OldB.refl _ H
  obtain ⟨bg, hB, wl, wf, ngl, ngf, nlf, hX, hm, ha, hfl⟩ := id h
  have zg := blk_lt bg
  have hfn := frs_len s.fr s.loose.length
  have hn := List.length_pos_iff.2 h0
  obtain ⟨cs, hcl, hcx, hfp⟩ := wf.fpAt (by decide) (s.fr.length - 1) (by omega)
  rw [DS.frs_top h0] at hfp
  obtain ⟨lv, ev, rfl, hlab, hend, hlb, hle⟩ := hfp H (KeepP.refl _ _)
  dsimp only at hcx hlab hend hlb hle
  have hall := congrArg List.length (DS.all_eq h0)
  rw [List.length_append] at hall
  have hal : s.kill.all = s.all.take s.base.length := by
    unfold DS.kill
    rw [DS.all_put h0, DS.all_eq h0, List.take_left' rfl, List.append_nil]
  have st : StepO (MS g vl vf) (MS g vl vf) H H := StepO.refl _ _
  have hgg : MS g vl vf g := .inl rfl
  have hvfn : vf ≠ .slice none 0 0 := fun e => by
    subst e
    obtain ⟨_, _, he, _⟩ := wf.val
    injection he with _ h2 _
    omega
  have hgv : MS g vl vf (vblock vf) := .inr (.inr ⟨hvfn, rfl⟩)
  have hgf : vblock vf ≠ g := ngf _ ⟨hvfn, rfl⟩
  have hgl2 : vl = .slice none 0 0 ∨ vblock vl ≠ g := Classical.byCases .inl (fun e => .inr (fun e2 => ngl _ ⟨e, rfl⟩ e2))
  refine KC.seq ?_
  refine KC.region ?_
  refine KL.op (R.move rfl rfl) rfl rfl rfl ?_
  refine KL.call rfl rfl rfl rfl Try.call28 rfl rfl rfl (top_yes h h0) ?_
  rintro _ _ ⟨rfl, rfl⟩
  refine KL.op (R.assign rfl rfl) rfl rfl rfl ?_
  refine KL.nil ?_
  refine KQ.seq ?_
  refine KC.seq ?_
  refine KC.region ?_
  refine KL.op (R.move rfl rfl) rfl rfl rfl ?_
  refine KL.op (R.neqP rfl Try.underlying55 rfl rfl) rfl rfl rfl ?_
  refine KL.nil ?_
  refine KQ.seq ?_
  refine KC.condT rfl ?_
  refine KC.seq ?_
  refine KC.text (clOf [(4, 1), (8, 1), (12, 2)]) (fun _ _ => True) (by kernel_rfl) (by kernel_rfl) (fun _ => trivial) ?_
  refine KP.op rfl (fun Hg hg => R.move rfl rfl) rfl rfl rfl ?_
  refine KP.op rfl (fun Hg hg => R.move rfl rfl) rfl rfl rfl ?_
  refine KP.op rfl (fun Hg hg => R.nilCheck rfl rfl) rfl rfl rfl ?_
  refine KP.op rfl (fun Hg hg => (by first | exact R.fieldAddr rfl Try.underlying52 rfl rfl sz22 rfl | exact R.fieldAddrP rfl Try.underlying52 rfl rfl sz22 rfl)) rfl rfl rfl ?_
  refine KP.now rfl (R.load rfl Try.underlying22 rfl rfl (cell_of bg rfl)) rfl rfl rfl ?_
  refine KP.op rfl (fun Hg hg => R.move rfl rfl) rfl rfl rfl ?_
  refine KP.op rfl (fun Hg hg => R.nilCheck rfl rfl) rfl rfl rfl ?_
  refine KP.op rfl (fun Hg hg => (by first | exact R.fieldAddr rfl Try.underlying58 rfl rfl sz3 rfl | exact R.fieldAddrP rfl Try.underlying58 rfl rfl sz3 rfl)) rfl rfl rfl ?_
  refine KP.now rfl (R.load rfl Try.underlying3 rfl rfl (hcx 2 _ rfl)) rfl rfl rfl ?_
  refine KP.op rfl (fun Hg hg => R.sliceTo (j := s.base.length) rfl Try.underlying22 sz5 rfl rfl wl rfl (by omega)) rfl rfl rfl ?_
  refine KP.op rfl (fun Hg hg => R.nilCheck rfl rfl) rfl rfl rfl ?_
  refine KP.op rfl (fun Hg hg => (by first | exact R.fieldAddr rfl Try.underlying52 rfl rfl sz22 rfl | exact R.fieldAddrP rfl Try.underlying52 rfl rfl sz22 rfl)) rfl rfl rfl ?_
  refine KP.opS rfl (S.store rfl sz22 rfl rfl (wl.to (j := s.base.length) (by omega)).1.cells1 (wl.to (j := s.base.length) (by omega)).1.one bg (by simp)) rfl rfl (fun _ _ _ _ _ => trivial) ?_
  rintro H1 ⟨u1, b1⟩
  have o0 := o0.trans (OldB.upd u1 (by omega))
  have zu1 := u1.1
  have wl := wl.upd u1 (by first | exact .inl rfl | exact .inr (by omega) | exact hgl2 | exact hlf | exact wl.lt.imp id (fun h => by omega))
  have wf := wf.upd u1 (by first | exact .inl rfl | exact .inr (by omega) | exact hgl2 | exact hlf | exact wf.lt.imp id (fun h => by omega))
  have st := (by first | exact st.upd u1 | exact st.updN u1 (by omega))
  have bg := b1
  obtain ⟨wl, hvb⟩ := wl.to (j := s.base.length) (by omega)
  have hlf : toV vl s.base.length = .slice none 0 0 ∨ vblock (toV vl s.base.length) ≠ vblock vf := Classical.byCases .inl (fun e => .inr (fun e2 => nlf _ (h.wl.ofTo (j := s.base.length) (by omega) ⟨e, rfl⟩) ⟨hvfn, e2⟩))
  refine KP.nil ?_
  refine KQ.seq ?_
  refine KC.region ?_
  refine KL.op (R.move rfl rfl) rfl rfl rfl ?_
  refine KL.op (R.nilCheck rfl rfl) rfl rfl rfl ?_
  refine KL.op ((by first | exact R.fieldAddr rfl Try.underlying58 rfl rfl sz4 rfl | exact R.fieldAddrP rfl Try.underlying58 rfl rfl sz4 rfl)) rfl rfl rfl ?_
  refine KL.opS (S.ownC (j := s.fr.length - 1) (c := 3) rfl sz4 rfl rfl rfl rfl wf (by omega) (by decide) (fun cs hc hf => fr_dead cs hc (by rw [DS.frs_top h0] at hf; exact hf))) rfl rfl ?_
  rintro H2 ⟨u2, w2⟩
  have o0 := o0.trans (OldB.upd u2 (by omega))
  have zu2 := u2.1
  have bg := ((u2).2 _ (by omega)).trans bg
  have wl := wl.upd u2 (by first | exact .inl rfl | exact .inr (by omega) | exact hgl2 | exact hlf | exact wl.lt.imp id (fun h => by omega))
  have st := (by first | exact st.upd u2 | exact st.updN u2 (by omega))
  have wf := w2
  refine KL.nil ?_
  refine KQ.fin0 Try.results20 ?_
  have hof : ∀ b, Of (toV vl s.base.length) b → Of vl b := fun b hb => h.wl.ofTo (by omega) hb
  exact ⟨_, h.set st (fun b hb => .inl (hof b hb)) (fun b hb => .inl hb) (fun b hb => nlf b (hof b hb)) bg (by rw [hal]; exact wl) (by unfold DS.kill; show Own _ _ _ _ _ _ _ (frs s.loose.length (s.put _).fr); rw [DS.frs_put h0 _ (by rfl) (by rfl)]; exact wf) st (Nat.le_refl _) (fun b hb => .inl hb) (fun b hb => .inl (hof b hb)) hm (by rw [hal, List.length_take]; omega) (by unfold DS.kill; rw [DS.put_len]; exact hfl)⟩

theorem Dead_k {B : Nat} {X : Nat → Prop} {H : Heap} {g : Nat} {vl vf : Value} {s : DS} (h : TS B X H g vl vf s) : Ct Try.prog 20 [.pointer (some ⟨g, 0, none⟩)] H (fun _ H' => ∃ vl', TS B X H' g vl' vf s.kill ∧ StepO (MS g vl vf) (MS g vl' vf) H H') := by
  by_cases h0 : s.fr = []
  · exact Dead_no h h0
  · exact Dead_yes h h0

set_option maxRecDepth 100000 in
set_option maxHeartbeats 4000000 in
theorem Open_nil {H : Heap} (v1 v2 : Value) : Ct Try.prog 16 [.pointer none, v1, v2] H (fun _ H' => H = H') := by
  refine Ct.mk Try.func16 rfl Try.ntmps16 rfl ?_
  intro W0 hW0
  have o0 : Old H H := Old.refl H
  refine KC.seq ?_
  refine KC.region ?_
  refine KL.op (R.move rfl rfl) rfl rfl rfl ?_
  refine KL.op (R.neqP rfl Try.underlying26 rfl rfl) rfl rfl rfl ?_
  refine KL.nil ?_
  refine KQ.seq ?_
  refine KC.condF rfl ?_
  refine KC.skip ?_
  refine KQ.fin0 Try.results16 ?_
  exact rfl

set_option maxRecDepth 100000 in
set_option maxHeartbeats 4000000 in
theorem Open_k {B : Nat} {X : Nat → Prop} {H : Heap} {g : Nat} {vl vf : Value} {s : DS} (h : TS B X H g vl vf s) {va vb : Value} {a b : List Int} (hs : Sl 1 (EInt .u8) H va a) (ht : Sl 1 (EInt .u8) H vb b) (hla : a.length ≤ 1000000) (hlb : b.length ≤ 1000000) (hfr : s.fr.length < 1000000) : Ct Try.prog 16 [.pointer (some ⟨g, 0, none⟩), va, vb] H (fun _ H' => ∃ vf', TS B X H' g vl vf' (s.open a b) ∧ StepO (MS g vl vf) (MS g vl vf') H H') := by
  refine Ct.mk Try.func16 rfl Try.ntmps16 rfl ?_
  intro W0 hW0
  have o0 : OldB 0 H H := OldB.refl _ H
  obtain ⟨bg, hB, wl, wf, ngl, ngf, nlf, hX, hm, ha, hfl⟩ := id h
  have zg := blk_lt bg
  have st : StepO (MS g (.slice none 0 0) vf) (MS g (.slice none 0 0) vf) H H := StepO.refl _ _
  have hgg : MS g (.slice none 0 0) vf g := .inl rfl
  have hvf : vf = .slice none 0 0 ∨ MS g (.slice none 0 0) vf (vblock vf) := Classical.byCases .inl (fun e => .inr (.inr (.inr ⟨e, rfl⟩)))
  have hgf : vf = .slice none 0 0 ∨ g ≠ vblock vf := Classical.byCases .inl (fun e => .inr (fun e2 => ngf _ ⟨e, rfl⟩ e2.symm))
  have hgf2 : vf = .slice none 0 0 ∨ vblock vf ≠ g := hgf.imp id Ne.symm
  have hfn := frs_len s.fr s.loose.length
  refine KC.seq ?_
  refine KC.region ?_
  refine KL.op (R.move rfl rfl) rfl rfl rfl ?_
  refine KL.op (R.neqP rfl Try.underlying26 rfl rfl) rfl rfl rfl ?_
  refine KL.nil ?_
  refine KQ.seq ?_
  refine KC.condT rfl ?_
  refine KC.text (clOf [(6, 2), (8, 2), (15, 2), (16, 2), (19, 2)]) (fun i Hc => (i = 4 ∨ i = 12) → Hc[g]? = some (.cells [vl, vf, .int .i64 s.most].toArray 52 (0, 0))) (by kernel_rfl) (by kernel_rfl) (fun _ _ => bg) ?_
  refine KP.op rfl (fun Hg hg => R.move rfl rfl) rfl rfl rfl ?_
  refine KP.op rfl (fun Hg hg => R.move rfl rfl) rfl rfl rfl ?_
  refine KP.op rfl (fun Hg hg => R.nilCheck rfl rfl) rfl rfl rfl ?_
  refine KP.op rfl (fun Hg hg => (by first | exact R.fieldAddr rfl Try.underlying52 rfl rfl sz50 rfl | exact R.fieldAddrP rfl Try.underlying52 rfl rfl sz50 rfl)) rfl rfl rfl ?_
  refine KP.op rfl (fun Hg hg => R.load rfl Try.underlying50 rfl rfl (cell_of (hg (by omega)) rfl)) rfl rfl rfl ?_
  refine KP.op rfl (fun Hg hg => R.move rfl rfl) rfl rfl rfl ?_
  refine KP.call rfl rfl rfl rfl rfl Try.call31 rfl rfl rfl (Clone_k hs hla) (fun _ _ hR j _ _ _ => hR.2.blk bg) ?_
  rintro v1 H1 ⟨wc1, ox⟩
  have zc_H1 := (ox).1
  have o0 := o0.trans ((ox).b (by omega))
  have bg := (ox).blk bg
  have wf := wf.old ox
  have st := st.old ox
  refine KP.op rfl (fun Hg hg => R.move rfl rfl) rfl rfl rfl ?_
  refine KP.call rfl rfl rfl rfl rfl Try.call31 rfl rfl rfl (Clone_k (ht.old ox) hlb) (fun _ _ hR j _ _ _ => hR.2.blk bg) ?_
  rintro v2 H2 ⟨wc2, ox⟩
  have zc_H2 := (ox).1
  have o0 := o0.trans ((ox).b (by omega))
  have bg := (ox).blk bg
  have wf := wf.old ox
  have st := st.old ox
  have wc1 := wc1.old ox
  have st2 : StepO (MS g (.slice none 0 0) vf) (MS g (.slice none 0 0) vf) H2 H2 := StepO.refl _ _
  have zH2 := st.1
  have wf := wf.fp (M' := MX (MS g vl vf) X) ((st.wide (fun b hb => hb.imp id (fun h => h.imp (fun h => absurd h (Of.nil b)) id)) : StepO (MS g vl vf) _ H H2).to (O2 := MS g vl vf) (fun b hb => .inl hb)).mx1
  have wc1X := fp_own (M := MX (MS g vl vf) X) wc1 (fun b hb hm => by
    have h1 := (wc1.ofLt hb).1
    rcases hm with hm | hm
    · have := (h.low b hm).2; omega
    · have := (hX b hm).1; omega)
  have wc2X := fp_own (M := MX (MS g vl vf) X) wc2 (fun b hb hm => by
    have h1 := (wc2.ofLt hb).1
    rcases hm with hm | hm
    · have := (h.low b hm).2; omega
    · have := (hX b hm).1; omega)
  refine KP.op rfl (fun Hg hg => R.move rfl rfl) rfl rfl rfl ?_
  refine KP.op rfl (fun Hg hg => R.nilCheck rfl rfl) rfl rfl rfl ?_
  refine KP.op rfl (fun Hg hg => (by first | exact R.fieldAddr rfl Try.underlying52 rfl rfl sz22 rfl | exact R.fieldAddrP rfl Try.underlying52 rfl rfl sz22 rfl)) rfl rfl rfl ?_
  refine KP.op rfl (fun Hg hg => R.load rfl Try.underlying22 rfl rfl (cell_of (hg (by omega)) rfl)) rfl rfl rfl ?_
  refine KP.op rfl (fun Hg hg => R.lenO rfl Try.underlying22 rfl wl) rfl rfl rfl ?_
  refine KP.op rfl (fun Hg hg => R.buildL rfl Try.underlying58 zr58 [(0, 1), (1, 1), (2, 1), (3, 1)] (fun w => by kernel_rfl) rfl ⟨⟨_, rfl, rfl⟩, ⟨_, rfl, rfl⟩, ⟨_, rfl, rfl⟩, trivial⟩ rfl rfl ⟨⟨_, rfl, wc1.cells1⟩, ⟨_, rfl, wc2.cells1⟩, ⟨_, rfl, rfl⟩, trivial⟩ rfl) rfl rfl rfl ?_
  refine KP.opM rfl (M.lit rfl Try.underlying50 zs58 (by decide) rfl rfl rfl) rfl rfl rfl (fun _ _ hR j _ _ _ => hR.2.1.blk bg) ?_
  rintro _ H3 ⟨rfl, n3⟩
  have z3 := n3.2.1
  have o0 := o0.trans ((n3.1).b (by omega))
  have bg := (n3.1).blk bg
  have wf := wf.old n3.1
  have st := st.old n3.1
  have st2 := st2.old n3.1
  have b3 := n3.2.2
  have se : Sl 4 (FP EFr _ (MX (MS g vl vf) X)) H3 _ [(⟨a, b, s.all.length, false⟩ : TF)] := Sl.lit1N n3 rfl (by decide) (fun Hq kq => ⟨v1, v2, rfl, wc1X Hq kq, wc2X Hq kq, hla, hlb⟩)
  have st2a := st2.1
  have lt4 := wf.lt
  refine KP.opM rfl (M.appendN rfl Try.underlying50 inf58 rfl (by decide) rfl rfl wf (by exact se) (fun _ _ h _ => h) (by omega) (by simp only [List.length_singleton]; omega) (by unfold maxLen; simp only [List.length_singleton]; omega)) rfl rfl rfl (fun _ _ hR j _ _ _ => (hR.2.1.2 _ (blk_lt bg) hgf).trans bg) ?_
  rintro vn H4 ⟨w4, g4, nx4⟩
  try dsimp only at g4 nx4
  have ob4 := g4.oldB wf (by omega)
  have o0 := o0.trans (ob4.mono (by omega))
  have z4 := ob4.1
  have bg := (g4.2 _ (blk_lt bg) (by first | exact .inr (by omega) | exact .inl rfl | exact hgf | exact hgf2 | exact hgn | exact lt4.imp id (fun h => by omega))).trans bg
  have st := (by first | exact st.grownN g4 (lt4.imp id (fun h => by omega)) | exact st.grown hvf g4)
  have st2 := (by first | exact st2.grownN g4 (lt4.imp id (fun h => by omega)) | exact st2.grown hvf g4)
  have wf := w4
  have hgn : vn = .slice none 0 0 ∨ vblock vn ≠ g := Classical.byCases .inl (fun e => .inr (fun e2 => (nx4.of ⟨e, rfl⟩).elim (fun hb => ngf _ hb e2) (fun hb => by omega)))
  have nx := nx4.le (B := _) st2a
  refine KP.op rfl (fun Hg hg => R.nilCheck rfl rfl) rfl rfl rfl ?_
  refine KP.op rfl (fun Hg hg => (by first | exact R.fieldAddr rfl Try.underlying52 rfl rfl sz50 rfl | exact R.fieldAddrP rfl Try.underlying52 rfl rfl sz50 rfl)) rfl rfl rfl ?_
  refine KP.opS rfl (S.store rfl sz50 rfl rfl wf.cells1 wf.one bg (by simp)) rfl rfl (fun _ h j hj1 hj2 hj => by rcases hj with rfl | rfl <;> exact absurd (by decide +kernel) hj2) ?_
  rintro H5 ⟨u5, b5⟩
  have o0 := o0.trans (OldB.upd u5 (by omega))
  have zu5 := u5.1
  have wf := wf.upd u5 (by first | exact .inl rfl | exact .inr (by omega) | exact hgf | exact hgf2 | exact hgn | exact wf.lt.imp id (fun h => by omega))
  have st := (by first | exact st.upd u5 | exact st.updN u5 (by omega))
  have st2 := (by first | exact st2.upd u5 | exact st2.updN u5 (by omega))
  have bg := b5
  refine KP.nil ?_
  refine KQ.fin0 Try.results16 ?_
  exact ⟨vn, h.setF st zH2 st2 nx bg (by rw [DS.open_frs]; exact wf) (DS.open_all s a b) hm (by rw [DS.open_all]; exact ha) (by show (s.fr ++ _).length ≤ _; rw [List.length_append]; simp only [List.length_singleton]; omega)⟩

end Go.Proofs.Ytglopfbdnpbgeaa
