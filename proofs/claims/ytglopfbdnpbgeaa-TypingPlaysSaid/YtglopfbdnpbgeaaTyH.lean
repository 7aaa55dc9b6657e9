/- The document's Pop, Kill, Label, Fits. No condition. -/
import Derived.Test.YtglopfbdnpbgeaaTyG
namespace Go.Proofs.Ytglopfbdnpbgeaa
open Go Go.RowKit
set_option linter.unusedVariables false
set_option linter.unusedSimpArgs false
set_option linter.unnecessarySimpa false

theorem DS.pop_no {s : DS} (h : s.fr = []) : s.pop = (0, false, s) := by unfold DS.pop; rw [if_pos h]
theorem DS.pop_dead {s : DS} (h0 : s.fr ≠ []) (h1 : s.top.own = []) : s.pop = (0, s.top.dead, s) := by unfold DS.pop; rw [if_neg h0, if_pos h1]
theorem DS.pop_yes {s : DS} (h0 : s.fr ≠ []) (h1 : s.top.own ≠ []) : s.pop = (s.top.own.getD (s.top.own.length - 1) default, true, s.cut (s.top.own.length - 1)) := by unfold DS.pop; rw [if_neg h0, if_neg h1]
theorem set_last {α : Type} (l : List α) (n : Nat) (a b : α) : (l.set n a).set n b = l.set n b := by
  apply List.ext_getElem?
  intro k
  rw [List.getElem?_set, List.getElem?_set, List.getElem?_set, List.length_set]
  split <;> rfl
theorem getD_setL {α : Type} {l : List α} {n : Nat} {a d : α} (h : n < l.length) : (l.set n a).getD n d = a := by
  rw [List.getD_eq_getElem?_getD, List.getElem?_set_self h]; rfl

set_option maxRecDepth 100000 in
set_option maxHeartbeats 4000000 in
theorem RPop_no {B : Nat} {X : Nat → Prop} {H : Heap} {g : Nat} {vL : Value} {s : DS} (h : RS B X H g vL s) (h0 : s.fr = []) : Ct Try.prog 13 [.pointer (some ⟨g, 0, none⟩)] H (fun u H' => u = .tuple #[.int .u8 s.pop.1, .bool s.pop.2.1] ∧ RS B X H' g vL s.pop.2.2 ∧ StepO (MS g vL (.slice none 0 0)) (MS g vL (.slice none 0 0)) H H') := by
  refine Ct.mk Try.func13 rfl Try.ntmps13 rfl ?_
  intro W0 hW0
  have o0 : Old H H := Old.refl H
  obtain ⟨bg, hB, wL, ng, hX, hm, ha, hfl⟩ := id h
  have zg := blk_lt bg
  have hp := DS.pop_no h0
  refine KC.seq ?_
  refine KC.region ?_
  refine KL.op (R.assign rfl rfl) rfl rfl rfl ?_
  refine KL.op (R.assign rfl rfl) rfl rfl rfl ?_
  refine KL.nil ?_
  refine KQ.seq ?_
  refine KC.seq ?_
  refine KC.region ?_
  refine KL.op (R.move rfl rfl) rfl rfl rfl ?_
  refine KL.op (R.nilCheck rfl rfl) rfl rfl rfl ?_
  refine KL.op ((by first | exact R.fieldAddr rfl Try.underlying46 rfl rfl sz44 rfl | exact R.fieldAddrP rfl Try.underlying46 rfl rfl sz44 rfl)) rfl rfl rfl ?_
  refine KL.op (R.load rfl Try.underlying44 rfl rfl (cell_of bg rfl)) rfl rfl rfl ?_
  refine KL.op (R.lenO rfl Try.underlying44 rfl wL) rfl rfl rfl ?_
  refine KL.op (R.assign rfl rfl) rfl rfl rfl ?_
  refine KL.nil ?_
  refine KQ.seq ?_
  refine KC.seq ?_
  refine KC.seq ?_
  refine KC.region ?_
  refine KL.op (R.move rfl rfl) rfl rfl rfl ?_
  refine KL.op ((R.eql rfl rfl rfl).val (congrArg Value.bool (decide_eq_true (by rw [h0]; rfl)))) rfl rfl rfl ?_
  refine KL.nil ?_
  refine KQ.seq ?_
  refine KC.condT rfl ?_
  refine KC.seq ?_
  refine KC.region ?_
  refine KL.op (R.assign rfl rfl) rfl rfl rfl ?_
  refine KL.op (R.assign rfl rfl) rfl rfl rfl ?_
  refine KL.nil ?_
  refine KQ.seq ?_
  refine KC.ret ?_
  refine KQ.retThen ?_
  refine KQ.ofRet ?_
  refine KQ.fin2 Try.results13 rfl rfl ?_
  exact ⟨by rw [hp], by rw [hp]; exact h, StepO.refl _ _⟩

set_option maxRecDepth 100000 in
set_option maxHeartbeats 4000000 in
theorem RPop_dead {B : Nat} {X : Nat → Prop} {H : Heap} {g : Nat} {vL : Value} {s : DS} (h : RS B X H g vL s) (h0 : s.fr ≠ []) (h1 : s.top.own = []) : Ct Try.prog 13 [.pointer (some ⟨g, 0, none⟩)] H (fun u H' => u = .tuple #[.int .u8 s.pop.1, .bool s.pop.2.1] ∧ RS B X H' g vL s.pop.2.2 ∧ StepO (MS g vL (.slice none 0 0)) (MS g vL (.slice none 0 0)) H H') := by
  refine Ct.mk Try.func13 rfl Try.ntmps13 rfl ?_
  intro W0 hW0
  have o0 : Old H H := Old.refl H
  obtain ⟨bg, hB, wL, ng, hX, hm, ha, hfl⟩ := id h
  have zg := blk_lt bg
  have hn := List.length_pos_iff.2 h0
  obtain ⟨cs, hcl, hcx, hfp⟩ := wL.fpAt (by decide) (s.fr.length - 1) (by omega)
  have hfp : FP EDF H (MX (MS g vL (.slice none 0 0)) X) H cs s.top := hfp
  obtain ⟨lv, ev, ov, rfl, hlab, hend, hown, hlb, hle⟩ := hfp H (KeepP.refl _ _)
  obtain ⟨fpl, fpe, fpo⟩ := fp_old hfp
  have hall := congrArg List.length (DS.all_eq h0)
  rw [List.length_append] at hall
  have hvLn : vL ≠ .slice none 0 0 := fun e => by
    subst e
    obtain ⟨_, _, he, _⟩ := wL.val
    injection he with _ h2 _
    omega
  have hgv : MS g vL (.slice none 0 0) (vblock vL) := .inr (.inl ⟨hvLn, rfl⟩)
  have hgf : vblock vL ≠ g := ng _ ⟨hvLn, rfl⟩
  have hvs : vblock vL < H.size := (wL.lt.resolve_left hvLn).2
  have hp := DS.pop_dead h0 h1
  refine KC.seq ?_
  refine KC.region ?_
  refine KL.op (R.assign rfl rfl) rfl rfl rfl ?_
  refine KL.op (R.assign rfl rfl) rfl rfl rfl ?_
  refine KL.nil ?_
  refine KQ.seq ?_
  refine KC.seq ?_
  refine KC.region ?_
  refine KL.op (R.move rfl rfl) rfl rfl rfl ?_
  refine KL.op (R.nilCheck rfl rfl) rfl rfl rfl ?_
  refine KL.op ((by first | exact R.fieldAddr rfl Try.underlying46 rfl rfl sz44 rfl | exact R.fieldAddrP rfl Try.underlying46 rfl rfl sz44 rfl)) rfl rfl rfl ?_
  refine KL.op (R.load rfl Try.underlying44 rfl rfl (cell_of bg rfl)) rfl rfl rfl ?_
  refine KL.op (R.lenO rfl Try.underlying44 rfl wL) rfl rfl rfl ?_
  refine KL.op (R.assign rfl rfl) rfl rfl rfl ?_
  refine KL.nil ?_
  refine KQ.seq ?_
  refine KC.seq ?_
  refine KC.seq ?_
  refine KC.region ?_
  refine KL.op (R.move rfl rfl) rfl rfl rfl ?_
  refine KL.op ((R.eql rfl rfl rfl).val (congrArg Value.bool (decide_eq_false (by omega)))) rfl rfl rfl ?_
  refine KL.nil ?_
  refine KQ.seq ?_
  refine KC.condF rfl ?_
  refine KC.skip ?_
  refine KQ.seq ?_
  refine KC.seq ?_
  refine KC.region ?_
  refine KL.op (R.move rfl rfl) rfl rfl rfl ?_
  refine KL.op (R.nilCheck rfl rfl) rfl rfl rfl ?_
  refine KL.op ((by first | exact R.fieldAddr rfl Try.underlying46 rfl rfl sz44 rfl | exact R.fieldAddrP rfl Try.underlying46 rfl rfl sz44 rfl)) rfl rfl rfl ?_
  refine KL.op (R.load rfl Try.underlying44 rfl rfl (cell_of bg rfl)) rfl rfl rfl ?_
  refine KL.op (R.move rfl rfl) rfl rfl rfl ?_
  refine KL.op ((R.sub rfl rfl rfl (by dsimp only [InR]; omega)).val (congrArg (Value.int .i64) (show (s.fr.length : Int) - 1 = ((s.fr.length - 1 : Nat) : Int) by omega))) rfl rfl rfl ?_
  refine KL.op (R.indexON (j := s.fr.length - 1) rfl Try.underlying44 sz54 rfl rfl wL (by omega) (by omega)) rfl rfl rfl ?_
  refine KL.op (R.assign rfl rfl) rfl rfl rfl ?_
  refine KL.nil ?_
  refine KQ.seq ?_
  refine KC.seq ?_
  refine KC.region ?_
  refine KL.op (R.move rfl rfl) rfl rfl rfl ?_
  refine KL.op (R.nilCheck rfl rfl) rfl rfl rfl ?_
  refine KL.op ((by first | exact R.fieldAddr rfl Try.underlying54 rfl rfl sz22 rfl | exact R.fieldAddrP rfl Try.underlying54 rfl rfl sz22 rfl)) rfl rfl rfl ?_
  refine KL.op (R.load rfl Try.underlying22 rfl rfl (hcx 2 _ rfl)) rfl rfl rfl ?_
  refine KL.op (R.lenS rfl Try.underlying22 rfl hown) rfl rfl rfl ?_
  refine KL.op (R.assign rfl rfl) rfl rfl rfl ?_
  refine KL.nil ?_
  refine KQ.seq ?_
  refine KC.seq ?_
  refine KC.seq ?_
  refine KC.region ?_
  refine KL.op (R.move rfl rfl) rfl rfl rfl ?_
  refine KL.op ((R.eql rfl rfl rfl).val (congrArg Value.bool (decide_eq_true (by rw [h1]; rfl)))) rfl rfl rfl ?_
  refine KL.nil ?_
  refine KQ.seq ?_
  refine KC.condT rfl ?_
  refine KC.seq ?_
  refine KC.quiet (by kernel_rfl) (by kernel_rfl) ?_
  refine KD.op (R.move rfl rfl) rfl rfl rfl ?_
  refine KD.op (R.nilCheck rfl rfl) rfl rfl rfl ?_
  refine KD.op ((by first | exact R.fieldAddr rfl Try.underlying54 rfl rfl sz4 rfl | exact R.fieldAddrP rfl Try.underlying54 rfl rfl sz4 rfl)) rfl rfl rfl ?_
  refine KD.op (R.load rfl Try.underlying4 rfl rfl (hcx 3 _ rfl)) rfl rfl rfl ?_
  refine KD.op (R.assign rfl rfl) rfl rfl rfl ?_
  refine KD.op (R.assign rfl rfl) rfl rfl rfl ?_
  refine KD.nil ?_
  refine KQ.seq ?_
  refine KC.ret ?_
  refine KQ.retThen ?_
  refine KQ.ofRet ?_
  refine KQ.fin2 Try.results13 rfl rfl ?_
  exact ⟨by rw [hp], by rw [hp]; exact h, StepO.refl _ _⟩

set_option maxRecDepth 100000 in
set_option maxHeartbeats 4000000 in
theorem RPop_yes {B : Nat} {X : Nat → Prop} {H : Heap} {g : Nat} {vL : Value} {s : DS} (h : RS B X H g vL s) (h0 : s.fr ≠ []) (h1 : s.top.own ≠ []) : Ct Try.prog 13 [.pointer (some ⟨g, 0, none⟩)] H (fun u H' => u = .tuple #[.int .u8 s.pop.1, .bool s.pop.2.1] ∧ RS B X H' g vL s.pop.2.2 ∧ StepO (MS g vL (.slice none 0 0)) (MS g vL (.slice none 0 0)) H H') := by
  refine Ct.mk Try.func13 rfl Try.ntmps13 rfl ?_
  intro W0 hW0
  have o0 : OldB 0 H H := OldB.refl _ H
  obtain ⟨bg, hB, wL, ng, hX, hm, ha, hfl⟩ := id h
  have zg := blk_lt bg
  have hn := List.length_pos_iff.2 h0
  obtain ⟨cs, hcl, hcx, hfp⟩ := wL.fpAt (by decide) (s.fr.length - 1) (by omega)
  have hfp : FP EDF H (MX (MS g vL (.slice none 0 0)) X) H cs s.top := hfp
  obtain ⟨lv, ev, ov, rfl, hlab, hend, hown, hlb, hle⟩ := hfp H (KeepP.refl _ _)
  obtain ⟨fpl, fpe, fpo⟩ := fp_old hfp
  have hall := congrArg List.length (DS.all_eq h0)
  rw [List.length_append] at hall
  have hvLn : vL ≠ .slice none 0 0 := fun e => by
    subst e
    obtain ⟨_, _, he, _⟩ := wL.val
    injection he with _ h2 _
    omega
  have hgv : MS g vL (.slice none 0 0) (vblock vL) := .inr (.inl ⟨hvLn, rfl⟩)
  have hgf : vblock vL ≠ g := ng _ ⟨hvLn, rfl⟩
  have hvs : vblock vL < H.size := (wL.lt.resolve_left hvLn).2
  have hp := DS.pop_yes h0 h1
  have ho := List.length_pos_iff.2 h1
  have st : StepO (MS g vL (.slice none 0 0)) (MS g vL (.slice none 0 0)) H H := StepO.refl _ _
  have hgg : MS g vL (.slice none 0 0) g := .inl rfl
  have hgl2 : vL = .slice none 0 0 ∨ vblock vL ≠ g := Classical.byCases .inl (fun e => .inr (fun e2 => ng _ ⟨e, rfl⟩ e2))
  have hgl : vL = .slice none 0 0 ∨ g ≠ vblock vL := hgl2.imp id Ne.symm
  have hvl : vL = .slice none 0 0 ∨ MS g vL (.slice none 0 0) (vblock vL) := Classical.byCases .inl (fun e => .inr (.inr (.inl ⟨e, rfl⟩)))
  refine KC.seq ?_
  refine KC.region ?_
  refine KL.op (R.assign rfl rfl) rfl rfl rfl ?_
  refine KL.op (R.assign rfl rfl) rfl rfl rfl ?_
  refine KL.nil ?_
  refine KQ.seq ?_
  refine KC.seq ?_
  refine KC.region ?_
  refine KL.op (R.move rfl rfl) rfl rfl rfl ?_
  refine KL.op (R.nilCheck rfl rfl) rfl rfl rfl ?_
  refine KL.op ((by first | exact R.fieldAddr rfl Try.underlying46 rfl rfl sz44 rfl | exact R.fieldAddrP rfl Try.underlying46 rfl rfl sz44 rfl)) rfl rfl rfl ?_
  refine KL.op (R.load rfl Try.underlying44 rfl rfl (cell_of bg rfl)) rfl rfl rfl ?_
  refine KL.op (R.lenO rfl Try.underlying44 rfl wL) rfl rfl rfl ?_
  refine KL.op (R.assign rfl rfl) rfl rfl rfl ?_
  refine KL.nil ?_
  refine KQ.seq ?_
  refine KC.seq ?_
  refine KC.seq ?_
  refine KC.region ?_
  refine KL.op (R.move rfl rfl) rfl rfl rfl ?_
  refine KL.op ((R.eql rfl rfl rfl).val (congrArg Value.bool (decide_eq_false (by omega)))) rfl rfl rfl ?_
  refine KL.nil ?_
  refine KQ.seq ?_
  refine KC.condF rfl ?_
  refine KC.skip ?_
  refine KQ.seq ?_
  refine KC.seq ?_
  refine KC.region ?_
  refine KL.op (R.move rfl rfl) rfl rfl rfl ?_
  refine KL.op (R.nilCheck rfl rfl) rfl rfl rfl ?_
  refine KL.op ((by first | exact R.fieldAddr rfl Try.underlying46 rfl rfl sz44 rfl | exact R.fieldAddrP rfl Try.underlying46 rfl rfl sz44 rfl)) rfl rfl rfl ?_
  refine KL.op (R.load rfl Try.underlying44 rfl rfl (cell_of bg rfl)) rfl rfl rfl ?_
  refine KL.op (R.move rfl rfl) rfl rfl rfl ?_
  refine KL.op ((R.sub rfl rfl rfl (by dsimp only [InR]; omega)).val (congrArg (Value.int .i64) (show (s.fr.length : Int) - 1 = ((s.fr.length - 1 : Nat) : Int) by omega))) rfl rfl rfl ?_
  refine KL.op (R.indexON (j := s.fr.length - 1) rfl Try.underlying44 sz54 rfl rfl wL (by omega) (by omega)) rfl rfl rfl ?_
  refine KL.op (R.assign rfl rfl) rfl rfl rfl ?_
  refine KL.nil ?_
  refine KQ.seq ?_
  refine KC.seq ?_
  refine KC.region ?_
  refine KL.op (R.move rfl rfl) rfl rfl rfl ?_
  refine KL.op (R.nilCheck rfl rfl) rfl rfl rfl ?_
  refine KL.op ((by first | exact R.fieldAddr rfl Try.underlying54 rfl rfl sz22 rfl | exact R.fieldAddrP rfl Try.underlying54 rfl rfl sz22 rfl)) rfl rfl rfl ?_
  refine KL.op (R.load rfl Try.underlying22 rfl rfl (hcx 2 _ rfl)) rfl rfl rfl ?_
  refine KL.op (R.lenS rfl Try.underlying22 rfl hown) rfl rfl rfl ?_
  refine KL.op (R.assign rfl rfl) rfl rfl rfl ?_
  refine KL.nil ?_
  refine KQ.seq ?_
  refine KC.seq ?_
  refine KC.seq ?_
  refine KC.region ?_
  refine KL.op (R.move rfl rfl) rfl rfl rfl ?_
  refine KL.op ((R.eql rfl rfl rfl).val (congrArg Value.bool (decide_eq_false (by omega)))) rfl rfl rfl ?_
  refine KL.nil ?_
  refine KQ.seq ?_
  refine KC.condF rfl ?_
  refine KC.skip ?_
  refine KQ.seq ?_
  refine KC.seq ?_
  refine KC.region ?_
  refine KL.op (R.move rfl rfl) rfl rfl rfl ?_
  refine KL.op (R.nilCheck rfl rfl) rfl rfl rfl ?_
  refine KL.op ((by first | exact R.fieldAddr rfl Try.underlying54 rfl rfl sz22 rfl | exact R.fieldAddrP rfl Try.underlying54 rfl rfl sz22 rfl)) rfl rfl rfl ?_
  refine KL.op (R.load rfl Try.underlying22 rfl rfl (hcx 2 _ rfl)) rfl rfl rfl ?_
  refine KL.op (R.move rfl rfl) rfl rfl rfl ?_
  refine KL.op ((R.sub rfl rfl rfl (by dsimp only [InR]; omega)).val (congrArg (Value.int .i64) (show (s.top.own.length : Int) - 1 = ((s.top.own.length - 1 : Nat) : Int) by omega))) rfl rfl rfl ?_
  refine KL.op (R.index1 (j := s.top.own.length - 1) rfl Try.underlying22 sz5 rfl rfl hown (by omega) (by omega)) rfl rfl rfl ?_
  refine KL.op (R.load rfl Try.underlying5 rfl rfl ((hown.int (s.top.own.length - 1) (by omega)).1)) rfl rfl rfl ?_
  refine KL.op (R.assign rfl rfl) rfl rfl rfl ?_
  refine KL.nil ?_
  refine KQ.seq ?_
  refine KC.seq ?_
  refine KC.region ?_
  refine KL.op (R.move rfl rfl) rfl rfl rfl ?_
  refine KL.op (R.move rfl rfl) rfl rfl rfl ?_
  refine KL.op (R.nilCheck rfl rfl) rfl rfl rfl ?_
  refine KL.op ((by first | exact R.fieldAddr rfl Try.underlying54 rfl rfl sz22 rfl | exact R.fieldAddrP rfl Try.underlying54 rfl rfl sz22 rfl)) rfl rfl rfl ?_
  refine KL.op (R.load rfl Try.underlying22 rfl rfl (hcx 2 _ rfl)) rfl rfl rfl ?_
  refine KL.op (R.move rfl rfl) rfl rfl rfl ?_
  refine KL.op ((R.sub rfl rfl rfl (by dsimp only [InR]; omega)).val (congrArg (Value.int .i64) (show (s.top.own.length : Int) - 1 = ((s.top.own.length - 1 : Nat) : Int) by omega))) rfl rfl rfl ?_
  refine KL.op (R.sliceToS (j := s.top.own.length - 1) rfl Try.underlying22 sz5 rfl rfl hown (by omega) (by omega)) rfl rfl rfl ?_
  refine KL.op (R.nilCheck rfl rfl) rfl rfl rfl ?_
  refine KL.op ((by first | exact R.fieldAddr rfl Try.underlying54 rfl rfl sz22 rfl | exact R.fieldAddrP rfl Try.underlying54 rfl rfl sz22 rfl)) rfl rfl rfl ?_
  refine KL.opS (S.ownC (j := s.fr.length - 1) (c := 2) rfl sz22 rfl rfl (hown.to (j := s.top.own.length - 1) (by omega)).cells1 (hown.to (j := s.top.own.length - 1) (by omega)).one wL (by omega) (by decide) (fun cs hc hf => df_own (fun Hq kq => (fpo Hq kq).to (by omega)) cs hc hf)) rfl rfl ?_
  rintro H1 ⟨u1, w1⟩
  have o0 := o0.trans (OldB.upd u1 (by omega))
  have zu1 := u1.1
  have bg := ((u1).2 _ (by omega)).trans bg
  have st := (by first | exact st.upd u1 | exact st.updN u1 (by omega))
  have wL := w1
  refine KL.nil ?_
  refine KQ.seq ?_
  refine KC.seq ?_
  refine KC.region ?_
  refine KL.op (R.move rfl rfl) rfl rfl rfl ?_
  refine KL.op (R.assign rfl rfl) rfl rfl rfl ?_
  refine KL.op (R.assign rfl rfl) rfl rfl rfl ?_
  refine KL.nil ?_
  refine KQ.seq ?_
  refine KC.ret ?_
  refine KQ.ofRet ?_
  refine KQ.fin2 Try.results13 rfl rfl ?_
  have h2 := h.set (s' := s.cut (s.top.own.length - 1)) st (fun b hb => .inl hb) bg wL st (Nat.le_refl _) (fun b hb => .inl hb) hm (by rw [DS.cut_all h0, List.length_take]; omega) (by rw [DS.cut_len]; exact hfl)
  exact ⟨by rw [hp], by rw [hp]; exact h2.1, h2.2⟩

theorem RPop_k {B : Nat} {X : Nat → Prop} {H : Heap} {g : Nat} {vL : Value} {s : DS} (h : RS B X H g vL s) : Ct Try.prog 13 [.pointer (some ⟨g, 0, none⟩)] H (fun u H' => u = .tuple #[.int .u8 s.pop.1, .bool s.pop.2.1] ∧ RS B X H' g vL s.pop.2.2 ∧ StepO (MS g vL (.slice none 0 0)) (MS g vL (.slice none 0 0)) H H') := by
  by_cases h0 : s.fr = []
  · exact RPop_no h h0
  · by_cases h1 : s.top.own = []
    · exact RPop_dead h h0 h1
    · exact RPop_yes h h0 h1

set_option maxRecDepth 100000 in
set_option maxHeartbeats 4000000 in
theorem RKill_no {B : Nat} {X : Nat → Prop} {H : Heap} {g : Nat} {vL : Value} {s : DS} (h : RS B X H g vL s) (h0 : s.fr = []) : Ct Try.prog 21 [.pointer (some ⟨g, 0, none⟩)] H (fun _ H' => RS B X H' g vL s.kill ∧ StepO (MS g vL (.slice none 0 0)) (MS g vL (.slice none 0 0)) H H') := by
  refine Ct.mk Try.func21 rfl Try.ntmps21 rfl ?_
  intro W0 hW0
  have o0 : Old H H := Old.refl H
  obtain ⟨bg, hB, wL, ng, hX, hm, ha, hfl⟩ := id h
  have zg := blk_lt bg
  refine KC.seq ?_
  refine KC.region ?_
  refine KL.op (R.move rfl rfl) rfl rfl rfl ?_
  refine KL.op (R.nilCheck rfl rfl) rfl rfl rfl ?_
  refine KL.op ((by first | exact R.fieldAddr rfl Try.underlying46 rfl rfl sz44 rfl | exact R.fieldAddrP rfl Try.underlying46 rfl rfl sz44 rfl)) rfl rfl rfl ?_
  refine KL.op (R.load rfl Try.underlying44 rfl rfl (cell_of bg rfl)) rfl rfl rfl ?_
  refine KL.op (R.lenO rfl Try.underlying44 rfl wL) rfl rfl rfl ?_
  refine KL.op (R.assign rfl rfl) rfl rfl rfl ?_
  refine KL.nil ?_
  refine KQ.seq ?_
  refine KC.seq ?_
  refine KC.region ?_
  refine KL.op (R.move rfl rfl) rfl rfl rfl ?_
  refine KL.op ((R.gtr rfl rfl rfl).val (congrArg Value.bool (decide_eq_false (by rw [h0]; simp)))) rfl rfl rfl ?_
  refine KL.nil ?_
  refine KQ.seq ?_
  refine KC.condF rfl ?_
  refine KC.skip ?_
  refine KQ.fin0 Try.results21 ?_
  exact ⟨by rw [DS.kill_nil h0]; exact h, StepO.refl _ _⟩

set_option maxRecDepth 100000 in
set_option maxHeartbeats 4000000 in
theorem RKill_yes {B : Nat} {X : Nat → Prop} {H : Heap} {g : Nat} {vL : Value} {s : DS} (h : RS B X H g vL s) (h0 : s.fr ≠ []) : Ct Try.prog 21 [.pointer (some ⟨g, 0, none⟩)] H (fun _ H' => RS B X H' g vL s.kill ∧ StepO (MS g vL (.slice none 0 0)) (MS g vL (.slice none 0 0)) H H') := by
  refine Ct.mk Try.func21 rfl Try.ntmps21 rfl ?_
  intro W0 hW0
  have o0 : OldB 0 H H := OldB.refl _ H
  obtain ⟨bg, hB, wL, ng, hX, hm, ha, hfl⟩ := id h
  have zg := blk_lt bg
  have hn := List.length_pos_iff.2 h0
  obtain ⟨cs, hcl, hcx, hfp⟩ := wL.fpAt (by decide) (s.fr.length - 1) (by omega)
  have hfp : FP EDF H (MX (MS g vL (.slice none 0 0)) X) H cs s.top := hfp
  obtain ⟨lv, ev, ov, rfl, hlab, hend, hown, hlb, hle⟩ := hfp H (KeepP.refl _ _)
  obtain ⟨fpl, fpe, fpo⟩ := fp_old hfp
  have hall := congrArg List.length (DS.all_eq h0)
  rw [List.length_append] at hall
  have hvLn : vL ≠ .slice none 0 0 := fun e => by
    subst e
    obtain ⟨_, _, he, _⟩ := wL.val
    injection he with _ h2 _
    omega
  have hgv : MS g vL (.slice none 0 0) (vblock vL) := .inr (.inl ⟨hvLn, rfl⟩)
  have hgf : vblock vL ≠ g := ng _ ⟨hvLn, rfl⟩
  have hvs : vblock vL < H.size := (wL.lt.resolve_left hvLn).2
  have st : StepO (MS g vL (.slice none 0 0)) (MS g vL (.slice none 0 0)) H H := StepO.refl _ _
  have hgg : MS g vL (.slice none 0 0) g := .inl rfl
  have hgl2 : vL = .slice none 0 0 ∨ vblock vL ≠ g := Classical.byCases .inl (fun e => .inr (fun e2 => ng _ ⟨e, rfl⟩ e2))
  have hgl : vL = .slice none 0 0 ∨ g ≠ vblock vL := hgl2.imp id Ne.symm
  have hvl : vL = .slice none 0 0 ∨ MS g vL (.slice none 0 0) (vblock vL) := Classical.byCases .inl (fun e => .inr (.inr (.inl ⟨e, rfl⟩)))
  refine KC.seq ?_
  refine KC.region ?_
  refine KL.op (R.move rfl rfl) rfl rfl rfl ?_
  refine KL.op (R.nilCheck rfl rfl) rfl rfl rfl ?_
  refine KL.op ((by first | exact R.fieldAddr rfl Try.underlying46 rfl rfl sz44 rfl | exact R.fieldAddrP rfl Try.underlying46 rfl rfl sz44 rfl)) rfl rfl rfl ?_
  refine KL.op (R.load rfl Try.underlying44 rfl rfl (cell_of bg rfl)) rfl rfl rfl ?_
  refine KL.op (R.lenO rfl Try.underlying44 rfl wL) rfl rfl rfl ?_
  refine KL.op (R.assign rfl rfl) rfl rfl rfl ?_
  refine KL.nil ?_
  refine KQ.seq ?_
  refine KC.seq ?_
  refine KC.region ?_
  refine KL.op (R.move rfl rfl) rfl rfl rfl ?_
  refine KL.op ((R.gtr rfl rfl rfl).val (congrArg Value.bool (decide_eq_true (by omega)))) rfl rfl rfl ?_
  refine KL.nil ?_
  refine KQ.seq ?_
  refine KC.condT rfl ?_
  refine KC.seq ?_
  refine KC.region ?_
  refine KL.op (R.move rfl rfl) rfl rfl rfl ?_
  refine KL.op (R.nilCheck rfl rfl) rfl rfl rfl ?_
  refine KL.op ((by first | exact R.fieldAddr rfl Try.underlying46 rfl rfl sz44 rfl | exact R.fieldAddrP rfl Try.underlying46 rfl rfl sz44 rfl)) rfl rfl rfl ?_
  refine KL.op (R.load rfl Try.underlying44 rfl rfl (cell_of bg rfl)) rfl rfl rfl ?_
  refine KL.op (R.move rfl rfl) rfl rfl rfl ?_
  refine KL.op ((R.sub rfl rfl rfl (by dsimp only [InR]; omega)).val (congrArg (Value.int .i64) (show (s.fr.length : Int) - 1 = ((s.fr.length - 1 : Nat) : Int) by omega))) rfl rfl rfl ?_
  refine KL.op (R.indexON (j := s.fr.length - 1) rfl Try.underlying44 sz54 rfl rfl wL (by omega) (by omega)) rfl rfl rfl ?_
  refine KL.op ((by first | exact R.fieldAddr rfl Try.underlying54 rfl rfl sz22 rfl | exact R.fieldAddrP rfl Try.underlying54 rfl rfl sz22 rfl)) rfl rfl rfl ?_
  refine KL.opS (S.ownC (j := s.fr.length - 1) (c := 2) rfl sz22 rfl rfl rfl rfl wL (by omega) (by decide) (fun cs hc hf => df_own (fun Hq kq => Sl.nil _ _ _) cs hc hf)) rfl rfl ?_
  rintro H1 ⟨u1, w1⟩
  have o0 := o0.trans (OldB.upd u1 (by omega))
  have zu1 := u1.1
  have bg := ((u1).2 _ (by omega)).trans bg
  have st := (by first | exact st.upd u1 | exact st.updN u1 (by omega))
  have wL := w1
  refine KL.nil ?_
  refine KQ.seq ?_
  refine KC.region ?_
  refine KL.op (R.move rfl rfl) rfl rfl rfl ?_
  refine KL.op (R.nilCheck rfl rfl) rfl rfl rfl ?_
  refine KL.op ((by first | exact R.fieldAddr rfl Try.underlying46 rfl rfl sz44 rfl | exact R.fieldAddrP rfl Try.underlying46 rfl rfl sz44 rfl)) rfl rfl rfl ?_
  refine KL.op (R.load rfl Try.underlying44 rfl rfl (cell_of bg rfl)) rfl rfl rfl ?_
  refine KL.op (R.move rfl rfl) rfl rfl rfl ?_
  refine KL.op ((R.sub rfl rfl rfl (by dsimp only [InR]; omega)).val (congrArg (Value.int .i64) (show (s.fr.length : Int) - 1 = ((s.fr.length - 1 : Nat) : Int) by omega))) rfl rfl rfl ?_
  refine KL.op (R.indexON (j := s.fr.length - 1) rfl Try.underlying44 sz54 rfl rfl wL (by omega) (by rw [List.length_set]; omega)) rfl rfl rfl ?_
  refine KL.op ((by first | exact R.fieldAddr rfl Try.underlying54 rfl rfl sz4 rfl | exact R.fieldAddrP rfl Try.underlying54 rfl rfl sz4 rfl)) rfl rfl rfl ?_
  refine KL.opS (S.ownC (j := s.fr.length - 1) (c := 3) rfl sz4 rfl rfl rfl rfl wL (by rw [List.length_set]; omega) (by decide) (fun cs hc hf => df_dead cs hc hf)) rfl rfl ?_
  rintro H2 ⟨u2, w2⟩
  have o0 := o0.trans (OldB.upd u2 (by omega))
  have zu2 := u2.1
  have bg := ((u2).2 _ (by omega)).trans bg
  have st := (by first | exact st.upd u2 | exact st.updN u2 (by omega))
  have wL := w2
  rw [set_last, getD_setL (by omega)] at wL
  refine KL.nil ?_
  refine KQ.fin0 Try.results21 ?_
  exact h.set (s' := s.kill) st (fun b hb => .inl hb) bg wL st (Nat.le_refl _) (fun b hb => .inl hb) hm (by unfold DS.kill; rw [DS.all_put h0, List.append_nil]; omega) (by unfold DS.kill; rw [DS.put_len]; exact hfl)

theorem RKill_k {B : Nat} {X : Nat → Prop} {H : Heap} {g : Nat} {vL : Value} {s : DS} (h : RS B X H g vL s) : Ct Try.prog 21 [.pointer (some ⟨g, 0, none⟩)] H (fun _ H' => RS B X H' g vL s.kill ∧ StepO (MS g vL (.slice none 0 0)) (MS g vL (.slice none 0 0)) H H') := by
  by_cases h0 : s.fr = []
  · exact RKill_no h h0
  · exact RKill_yes h h0

set_option maxRecDepth 100000 in
set_option maxHeartbeats 4000000 in
theorem RLabel_no {B : Nat} {X : Nat → Prop} {H : Heap} {g : Nat} {vL : Value} {s : DS} (h : RS B X H g vL s) (n : Nat) (hn : n < 4294967296) (h0 : s.fr.length ≤ n) : Ct Try.prog 23 [.pointer (some ⟨g, 0, none⟩), .int .u32 (n : Nat)] H (fun u H' => ∃ lv, u = .tuple #[lv, .bool (s.lab n).2] ∧ Sl 1 (EInt .u8) H' lv (s.lab n).1 ∧ H = H') := by
  refine Ct.mk Try.func23 rfl Try.ntmps23 rfl ?_
  intro W0 hW0
  have o0 : Old H H := Old.refl H
  obtain ⟨bg, hB, wL, ng, hX, hm, ha, hfl⟩ := id h
  have zg := blk_lt bg
  have hlb : s.lab n = ([], false) := by unfold DS.lab; rw [if_neg (by omega)]
  refine KC.seq ?_
  refine KC.region ?_
  refine KL.op (R.assign rfl rfl) rfl rfl rfl ?_
  refine KL.op (R.assign rfl rfl) rfl rfl rfl ?_
  refine KL.nil ?_
  refine KQ.seq ?_
  refine KC.seq ?_
  refine KC.seq ?_
  refine KC.region ?_
  refine KL.op (R.move rfl rfl) rfl rfl rfl ?_
  refine KL.op (R.convI rfl Try.underlying30 Try.underlying2 rfl (by dsimp only [InR]; omega)) rfl rfl rfl ?_
  refine KL.op (R.move rfl rfl) rfl rfl rfl ?_
  refine KL.op (R.nilCheck rfl rfl) rfl rfl rfl ?_
  refine KL.op ((by first | exact R.fieldAddr rfl Try.underlying46 rfl rfl sz44 rfl | exact R.fieldAddrP rfl Try.underlying46 rfl rfl sz44 rfl)) rfl rfl rfl ?_
  refine KL.op (R.load rfl Try.underlying44 rfl rfl (cell_of bg rfl)) rfl rfl rfl ?_
  refine KL.op (R.lenO rfl Try.underlying44 rfl wL) rfl rfl rfl ?_
  refine KL.op ((R.geq rfl rfl rfl).val (congrArg Value.bool (decide_eq_true (by omega)))) rfl rfl rfl ?_
  refine KL.nil ?_
  refine KQ.seq ?_
  refine KC.condT rfl ?_
  refine KC.seq ?_
  refine KC.region ?_
  refine KL.op (R.assign rfl rfl) rfl rfl rfl ?_
  refine KL.op (R.assign rfl rfl) rfl rfl rfl ?_
  refine KL.nil ?_
  refine KQ.seq ?_
  refine KC.ret ?_
  refine KQ.retThen ?_
  refine KQ.ofRet ?_
  refine KQ.fin2 Try.results23 rfl rfl ?_
  exact ⟨_, by rw [hlb], by rw [hlb]; exact Sl.nil _ _ _, rfl⟩

set_option maxRecDepth 100000 in
set_option maxHeartbeats 4000000 in
theorem RLabel_yes {B : Nat} {X : Nat → Prop} {H : Heap} {g : Nat} {vL : Value} {s : DS} (h : RS B X H g vL s) (n : Nat) (hn : n < 4294967296) (h0 : n < s.fr.length) : Ct Try.prog 23 [.pointer (some ⟨g, 0, none⟩), .int .u32 (n : Nat)] H (fun u H' => ∃ lv, u = .tuple #[lv, .bool (s.lab n).2] ∧ Sl 1 (EInt .u8) H' lv (s.lab n).1 ∧ H = H') := by
  refine Ct.mk Try.func23 rfl Try.ntmps23 rfl ?_
  intro W0 hW0
  have o0 : Old H H := Old.refl H
  obtain ⟨bg, hB, wL, ng, hX, hm, ha, hfl⟩ := id h
  have zg := blk_lt bg
  have hln : s.lab n = ((s.fr.getD (s.fr.length - 1 - n) default).label, true) := by unfold DS.lab; rw [if_pos h0]
  obtain ⟨cs, hcl, hcx, hfp⟩ := wL.fpAt (by decide) (s.fr.length - 1 - n) (by omega)
  obtain ⟨lv, ev, ov, rfl, hlab, hend, hown, hlb, hle⟩ := hfp H (KeepP.refl _ _)
  refine KC.seq ?_
  refine KC.region ?_
  refine KL.op (R.assign rfl rfl) rfl rfl rfl ?_
  refine KL.op (R.assign rfl rfl) rfl rfl rfl ?_
  refine KL.nil ?_
  refine KQ.seq ?_
  refine KC.seq ?_
  refine KC.seq ?_
  refine KC.region ?_
  refine KL.op (R.move rfl rfl) rfl rfl rfl ?_
  refine KL.op (R.convI rfl Try.underlying30 Try.underlying2 rfl (by dsimp only [InR]; omega)) rfl rfl rfl ?_
  refine KL.op (R.move rfl rfl) rfl rfl rfl ?_
  refine KL.op (R.nilCheck rfl rfl) rfl rfl rfl ?_
  refine KL.op ((by first | exact R.fieldAddr rfl Try.underlying46 rfl rfl sz44 rfl | exact R.fieldAddrP rfl Try.underlying46 rfl rfl sz44 rfl)) rfl rfl rfl ?_
  refine KL.op (R.load rfl Try.underlying44 rfl rfl (cell_of bg rfl)) rfl rfl rfl ?_
  refine KL.op (R.lenO rfl Try.underlying44 rfl wL) rfl rfl rfl ?_
  refine KL.op ((R.geq rfl rfl rfl).val (congrArg Value.bool (decide_eq_false (by omega)))) rfl rfl rfl ?_
  refine KL.nil ?_
  refine KQ.seq ?_
  refine KC.condF rfl ?_
  refine KC.skip ?_
  refine KQ.seq ?_
  refine KC.seq ?_
  refine KC.quiet (by kernel_rfl) (by kernel_rfl) ?_
  refine KD.op (R.move rfl rfl) rfl rfl rfl ?_
  refine KD.op (R.nilCheck rfl rfl) rfl rfl rfl ?_
  refine KD.op ((by first | exact R.fieldAddr rfl Try.underlying46 rfl rfl sz44 rfl | exact R.fieldAddrP rfl Try.underlying46 rfl rfl sz44 rfl)) rfl rfl rfl ?_
  refine KD.op (R.load rfl Try.underlying44 rfl rfl (cell_of bg rfl)) rfl rfl rfl ?_
  refine KD.op (R.move rfl rfl) rfl rfl rfl ?_
  refine KD.op (R.nilCheck rfl rfl) rfl rfl rfl ?_
  refine KD.op ((by first | exact R.fieldAddr rfl Try.underlying46 rfl rfl sz44 rfl | exact R.fieldAddrP rfl Try.underlying46 rfl rfl sz44 rfl)) rfl rfl rfl ?_
  refine KD.op (R.load rfl Try.underlying44 rfl rfl (cell_of bg rfl)) rfl rfl rfl ?_
  refine KD.op (R.lenO rfl Try.underlying44 rfl wL) rfl rfl rfl ?_
  refine KD.op ((R.sub rfl rfl rfl (by dsimp only [InR]; omega)).val (congrArg (Value.int .i64) (show (s.fr.length : Int) - 1 = ((s.fr.length - 1 : Nat) : Int) by omega))) rfl rfl rfl ?_
  refine KD.op (R.move rfl rfl) rfl rfl rfl ?_
  refine KD.op (R.convI rfl Try.underlying30 Try.underlying3 rfl (by dsimp only [InR]; omega)) rfl rfl rfl ?_
  refine KD.op ((R.sub rfl rfl rfl (by dsimp only [InR]; omega)).val (congrArg (Value.int .i64) (show ((s.fr.length - 1 : Nat) : Int) - (n : Nat) = ((s.fr.length - 1 - n : Nat) : Int) by omega))) rfl rfl rfl ?_
  refine KD.op (R.indexON (j := s.fr.length - 1 - n) rfl Try.underlying44 sz54 rfl rfl wL rfl (by omega)) rfl rfl rfl ?_
  refine KD.op ((by first | exact R.fieldAddr rfl Try.underlying54 rfl rfl sz22 rfl | exact R.fieldAddrP rfl Try.underlying54 rfl rfl sz22 rfl)) rfl rfl rfl ?_
  refine KD.op (R.load rfl Try.underlying22 rfl rfl (hcx 0 _ rfl)) rfl rfl rfl ?_
  refine KD.op (R.assign rfl rfl) rfl rfl rfl ?_
  refine KD.op (R.assign rfl rfl) rfl rfl rfl ?_
  refine KD.nil ?_
  refine KQ.seq ?_
  refine KC.ret ?_
  refine KQ.ofRet ?_
  refine KQ.fin2 Try.results23 rfl rfl ?_
  exact ⟨lv, by rw [hln], by rw [hln]; exact hlab, rfl⟩

theorem RLabel_k {B : Nat} {X : Nat → Prop} {H : Heap} {g : Nat} {vL : Value} {s : DS} (h : RS B X H g vL s) (n : Nat) (hn : n < 4294967296) : Ct Try.prog 23 [.pointer (some ⟨g, 0, none⟩), .int .u32 (n : Nat)] H (fun u H' => ∃ lv, u = .tuple #[lv, .bool (s.lab n).2] ∧ Sl 1 (EInt .u8) H' lv (s.lab n).1 ∧ H = H') := by
  by_cases h0 : n < s.fr.length
  · exact RLabel_yes h n hn h0
  · exact RLabel_no h n hn (by omega)

/-- what Fits hands back -/
def fitV (d : Bool) (own : List Int) (ov : Value) (l : List Int) : Value := match fitN d own own.length l.reverse with
  | none => .tuple #[.slice none 0 0, .bool false]
  | some m => .tuple #[toV ov m, .bool true]
theorem fitV_none {d : Bool} {own : List Int} {ov : Value} {l : List Int} (h : fitN d own own.length l.reverse = none) : .tuple #[.slice none 0 0, .bool false] = fitV d own ov l := by unfold fitV; rw [h]
theorem fitV_some {d : Bool} {own : List Int} {ov : Value} {l : List Int} {m : Nat} (h : fitN d own own.length l.reverse = some m) : .tuple #[toV ov m, .bool true] = fitV d own ov l := by unfold fitV; rw [h]

set_option maxRecDepth 100000 in
set_option maxHeartbeats 4000000 in
theorem Fits_k {H : Heap} {lv ev ov tv : Value} {own l : List Int} {d : Bool} (ho : Sl 1 (EInt .u8) H ov own) (hs : Sl 1 (EInt .u8) H tv l) : Ct Try.prog 30 [.agg [lv, ev, ov, .bool d].toArray, tv] H (fun u H' => u = fitV d own ov l ∧ Old H H') := by
  refine Ct.mk Try.func30 rfl Try.ntmps30 rfl ?_
  intro W0 hW0
  have o0 : Old H H := Old.refl H
  have hll := hs.len
  have hol := ho.len
  refine KC.seq ?_
  refine KC.region ?_
  refine KL.opM (M.box (cs := [lv, ev, ov, .bool d]) rfl rfl rfl) rfl rfl rfl ?_
  rintro _ H1 ⟨rfl, n1⟩
  have z1 := n1.2.1
  have o0 := o0.trans n1.1
  have b1 := n1.2.2
  have bf := b1
  refine KL.op (R.assign rfl rfl) rfl rfl rfl ?_
  refine KL.op (R.assign rfl rfl) rfl rfl rfl ?_
  refine KL.nil ?_
  refine KQ.seq ?_
  refine KC.seq ?_
  refine KC.region ?_
  refine KL.op ((by first | exact R.fieldAddr rfl Try.underlying54 rfl rfl sz22 rfl | exact R.fieldAddrP rfl Try.underlying54 rfl rfl sz22 rfl)) rfl rfl rfl ?_
  refine KL.op ((R.load rfl Try.underlying22 rfl rfl (cell_of bf rfl)).val ((toV_full ho).symm)) rfl rfl rfl ?_
  refine KL.op (R.assign rfl rfl) rfl rfl rfl ?_
  refine KL.nil ?_
  refine KQ.seq ?_
  refine KC.seq ?_
  refine KC.seq ?_
  refine KC.region ?_
  refine KL.op (R.move rfl rfl) rfl rfl rfl ?_
  refine KL.op (R.lenS rfl Try.underlying22 rfl hs) rfl rfl rfl ?_
  refine KL.op (R.sub rfl rfl rfl (by dsimp only [InR]; omega)) rfl rfl rfl ?_
  refine KL.op (R.assign rfl rfl) rfl rfl rfl ?_
  refine KL.nil ?_
  refine KQ.seq ?_
  refine KC.block ?_
  refine KC.loopD (κ := Nat × Nat) [14, 15, 18, 19, 8, 20, 21, 22, 23, 24, 4, 5, 25, 26, 27, 28, 29, 30, 31, 32, 33, 34, 35, 36, 37, 38, 39, 40, 41, 42, 43, 44, 45, 46, 47, 48, 49, 50, 51, 52, 53, 6, 16, 17, 7] (fun k => [(6, toV ov k.2), (7, .int .i64 ((l.length : Int) - 1 - (k.1 : Nat)))]) (fun k Hl => k.1 ≤ l.length ∧ k.2 ≤ own.length ∧ fitN d own own.length l.reverse = fitN d own k.2 (l.reverse.drop k.1) ∧ H1 = Hl) (fun k => l.length - k.1) (0, own.length) ?_ ?_ ?_
  · exact (Sub.cons rfl (Sub.cons (congrArg (fun x => some (Value.int .i64 x)) (show (l.length : Int) - 1 = (l.length : Int) - 1 - (0 : Nat) by omega)) (Ext.sub (Ext.refl _ _))))
  · exact ⟨Nat.zero_le _, Nat.le_refl _, rfl, rfl⟩
  · rintro ⟨k, m⟩ H2 ⟨hk, hm, hrel, rfl⟩
    dsimp only at hk hm hrel
    refine KC.seq ?_
    refine KC.seq ?_
    refine KC.region ?_
    refine KL.op (R.move rfl rfl) rfl rfl rfl ?_
    refine KL.op (R.geq rfl rfl rfl) rfl rfl rfl ?_
    refine KL.nil ?_
    refine KQ.seq ?_
    refine KC.iteL rfl ?_ ?_
    · intro hc15
      try simp only [decide_eq_true_eq, decide_eq_false_iff_not, Bool.not_eq_true', Bool.not_eq_false', Bool.and_eq_true, Bool.or_eq_false_iff] at hc15
      have hkl : k < l.length := by omega
      rw [back_rev hkl] at hrel
      obtain ⟨hcx, hcr⟩ := hs.int (l.length - 1 - k) (by omega)
      refine KC.skip ?_
      refine KQ.seq ?_
      refine KC.seq ?_
      refine KC.block ?_
      refine KC.seq ?_
      refine KC.region ?_
      refine KL.op (R.move rfl rfl) rfl rfl rfl ?_
      refine KL.op ((R.lenS rfl Try.underlying22 rfl (ho.to (j := m) hm)).val (congrArg (fun n : Nat => Value.int .i64 n) (show (own.take m).length = m by rw [List.length_take]; omega))) rfl rfl rfl ?_
      refine KL.op (R.assign rfl rfl) rfl rfl rfl ?_
      refine KL.nil ?_
      refine KQ.seq ?_
      refine KC.seq ?_
      refine KC.seq ?_
      refine KC.region ?_
      refine KL.op (R.move rfl rfl) rfl rfl rfl ?_
      refine KL.op (R.eql rfl rfl rfl) rfl rfl rfl ?_
      refine KL.nil ?_
      refine KQ.seq ?_
      refine KC.iteL rfl ?_ ?_
      · intro hc21
        try simp only [decide_eq_true_eq, decide_eq_false_iff_not, Bool.not_eq_true', Bool.not_eq_false', Bool.and_eq_true, Bool.or_eq_false_iff] at hc21
        have hm0 : m = 0 := by omega
        refine KC.seq ?_
        refine KC.seq ?_
        refine KC.region ?_
        refine KL.op ((by first | exact R.fieldAddr rfl Try.underlying54 rfl rfl sz4 rfl | exact R.fieldAddrP rfl Try.underlying54 rfl rfl sz4 rfl)) rfl rfl rfl ?_
        refine KL.op (R.load rfl Try.underlying4 rfl rfl (cell_of bf rfl)) rfl rfl rfl ?_
        refine KL.op (R.not rfl rfl) rfl rfl rfl ?_
        refine KL.nil ?_
        refine KQ.seq ?_
        refine KC.iteL rfl ?_ ?_
        · intro hc24
          try simp only [decide_eq_true_eq, decide_eq_false_iff_not, Bool.not_eq_true', Bool.not_eq_false', Bool.and_eq_true, Bool.or_eq_false_iff] at hc24
          have hdead : d = false := by simpa using hc24
          refine KC.seq ?_
          refine KC.region ?_
          refine KL.op (R.assign rfl rfl) rfl rfl rfl ?_
          refine KL.op (R.assign rfl rfl) rfl rfl rfl ?_
          refine KL.nil ?_
          refine KQ.seq ?_
          refine KC.ret ?_
          refine KQ.retThen ?_
          refine KQ.retThen ?_
          refine KQ.retBlock ?_
          refine KQ.retThen ?_
          refine KQ.retThen ?_
          refine KQ.retBlock ?_
          refine KQ.retThen ?_
          refine KQ.ofRet ?_
          refine KQ.fin2 Try.results30 rfl rfl ?_
          first
            | exact ⟨fitV_some hrel, o0⟩
            | exact ⟨fitV_none (by rw [hrel, hm0, hdead]; rfl), o0⟩
            | exact ⟨fitV_none (by rw [hrel, hmm, fit_stop (by omega)]), o0⟩
        · intro hc24
          try simp only [decide_eq_true_eq, decide_eq_false_iff_not, Bool.not_eq_true', Bool.not_eq_false', Bool.and_eq_true, Bool.or_eq_false_iff] at hc24
          have hdead : d = true := by simpa using hc24
          refine KC.skip ?_
          refine KQ.seq ?_
          refine KC.exit ?_
          refine KQ.exitThen ?_
          refine KQ.hit ?_
          refine KQ.seq ?_
          refine KC.region ?_
          refine KL.op (R.move rfl rfl) rfl rfl rfl ?_
          refine KL.op ((R.sub rfl rfl rfl (by dsimp only [InR]; omega)).val (congrArg (Value.int .i64) (show (l.length : Int) - 1 - (k : Nat) - 1 = (l.length : Int) - 1 - (k + 1 : Nat) by omega))) rfl rfl rfl ?_
          refine KL.op (R.assign rfl rfl) rfl rfl rfl ?_
          refine KL.nil ?_
          refine KQ.again ((k + 1, m)) ?_ ?_ ?_
          · exact (Sub.cons rfl (Sub.cons rfl (Ext.sub (by repeat (first | exact Ext.refl _ _ | refine Ext.put rfl ?_ | refine Ext.drop rfl ?_)))))
          · show l.length - (k + 1) < l.length - k; omega
          · exact ⟨by show k + 1 ≤ _; omega, by dsimp only; omega, by dsimp only; first | (rw [hrel, hm0, hdead]; rfl) | (rw [hrel, hmm, fit_cons (by omega), Nat.add_sub_cancel]), rfl⟩
      · intro hc21
        try simp only [decide_eq_true_eq, decide_eq_false_iff_not, Bool.not_eq_true', Bool.not_eq_false', Bool.and_eq_true, Bool.or_eq_false_iff] at hc21
        obtain ⟨m2, hmm⟩ : ∃ m2, m = m2 + 1 := ⟨m - 1, by omega⟩
        have hm9 : m2 = m - 1 := by omega
        have hom := ho.to (j := m) hm
        have hlt : (own.take m).length = m := by rw [List.length_take]; omega
        obtain ⟨hcw, hrw⟩ := hom.int (m - 1) (by omega)
        have hov : (own.take m).getD (m - 1) default = own.getD m2 default := by
          rw [← hm9, List.getD_eq_getElem?_getD, List.getD_eq_getElem?_getD, List.getElem?_take, if_pos (by omega)]
        rw [hov] at hcw
        refine KC.skip ?_
        refine KQ.seq ?_
        refine KC.seq ?_
        refine KC.seq ?_
        refine KC.quiet (by kernel_rfl) (by kernel_rfl) ?_
        refine KD.op (R.move rfl rfl) rfl rfl rfl ?_
        refine KD.op (R.move rfl rfl) rfl rfl rfl ?_
        refine KD.op ((R.sub rfl rfl rfl (by dsimp only [InR]; omega)).val (congrArg (Value.int .i64) (show (m : Int) - 1 = ((m - 1 : Nat) : Int) by omega))) rfl rfl rfl ?_
        refine KD.op (R.index1 (j := m - 1) rfl Try.underlying22 sz5 rfl rfl hom rfl (by omega)) rfl rfl rfl ?_
        refine KD.op (R.load rfl Try.underlying5 rfl rfl (o0.cell hcw)) rfl rfl rfl ?_
        refine KD.op (R.move rfl rfl) rfl rfl rfl ?_
        refine KD.op (R.move rfl rfl) rfl rfl rfl ?_
        refine KD.op (R.index1 (j := l.length - 1 - k) rfl Try.underlying22 sz5 rfl rfl hs (by omega) (by omega)) rfl rfl rfl ?_
        refine KD.op (R.load rfl Try.underlying5 rfl rfl (o0.cell hcx)) rfl rfl rfl ?_
        refine KD.op (R.neq rfl rfl rfl) rfl rfl rfl ?_
        refine KD.op (R.move rfl rfl) rfl rfl rfl ?_
        refine KD.case (d := 35) rfl ?_ ?_
        · intro hg35
          try simp only [decide_eq_true_eq, decide_eq_false_iff_not, Bool.not_eq_true', Bool.not_eq_false', Bool.and_eq_true, Bool.or_eq_false_iff] at hg35
          refine KD.op (R.move rfl rfl) rfl rfl rfl ?_
          refine KD.op (R.move rfl rfl) rfl rfl rfl ?_
          refine KD.op ((R.sub rfl rfl rfl (by dsimp only [InR]; omega)).val (congrArg (Value.int .i64) (show (m : Int) - 1 = ((m - 1 : Nat) : Int) by omega))) rfl rfl rfl ?_
          refine KD.op (R.index1 (j := m - 1) rfl Try.underlying22 sz5 rfl rfl hom rfl (by omega)) rfl rfl rfl ?_
          refine KD.op (R.load rfl Try.underlying5 rfl rfl (o0.cell hcw)) rfl rfl rfl ?_
          refine KD.op (R.neq rfl rfl rfl) rfl rfl rfl ?_
          refine KD.op (R.pick rfl rfl rfl) rfl rfl rfl ?_
          refine KD.op (R.move rfl rfl) rfl rfl rfl ?_
          refine KD.case (d := 43) rfl ?_ ?_
          · intro hg43
            try simp only [decide_eq_true_eq, decide_eq_false_iff_not, Bool.not_eq_true', Bool.not_eq_false', Bool.and_eq_true, Bool.or_eq_false_iff] at hg43
            refine KD.op (R.move rfl rfl) rfl rfl rfl ?_
            refine KD.op (R.move rfl rfl) rfl rfl rfl ?_
            refine KD.op (R.index1 (j := l.length - 1 - k) rfl Try.underlying22 sz5 rfl rfl hs (by omega) (by omega)) rfl rfl rfl ?_
            refine KD.op (R.load rfl Try.underlying5 rfl rfl (o0.cell hcx)) rfl rfl rfl ?_
            refine KD.op (R.neq rfl rfl rfl) rfl rfl rfl ?_
            refine KD.op (R.pick rfl rfl rfl) rfl rfl rfl ?_
            refine KD.nil ?_
            refine KQ.seq ?_
            refine KC.iteL rfl ?_ ?_
            · intro hc49
              try simp only [decide_eq_true_eq, decide_eq_false_iff_not, Bool.not_eq_true', Bool.not_eq_false', Bool.and_eq_true, Bool.or_eq_false_iff] at hc49
              refine KC.seq ?_
              refine KC.region ?_
              refine KL.op (R.assign rfl rfl) rfl rfl rfl ?_
              refine KL.op (R.assign rfl rfl) rfl rfl rfl ?_
              refine KL.nil ?_
              refine KQ.seq ?_
              refine KC.ret ?_
              refine KQ.retThen ?_
              refine KQ.retBlock ?_
              refine KQ.retThen ?_
              refine KQ.retThen ?_
              refine KQ.retBlock ?_
              refine KQ.retThen ?_
              refine KQ.ofRet ?_
              refine KQ.fin2 Try.results30 rfl rfl ?_
              first
                | exact ⟨fitV_some hrel, o0⟩
                | exact ⟨fitV_none (by rw [hrel, hm0, hdead]; rfl), o0⟩
                | exact ⟨fitV_none (by rw [hrel, hmm, fit_stop (by omega)]), o0⟩
            · intro hc49
              try simp only [decide_eq_true_eq, decide_eq_false_iff_not, Bool.not_eq_true', Bool.not_eq_false', Bool.and_eq_true, Bool.or_eq_false_iff] at hc49
              refine KC.skip ?_
              refine KQ.seq ?_
              refine KC.region ?_
              refine KL.op (R.move rfl rfl) rfl rfl rfl ?_
              refine KL.op (R.move rfl rfl) rfl rfl rfl ?_
              refine KL.op ((R.sub rfl rfl rfl (by dsimp only [InR]; omega)).val (congrArg (Value.int .i64) (show (m : Int) - 1 = ((m - 1 : Nat) : Int) by omega))) rfl rfl rfl ?_
              refine KL.op ((R.sliceToS (j := m - 1) rfl Try.underlying22 sz5 rfl rfl hom rfl (by omega)).val (toV_toV _ _ _)) rfl rfl rfl ?_
              refine KL.op (R.assign rfl rfl) rfl rfl rfl ?_
              refine KL.nil ?_
              refine KQ.normBlock ?_
              refine KQ.seq ?_
              refine KC.region ?_
              refine KL.op (R.move rfl rfl) rfl rfl rfl ?_
              refine KL.op ((R.sub rfl rfl rfl (by dsimp only [InR]; omega)).val (congrArg (Value.int .i64) (show (l.length : Int) - 1 - (k : Nat) - 1 = (l.length : Int) - 1 - (k + 1 : Nat) by omega))) rfl rfl rfl ?_
              refine KL.op (R.assign rfl rfl) rfl rfl rfl ?_
              refine KL.nil ?_
              refine KQ.again ((k + 1, m - 1)) ?_ ?_ ?_
              · exact (Sub.cons rfl (Sub.cons rfl (Ext.sub (by repeat (first | exact Ext.refl _ _ | refine Ext.put rfl ?_ | refine Ext.drop rfl ?_)))))
              · show l.length - (k + 1) < l.length - k; omega
              · exact ⟨by show k + 1 ≤ _; omega, by dsimp only; omega, by dsimp only; first | (rw [hrel, hm0, hdead]; rfl) | (rw [hrel, hmm, fit_cons (by omega), Nat.add_sub_cancel]), rfl⟩
          · intro hg43
            try simp only [decide_eq_true_eq, decide_eq_false_iff_not, Bool.not_eq_true', Bool.not_eq_false', Bool.and_eq_true, Bool.or_eq_false_iff] at hg43
            refine KD.skip rfl rfl rfl ?_
            refine KD.skip rfl rfl rfl ?_
            refine KD.skip rfl rfl rfl ?_
            refine KD.skip rfl rfl rfl ?_
            refine KD.skip rfl rfl rfl ?_
            refine KD.op (R.pick rfl rfl rfl) rfl rfl rfl ?_
            refine KD.nil ?_
            refine KQ.seq ?_
            refine KC.condF rfl ?_
            refine KC.skip ?_
            refine KQ.seq ?_
            refine KC.region ?_
            refine KL.op (R.move rfl rfl) rfl rfl rfl ?_
            refine KL.op (R.move rfl rfl) rfl rfl rfl ?_
            refine KL.op ((R.sub rfl rfl rfl (by dsimp only [InR]; omega)).val (congrArg (Value.int .i64) (show (m : Int) - 1 = ((m - 1 : Nat) : Int) by omega))) rfl rfl rfl ?_
            refine KL.op ((R.sliceToS (j := m - 1) rfl Try.underlying22 sz5 rfl rfl hom rfl (by omega)).val (toV_toV _ _ _)) rfl rfl rfl ?_
            refine KL.op (R.assign rfl rfl) rfl rfl rfl ?_
            refine KL.nil ?_
            refine KQ.normBlock ?_
            refine KQ.seq ?_
            refine KC.region ?_
            refine KL.op (R.move rfl rfl) rfl rfl rfl ?_
            refine KL.op ((R.sub rfl rfl rfl (by dsimp only [InR]; omega)).val (congrArg (Value.int .i64) (show (l.length : Int) - 1 - (k : Nat) - 1 = (l.length : Int) - 1 - (k + 1 : Nat) by omega))) rfl rfl rfl ?_
            refine KL.op (R.assign rfl rfl) rfl rfl rfl ?_
            refine KL.nil ?_
            refine KQ.again ((k + 1, m - 1)) ?_ ?_ ?_
            · exact (Sub.cons rfl (Sub.cons rfl (Ext.sub (by repeat (first | exact Ext.refl _ _ | refine Ext.put rfl ?_ | refine Ext.drop rfl ?_)))))
            · show l.length - (k + 1) < l.length - k; omega
            · exact ⟨by show k + 1 ≤ _; omega, by dsimp only; omega, by dsimp only; first | (rw [hrel, hm0, hdead]; rfl) | (rw [hrel, hmm, fit_cons (by omega), Nat.add_sub_cancel]), rfl⟩
        · intro hg35
          try simp only [decide_eq_true_eq, decide_eq_false_iff_not, Bool.not_eq_true', Bool.not_eq_false', Bool.and_eq_true, Bool.or_eq_false_iff] at hg35
          refine KD.skip rfl rfl rfl ?_
          refine KD.skip rfl rfl rfl ?_
          refine KD.skip rfl rfl rfl ?_
          refine KD.skip rfl rfl rfl ?_
          refine KD.skip rfl rfl rfl ?_
          refine KD.skip rfl rfl rfl ?_
          refine KD.op (R.pick rfl rfl rfl) rfl rfl rfl ?_
          refine KD.op (R.move rfl rfl) rfl rfl rfl ?_
          refine KD.skip rfl rfl rfl ?_
          refine KD.skip rfl rfl rfl ?_
          refine KD.skip rfl rfl rfl ?_
          refine KD.skip rfl rfl rfl ?_
          refine KD.skip rfl rfl rfl ?_
          refine KD.op (R.pick rfl rfl rfl) rfl rfl rfl ?_
          refine KD.nil ?_
          refine KQ.seq ?_
          refine KC.condF rfl ?_
          refine KC.skip ?_
          refine KQ.seq ?_
          refine KC.region ?_
          refine KL.op (R.move rfl rfl) rfl rfl rfl ?_
          refine KL.op (R.move rfl rfl) rfl rfl rfl ?_
          refine KL.op ((R.sub rfl rfl rfl (by dsimp only [InR]; omega)).val (congrArg (Value.int .i64) (show (m : Int) - 1 = ((m - 1 : Nat) : Int) by omega))) rfl rfl rfl ?_
          refine KL.op ((R.sliceToS (j := m - 1) rfl Try.underlying22 sz5 rfl rfl hom rfl (by omega)).val (toV_toV _ _ _)) rfl rfl rfl ?_
          refine KL.op (R.assign rfl rfl) rfl rfl rfl ?_
          refine KL.nil ?_
          refine KQ.normBlock ?_
          refine KQ.seq ?_
          refine KC.region ?_
          refine KL.op (R.move rfl rfl) rfl rfl rfl ?_
          refine KL.op ((R.sub rfl rfl rfl (by dsimp only [InR]; omega)).val (congrArg (Value.int .i64) (show (l.length : Int) - 1 - (k : Nat) - 1 = (l.length : Int) - 1 - (k + 1 : Nat) by omega))) rfl rfl rfl ?_
          refine KL.op (R.assign rfl rfl) rfl rfl rfl ?_
          refine KL.nil ?_
          refine KQ.again ((k + 1, m - 1)) ?_ ?_ ?_
          · exact (Sub.cons rfl (Sub.cons rfl (Ext.sub (by repeat (first | exact Ext.refl _ _ | refine Ext.put rfl ?_ | refine Ext.drop rfl ?_)))))
          · show l.length - (k + 1) < l.length - k; omega
          · exact ⟨by show k + 1 ≤ _; omega, by dsimp only; omega, by dsimp only; first | (rw [hrel, hm0, hdead]; rfl) | (rw [hrel, hmm, fit_cons (by omega), Nat.add_sub_cancel]), rfl⟩
    · intro hc15
      try simp only [decide_eq_true_eq, decide_eq_false_iff_not, Bool.not_eq_true', Bool.not_eq_false', Bool.and_eq_true, Bool.or_eq_false_iff] at hc15
      have hkl : k = l.length := by omega
      rw [List.drop_eq_nil_of_le (by rw [List.length_reverse]; omega)] at hrel
      refine KC.exit ?_
      refine KQ.exitThen ?_
      refine KQ.exitThen ?_
      refine KQ.hit ?_
      refine KQ.seq ?_
      refine KC.seq ?_
      refine KC.region ?_
      refine KL.op (R.move rfl rfl) rfl rfl rfl ?_
      refine KL.op (R.assign rfl rfl) rfl rfl rfl ?_
      refine KL.op (R.assign rfl rfl) rfl rfl rfl ?_
      refine KL.nil ?_
      refine KQ.seq ?_
      refine KC.ret ?_
      refine KQ.ofRet ?_
      refine KQ.fin2 Try.results30 rfl rfl ?_
      first
        | exact ⟨fitV_some hrel, o0⟩
        | exact ⟨fitV_none (by rw [hrel, hm0, hdead]; rfl), o0⟩
        | exact ⟨fitV_none (by rw [hrel, hmm, fit_stop (by omega)]), o0⟩

end Go.Proofs.Ytglopfbdnpbgeaa
