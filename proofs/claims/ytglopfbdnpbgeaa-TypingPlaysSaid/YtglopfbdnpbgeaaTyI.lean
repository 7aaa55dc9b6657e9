/- The document's Want, Close, Push. No condition but sizes. -/
import Derived.Test.YtglopfbdnpbgeaaTyH
namespace Go.Proofs.Ytglopfbdnpbgeaa
open Go Go.RowKit
set_option linter.unusedVariables false
set_option linter.unusedSimpArgs false
set_option linter.unnecessarySimpa false

theorem over_all {cs us : List Value} (h : us.length = cs.length) : cs.take 0 ++ us ++ cs.drop (0 + us.length) = us := by simp [h]
theorem DS.left_fit {s : DS} (h0 : s.fr ≠ []) (l : List Int) : s.left l = fitN s.top.dead s.top.own s.top.own.length l.reverse := by unfold DS.left; rw [if_neg h0]
theorem DS.add_all (s : DS) (l : List Int) : (s.add l).all = s.all ++ l := DS.push_all s l
theorem DS.add_len (s : DS) (l : List Int) : (s.add l).fr.length = s.fr.length := DS.push_len s l
theorem DS.add_no {s : DS} (h0 : s.fr = []) (l : List Int) : s.add l = { s with loose := s.loose ++ l } := by unfold DS.add; rw [if_pos h0]
theorem DS.add_yes {s : DS} (h0 : s.fr ≠ []) (l : List Int) : s.add l = s.put { s.top with own := s.top.own ++ l } := by unfold DS.add; rw [if_neg h0]
theorem DS.add_most (s : DS) (l : List Int) : (s.add l).most = s.most := by
  unfold DS.add
  split <;> rfl
theorem DS.push_hi {s : DS} {l : List Int} (h : s.most < s.all.length + l.length) : (s.push l).most = (s.add l).all.length := by rw [DS.push_most, DS.add_all, List.length_append]; omega
theorem DS.push_lo {s : DS} {l : List Int} (h : ¬ s.most < s.all.length + l.length) : (s.push l).most = s.most := by rw [DS.push_most]; omega

set_option maxRecDepth 100000 in
set_option maxHeartbeats 4000000 in
theorem RWant_0 {B : Nat} {X : Nat → Prop} {H : Heap} {g : Nat} {vL : Value} {s : DS} (h : RS B X H g vL s) {v : Value} {l : List Int} (hs : Sl 1 (EInt .u8) H v l) (h0 : s.fr = []) : Ct Try.prog 15 [.pointer (some ⟨g, 0, none⟩), v] H (fun u H' => u = .bool (s.want l).1 ∧ RS B X H' g vL (s.want l).2 ∧ StepO (MS g vL (.slice none 0 0)) (MS g vL (.slice none 0 0)) H H') := by
  refine Ct.mk Try.func15 rfl Try.ntmps15 rfl ?_
  intro W0 hW0
  have o0 : Old H H := Old.refl H
  obtain ⟨bg, hB, wL, ng, hX, hm, ha, hfl⟩ := id h
  have zg := blk_lt bg
  have hw := DS.want_no (DS.left_nil (l := l) h0)
  refine KC.seq ?_
  refine KC.region ?_
  refine KL.op (R.assign rfl rfl) rfl rfl rfl ?_
  refine KL.nil ?_
  refine KQ.seq ?_
  refine KC.seq ?_
  refine KC.region ?_
  refine KL.op (R.move rfl rfl) rfl rfl rfl ?_
  refine KL.op (R.nilCheck rfl rfl) rfl rfl rfl ?_
  refine KL.op ((by first | exact R.fieldAddr rfl Try.underlying46 rfl rfl sz44 rfl | exact R.fieldAddrP rfl Try.underlying46 rfl rfl sz44 rfl)) rfl rfl rfl ?_
  refine KL.op (R.load rfl Try.underlying44 rfl rfl (cell_of bg rfl)) rfl rfl rfl ?_
  refine KL.op (R.lenO rfl Try.underlying44 rfl wL) rfl rfl rfl ?_
  refine KL.op (R.assign rfl rfl) rfl rfl rfl ?_
  refine KL.nil ?_
  refine KQ.seq ?_
  refine KC.seq ?_
  refine KC.seq ?_
  refine KC.region ?_
  refine KL.op (R.move rfl rfl) rfl rfl rfl ?_
  refine KL.op ((R.eql rfl rfl rfl).val (congrArg Value.bool (decide_eq_true (by rw [h0]; rfl)))) rfl rfl rfl ?_
  refine KL.nil ?_
  refine KQ.seq ?_
  refine KC.condT rfl ?_
  refine KC.seq ?_
  refine KC.region ?_
  refine KL.op (R.assign rfl rfl) rfl rfl rfl ?_
  refine KL.nil ?_
  refine KQ.seq ?_
  refine KC.ret ?_
  refine KQ.retThen ?_
  refine KQ.ofRet ?_
  refine KQ.fin1 Try.results15 rfl ?_
  exact ⟨by rw [hw], by rw [hw]; exact h, StepO.refl _ _⟩

set_option maxRecDepth 100000 in
set_option maxHeartbeats 4000000 in
theorem RWant_no {B : Nat} {X : Nat → Prop} {H : Heap} {g : Nat} {vL : Value} {s : DS} (h : RS B X H g vL s) {v : Value} {l : List Int} (hs : Sl 1 (EInt .u8) H v l) (h0 : s.fr ≠ []) (hl : s.left l = none) : Ct Try.prog 15 [.pointer (some ⟨g, 0, none⟩), v] H (fun u H' => u = .bool (s.want l).1 ∧ RS B X H' g vL (s.want l).2 ∧ StepO (MS g vL (.slice none 0 0)) (MS g vL (.slice none 0 0)) H H') := by
  refine Ct.mk Try.func15 rfl Try.ntmps15 rfl ?_
  intro W0 hW0
  have o0 : Old H H := Old.refl H
  obtain ⟨bg, hB, wL, ng, hX, hm, ha, hfl⟩ := id h
  have zg := blk_lt bg
  have hn := List.length_pos_iff.2 h0
  obtain ⟨cs, hcl, hcx, hfp⟩ := wL.fpAt (by decide) (s.fr.length - 1) (by omega)
  have hfp : FP EDF H (MX (MS g vL (.slice none 0 0)) X) H cs s.top := hfp
  obtain ⟨lv, ev, ov, rfl, hlab, hend, hown, hlb, hle⟩ := hfp H (KeepP.refl _ _)
  obtain ⟨fpl, fpe, fpo⟩ := fp_old hfp
  have hall := congrArg List.length (DS.all_eq h0)
  rw [List.length_append] at hall
  have hvLn : vL ≠ .slice none 0 0 := fun e => by
    subst e
    obtain ⟨_, _, he, _⟩ := wL.val
    injection he with _ h2 _
    omega
  have hgv : MS g vL (.slice none 0 0) (vblock vL) := .inr (.inl ⟨hvLn, rfl⟩)
  have hgf : vblock vL ≠ g := ng _ ⟨hvLn, rfl⟩
  have hvs : vblock vL < H.size := (wL.lt.resolve_left hvLn).2
  have hw := DS.want_no hl
  refine KC.seq ?_
  refine KC.region ?_
  refine KL.op (R.assign rfl rfl) rfl rfl rfl ?_
  refine KL.nil ?_
  refine KQ.seq ?_
  refine KC.seq ?_
  refine KC.region ?_
  refine KL.op (R.move rfl rfl) rfl rfl rfl ?_
  refine KL.op (R.nilCheck rfl rfl) rfl rfl rfl ?_
  refine KL.op ((by first | exact R.fieldAddr rfl Try.underlying46 rfl rfl sz44 rfl | exact R.fieldAddrP rfl Try.underlying46 rfl rfl sz44 rfl)) rfl rfl rfl ?_
  refine KL.op (R.load rfl Try.underlying44 rfl rfl (cell_of bg rfl)) rfl rfl rfl ?_
  refine KL.op (R.lenO rfl Try.underlying44 rfl wL) rfl rfl rfl ?_
  refine KL.op (R.assign rfl rfl) rfl rfl rfl ?_
  refine KL.nil ?_
  refine KQ.seq ?_
  refine KC.seq ?_
  refine KC.seq ?_
  refine KC.region ?_
  refine KL.op (R.move rfl rfl) rfl rfl rfl ?_
  refine KL.op ((R.eql rfl rfl rfl).val (congrArg Value.bool (decide_eq_false (by omega)))) rfl rfl rfl ?_
  refine KL.nil ?_
  refine KQ.seq ?_
  refine KC.condF rfl ?_
  refine KC.skip ?_
  refine KQ.seq ?_
  refine KC.seq ?_
  refine KC.region ?_
  refine KL.op (R.move rfl rfl) rfl rfl rfl ?_
  refine KL.op (R.nilCheck rfl rfl) rfl rfl rfl ?_
  refine KL.op ((by first | exact R.fieldAddr rfl Try.underlying46 rfl rfl sz44 rfl | exact R.fieldAddrP rfl Try.underlying46 rfl rfl sz44 rfl)) rfl rfl rfl ?_
  refine KL.op (R.load rfl Try.underlying44 rfl rfl (cell_of bg rfl)) rfl rfl rfl ?_
  refine KL.op (R.move rfl rfl) rfl rfl rfl ?_
  refine KL.op ((R.sub rfl rfl rfl (by dsimp only [InR]; omega)).val (congrArg (Value.int .i64) (show (s.fr.length : Int) - 1 = ((s.fr.length - 1 : Nat) : Int) by omega))) rfl rfl rfl ?_
  refine KL.op (R.indexON (j := s.fr.length - 1) rfl Try.underlying44 sz54 rfl rfl wL (by omega) (by omega)) rfl rfl rfl ?_
  refine KL.op (R.loadAgg (cs := [lv, ev, ov, .bool s.top.dead]) rfl Try.underlying54 rfl sz54 rfl hcx rfl) rfl rfl rfl ?_
  refine KL.op (R.move rfl rfl) rfl rfl rfl ?_
  refine KL.call rfl rfl rfl rfl Try.call30 rfl rfl rfl (Fits_k hown hs) ?_
  rintro _ H1 ⟨hu, ox⟩
  rw [← fitV_none ((DS.left_fit h0 l).symm.trans hl)] at hu
  subst hu
  have zc_H1 := (ox).1
  have o0 := o0.trans ox
  have bg := (ox).blk bg
  have wL := wL.old ox
  refine KL.op (R.move rfl rfl) rfl rfl rfl ?_
  refine KL.op (R.extract rfl rfl rfl) rfl rfl rfl ?_
  refine KL.op (R.extract rfl rfl rfl) rfl rfl rfl ?_
  refine KL.op (R.assign rfl rfl) rfl rfl rfl ?_
  refine KL.op (R.assign rfl rfl) rfl rfl rfl ?_
  refine KL.nil ?_
  refine KQ.seq ?_
  refine KC.seq ?_
  refine KC.seq ?_
  refine KC.region ?_
  refine KL.op (R.move rfl rfl) rfl rfl rfl ?_
  refine KL.nil ?_
  refine KQ.seq ?_
  refine KC.condF rfl ?_
  refine KC.skip ?_
  refine KQ.seq ?_
  refine KC.seq ?_
  refine KC.region ?_
  refine KL.op (R.move rfl rfl) rfl rfl rfl ?_
  refine KL.op (R.assign rfl rfl) rfl rfl rfl ?_
  refine KL.nil ?_
  refine KQ.seq ?_
  refine KC.ret ?_
  refine KQ.ofRet ?_
  refine KQ.fin1 Try.results15 rfl ?_
  exact ⟨by rw [hw], by rw [hw]; exact h.old o0, StepO.ofOld o0⟩

set_option maxRecDepth 100000 in
set_option maxHeartbeats 4000000 in
theorem RWant_yes {B : Nat} {X : Nat → Prop} {H : Heap} {g : Nat} {vL : Value} {s : DS} (h : RS B X H g vL s) {v : Value} {l : List Int} (hs : Sl 1 (EInt .u8) H v l) {m : Nat} (h0 : s.fr ≠ []) (hl : s.left l = some m) : Ct Try.prog 15 [.pointer (some ⟨g, 0, none⟩), v] H (fun u H' => u = .bool (s.want l).1 ∧ RS B X H' g vL (s.want l).2 ∧ StepO (MS g vL (.slice none 0 0)) (MS g vL (.slice none 0 0)) H H') := by
  refine Ct.mk Try.func15 rfl Try.ntmps15 rfl ?_
  intro W0 hW0
  have o0 : OldB 0 H H := OldB.refl _ H
  obtain ⟨bg, hB, wL, ng, hX, hm, ha, hfl⟩ := id h
  have zg := blk_lt bg
  have hn := List.length_pos_iff.2 h0
  obtain ⟨cs, hcl, hcx, hfp⟩ := wL.fpAt (by decide) (s.fr.length - 1) (by omega)
  have hfp : FP EDF H (MX (MS g vL (.slice none 0 0)) X) H cs s.top := hfp
  obtain ⟨lv, ev, ov, rfl, hlab, hend, hown, hlb, hle⟩ := hfp H (KeepP.refl _ _)
  obtain ⟨fpl, fpe, fpo⟩ := fp_old hfp
  have hall := congrArg List.length (DS.all_eq h0)
  rw [List.length_append] at hall
  have hvLn : vL ≠ .slice none 0 0 := fun e => by
    subst e
    obtain ⟨_, _, he, _⟩ := wL.val
    injection he with _ h2 _
    omega
  have hgv : MS g vL (.slice none 0 0) (vblock vL) := .inr (.inl ⟨hvLn, rfl⟩)
  have hgf : vblock vL ≠ g := ng _ ⟨hvLn, rfl⟩
  have hvs : vblock vL < H.size := (wL.lt.resolve_left hvLn).2
  have hw := DS.want_yes hl
  have hml := (DS.left_le hl).2
  have st : StepO (MS g vL (.slice none 0 0)) (MS g vL (.slice none 0 0)) H H := StepO.refl _ _
  have hgg : MS g vL (.slice none 0 0) g := .inl rfl
  have hgl2 : vL = .slice none 0 0 ∨ vblock vL ≠ g := Classical.byCases .inl (fun e => .inr (fun e2 => ng _ ⟨e, rfl⟩ e2))
  have hgl : vL = .slice none 0 0 ∨ g ≠ vblock vL := hgl2.imp id Ne.symm
  have hvl : vL = .slice none 0 0 ∨ MS g vL (.slice none 0 0) (vblock vL) := Classical.byCases .inl (fun e => .inr (.inr (.inl ⟨e, rfl⟩)))
  refine KC.seq ?_
  refine KC.region ?_
  refine KL.op (R.assign rfl rfl) rfl rfl rfl ?_
  refine KL.nil ?_
  refine KQ.seq ?_
  refine KC.seq ?_
  refine KC.region ?_
  refine KL.op (R.move rfl rfl) rfl rfl rfl ?_
  refine KL.op (R.nilCheck rfl rfl) rfl rfl rfl ?_
  refine KL.op ((by first | exact R.fieldAddr rfl Try.underlying46 rfl rfl sz44 rfl | exact R.fieldAddrP rfl Try.underlying46 rfl rfl sz44 rfl)) rfl rfl rfl ?_
  refine KL.op (R.load rfl Try.underlying44 rfl rfl (cell_of bg rfl)) rfl rfl rfl ?_
  refine KL.op (R.lenO rfl Try.underlying44 rfl wL) rfl rfl rfl ?_
  refine KL.op (R.assign rfl rfl) rfl rfl rfl ?_
  refine KL.nil ?_
  refine KQ.seq ?_
  refine KC.seq ?_
  refine KC.seq ?_
  refine KC.region ?_
  refine KL.op (R.move rfl rfl) rfl rfl rfl ?_
  refine KL.op ((R.eql rfl rfl rfl).val (congrArg Value.bool (decide_eq_false (by omega)))) rfl rfl rfl ?_
  refine KL.nil ?_
  refine KQ.seq ?_
  refine KC.condF rfl ?_
  refine KC.skip ?_
  refine KQ.seq ?_
  refine KC.seq ?_
  refine KC.region ?_
  refine KL.op (R.move rfl rfl) rfl rfl rfl ?_
  refine KL.op (R.nilCheck rfl rfl) rfl rfl rfl ?_
  refine KL.op ((by first | exact R.fieldAddr rfl Try.underlying46 rfl rfl sz44 rfl | exact R.fieldAddrP rfl Try.underlying46 rfl rfl sz44 rfl)) rfl rfl rfl ?_
  refine KL.op (R.load rfl Try.underlying44 rfl rfl (cell_of bg rfl)) rfl rfl rfl ?_
  refine KL.op (R.move rfl rfl) rfl rfl rfl ?_
  refine KL.op ((R.sub rfl rfl rfl (by dsimp only [InR]; omega)).val (congrArg (Value.int .i64) (show (s.fr.length : Int) - 1 = ((s.fr.length - 1 : Nat) : Int) by omega))) rfl rfl rfl ?_
  refine KL.op (R.indexON (j := s.fr.length - 1) rfl Try.underlying44 sz54 rfl rfl wL (by omega) (by omega)) rfl rfl rfl ?_
  refine KL.op (R.loadAgg (cs := [lv, ev, ov, .bool s.top.dead]) rfl Try.underlying54 rfl sz54 rfl hcx rfl) rfl rfl rfl ?_
  refine KL.op (R.move rfl rfl) rfl rfl rfl ?_
  refine KL.call rfl rfl rfl rfl Try.call30 rfl rfl rfl (Fits_k hown hs) ?_
  rintro _ H1 ⟨hu, ox⟩
  rw [← fitV_some ((DS.left_fit h0 l).symm.trans hl)] at hu
  subst hu
  have zc_H1 := (ox).1
  have o0 := o0.trans ((ox).b (by omega))
  have bg := (ox).blk bg
  have wL := wL.old ox
  have st := st.old ox
  refine KL.op (R.move rfl rfl) rfl rfl rfl ?_
  refine KL.op (R.extract rfl rfl rfl) rfl rfl rfl ?_
  refine KL.op (R.extract rfl rfl rfl) rfl rfl rfl ?_
  refine KL.op (R.assign rfl rfl) rfl rfl rfl ?_
  refine KL.op (R.assign rfl rfl) rfl rfl rfl ?_
  refine KL.nil ?_
  refine KQ.seq ?_
  refine KC.seq ?_
  refine KC.seq ?_
  refine KC.region ?_
  refine KL.op (R.move rfl rfl) rfl rfl rfl ?_
  refine KL.nil ?_
  refine KQ.seq ?_
  refine KC.condT rfl ?_
  refine KC.region ?_
  refine KL.op (R.move rfl rfl) rfl rfl rfl ?_
  refine KL.op (R.nilCheck rfl rfl) rfl rfl rfl ?_
  refine KL.op ((by first | exact R.fieldAddr rfl Try.underlying46 rfl rfl sz44 rfl | exact R.fieldAddrP rfl Try.underlying46 rfl rfl sz44 rfl)) rfl rfl rfl ?_
  refine KL.op (R.load rfl Try.underlying44 rfl rfl (cell_of bg rfl)) rfl rfl rfl ?_
  refine KL.op (R.move rfl rfl) rfl rfl rfl ?_
  refine KL.op ((R.sub rfl rfl rfl (by dsimp only [InR]; omega)).val (congrArg (Value.int .i64) (show (s.fr.length : Int) - 1 = ((s.fr.length - 1 : Nat) : Int) by omega))) rfl rfl rfl ?_
  refine KL.op (R.move rfl rfl) rfl rfl rfl ?_
  refine KL.op (R.indexON (j := s.fr.length - 1) rfl Try.underlying44 sz54 rfl rfl wL (by omega) (by omega)) rfl rfl rfl ?_
  refine KL.op ((by first | exact R.fieldAddr rfl Try.underlying54 rfl rfl sz22 rfl | exact R.fieldAddrP rfl Try.underlying54 rfl rfl sz22 rfl)) rfl rfl rfl ?_
  refine KL.opS (S.ownC (j := s.fr.length - 1) (c := 2) rfl sz22 rfl rfl (hown.to (j := m) hml).cells1 (hown.to (j := m) hml).one wL (by omega) (by decide) (fun cs hc hf => df_own (fun Hq kq => (fpo Hq kq).to hml) cs hc hf)) rfl rfl ?_
  rintro H2 ⟨u2, w2⟩
  have o0 := o0.trans (OldB.upd u2 (by omega))
  have zu2 := u2.1
  have bg := ((u2).2 _ (by omega)).trans bg
  have st := (by first | exact st.upd u2 | exact st.updN u2 (by omega))
  have wL := w2
  refine KL.nil ?_
  refine KQ.seq ?_
  refine KC.seq ?_
  refine KC.region ?_
  refine KL.op (R.move rfl rfl) rfl rfl rfl ?_
  refine KL.op (R.assign rfl rfl) rfl rfl rfl ?_
  refine KL.nil ?_
  refine KQ.seq ?_
  refine KC.ret ?_
  refine KQ.ofRet ?_
  refine KQ.fin1 Try.results15 rfl ?_
  have h2 := h.set (s' := s.cut m) st (fun b hb => .inl hb) bg wL st (Nat.le_refl _) (fun b hb => .inl hb) hm (by rw [DS.cut_all h0, List.length_take]; omega) (by rw [DS.cut_len]; exact hfl)
  exact ⟨by rw [hw], by rw [hw]; exact h2.1, h2.2⟩

theorem RWant_k {B : Nat} {X : Nat → Prop} {H : Heap} {g : Nat} {vL : Value} {s : DS} (h : RS B X H g vL s) {v : Value} {l : List Int} (hs : Sl 1 (EInt .u8) H v l) : Ct Try.prog 15 [.pointer (some ⟨g, 0, none⟩), v] H (fun u H' => u = .bool (s.want l).1 ∧ RS B X H' g vL (s.want l).2 ∧ StepO (MS g vL (.slice none 0 0)) (MS g vL (.slice none 0 0)) H H') := by
  by_cases h0 : s.fr = []
  · exact RWant_0 h hs h0
  · cases hl : s.left l with
    | none => exact RWant_no h hs h0 hl
    | some m => exact RWant_yes h hs h0 hl

set_option maxRecDepth 100000 in
set_option maxHeartbeats 4000000 in
theorem RClose_0 {B : Nat} {X : Nat → Prop} {H : Heap} {g : Nat} {vL : Value} {s : DS} (h : RS B X H g vL s) (h0 : s.fr = []) : Ct Try.prog 19 [.pointer (some ⟨g, 0, none⟩)] H (fun u H' => ∃ ev vL', u = .tuple #[ev, .bool s.close.2.1] ∧ Sl 1 (EInt .u8) H' ev s.close.1 ∧ RS B X H' g vL' s.close.2.2 ∧ StepO (MS g vL (.slice none 0 0)) (MS g vL' (.slice none 0 0)) H H') := by
  refine Ct.mk Try.func19 rfl Try.ntmps19 rfl ?_
  intro W0 hW0
  have o0 : Old H H := Old.refl H
  obtain ⟨bg, hB, wL, ng, hX, hm, ha, hfl⟩ := id h
  have zg := blk_lt bg
  have hc2 : s.close = ([], false, s) := DS.close_no (by rw [DS.left_nil h0]; simp)
  refine KC.seq ?_
  refine KC.region ?_
  refine KL.op (R.assign rfl rfl) rfl rfl rfl ?_
  refine KL.op (R.assign rfl rfl) rfl rfl rfl ?_
  refine KL.nil ?_
  refine KQ.seq ?_
  refine KC.seq ?_
  refine KC.region ?_
  refine KL.op (R.move rfl rfl) rfl rfl rfl ?_
  refine KL.op (R.nilCheck rfl rfl) rfl rfl rfl ?_
  refine KL.op ((by first | exact R.fieldAddr rfl Try.underlying46 rfl rfl sz44 rfl | exact R.fieldAddrP rfl Try.underlying46 rfl rfl sz44 rfl)) rfl rfl rfl ?_
  refine KL.op (R.load rfl Try.underlying44 rfl rfl (cell_of bg rfl)) rfl rfl rfl ?_
  refine KL.op (R.lenO rfl Try.underlying44 rfl wL) rfl rfl rfl ?_
  refine KL.op (R.assign rfl rfl) rfl rfl rfl ?_
  refine KL.nil ?_
  refine KQ.seq ?_
  refine KC.seq ?_
  refine KC.seq ?_
  refine KC.region ?_
  refine KL.op (R.move rfl rfl) rfl rfl rfl ?_
  refine KL.op ((R.eql rfl rfl rfl).val (congrArg Value.bool (decide_eq_true (by rw [h0]; rfl)))) rfl rfl rfl ?_
  refine KL.nil ?_
  refine KQ.seq ?_
  refine KC.condT rfl ?_
  refine KC.seq ?_
  refine KC.region ?_
  refine KL.op (R.assign rfl rfl) rfl rfl rfl ?_
  refine KL.op (R.assign rfl rfl) rfl rfl rfl ?_
  refine KL.nil ?_
  refine KQ.seq ?_
  refine KC.ret ?_
  refine KQ.retThen ?_
  refine KQ.ofRet ?_
  refine KQ.fin2 Try.results19 rfl rfl ?_
  exact ⟨_, vL, by rw [hc2], by rw [hc2]; exact Sl.nil _ _ _, by rw [hc2]; exact h.old o0, StepO.ofOld o0⟩

set_option maxRecDepth 100000 in
set_option maxHeartbeats 4000000 in
theorem RClose_no {B : Nat} {X : Nat → Prop} {H : Heap} {g : Nat} {vL : Value} {s : DS} (h : RS B X H g vL s) (h0 : s.fr ≠ []) (hl : s.left s.top.ends = none) : Ct Try.prog 19 [.pointer (some ⟨g, 0, none⟩)] H (fun u H' => ∃ ev vL', u = .tuple #[ev, .bool s.close.2.1] ∧ Sl 1 (EInt .u8) H' ev s.close.1 ∧ RS B X H' g vL' s.close.2.2 ∧ StepO (MS g vL (.slice none 0 0)) (MS g vL' (.slice none 0 0)) H H') := by
  refine Ct.mk Try.func19 rfl Try.ntmps19 rfl ?_
  intro W0 hW0
  have o0 : Old H H := Old.refl H
  obtain ⟨bg, hB, wL, ng, hX, hm, ha, hfl⟩ := id h
  have zg := blk_lt bg
  have hn := List.length_pos_iff.2 h0
  obtain ⟨cs, hcl, hcx, hfp⟩ := wL.fpAt (by decide) (s.fr.length - 1) (by omega)
  have hfp : FP EDF H (MX (MS g vL (.slice none 0 0)) X) H cs s.top := hfp
  obtain ⟨lv, ev, ov, rfl, hlab, hend, hown, hlb, hle⟩ := hfp H (KeepP.refl _ _)
  obtain ⟨fpl, fpe, fpo⟩ := fp_old hfp
  have hall := congrArg List.length (DS.all_eq h0)
  rw [List.length_append] at hall
  have hvLn : vL ≠ .slice none 0 0 := fun e => by
    subst e
    obtain ⟨_, _, he, _⟩ := wL.val
    injection he with _ h2 _
    omega
  have hgv : MS g vL (.slice none 0 0) (vblock vL) := .inr (.inl ⟨hvLn, rfl⟩)
  have hgf : vblock vL ≠ g := ng _ ⟨hvLn, rfl⟩
  have hvs : vblock vL < H.size := (wL.lt.resolve_left hvLn).2
  have hc2 : s.close = ([], false, s) := DS.close_no (by rw [hl]; simp)
  refine KC.seq ?_
  refine KC.region ?_
  refine KL.op (R.assign rfl rfl) rfl rfl rfl ?_
  refine KL.op (R.assign rfl rfl) rfl rfl rfl ?_
  refine KL.nil ?_
  refine KQ.seq ?_
  refine KC.seq ?_
  refine KC.region ?_
  refine KL.op (R.move rfl rfl) rfl rfl rfl ?_
  refine KL.op (R.nilCheck rfl rfl) rfl rfl rfl ?_
  refine KL.op ((by first | exact R.fieldAddr rfl Try.underlying46 rfl rfl sz44 rfl | exact R.fieldAddrP rfl Try.underlying46 rfl rfl sz44 rfl)) rfl rfl rfl ?_
  refine KL.op (R.load rfl Try.underlying44 rfl rfl (cell_of bg rfl)) rfl rfl rfl ?_
  refine KL.op (R.lenO rfl Try.underlying44 rfl wL) rfl rfl rfl ?_
  refine KL.op (R.assign rfl rfl) rfl rfl rfl ?_
  refine KL.nil ?_
  refine KQ.seq ?_
  refine KC.seq ?_
  refine KC.seq ?_
  refine KC.region ?_
  refine KL.op (R.move rfl rfl) rfl rfl rfl ?_
  refine KL.op ((R.eql rfl rfl rfl).val (congrArg Value.bool (decide_eq_false (by omega)))) rfl rfl rfl ?_
  refine KL.nil ?_
  refine KQ.seq ?_
  refine KC.condF rfl ?_
  refine KC.skip ?_
  refine KQ.seq ?_
  refine KC.seq ?_
  refine KC.region ?_
  refine KL.op (R.move rfl rfl) rfl rfl rfl ?_
  refine KL.op (R.nilCheck rfl rfl) rfl rfl rfl ?_
  refine KL.op ((by first | exact R.fieldAddr rfl Try.underlying46 rfl rfl sz44 rfl | exact R.fieldAddrP rfl Try.underlying46 rfl rfl sz44 rfl)) rfl rfl rfl ?_
  refine KL.op (R.load rfl Try.underlying44 rfl rfl (cell_of bg rfl)) rfl rfl rfl ?_
  refine KL.op (R.move rfl rfl) rfl rfl rfl ?_
  refine KL.op ((R.sub rfl rfl rfl (by dsimp only [InR]; omega)).val (congrArg (Value.int .i64) (show (s.fr.length : Int) - 1 = ((s.fr.length - 1 : Nat) : Int) by omega))) rfl rfl rfl ?_
  refine KL.op (R.indexON (j := s.fr.length - 1) rfl Try.underlying44 sz54 rfl rfl wL (by omega) (by omega)) rfl rfl rfl ?_
  refine KL.op (R.loadAgg (cs := [lv, ev, ov, .bool s.top.dead]) rfl Try.underlying54 rfl sz54 rfl hcx rfl) rfl rfl rfl ?_
  refine KL.opM (M.alloc rfl zr54 rfl) rfl rfl rfl ?_
  rintro _ H1 ⟨rfl, n1⟩
  have z1 := n1.2.1
  have o0 := o0.trans n1.1
  have bg := (n1.1).blk bg
  have wL := wL.old n1.1
  have b1 := n1.2.2
  have bf := b1
  refine KL.opS (S.storeAgg (us := [lv, ev, ov, .bool s.top.dead]) rfl sz54 rfl rfl (rfl) (by intro u hu; simp only [List.mem_cons, List.not_mem_nil, or_false] at hu; rcases hu with rfl | rfl | rfl | rfl <;> first | exact hlab.one | exact hend.one | exact hown.one | rfl) bf (by simp)) rfl rfl ?_
  rintro H2 ⟨u2, b2⟩
  have o0 := o0.upd u2 (by omega)
  have zu2 := u2.1
  have bg := ((u2).2 _ (by omega)).trans bg
  have wL := wL.upd u2 (by first | exact .inl rfl | exact .inr (by omega) | exact wL.lt.imp id (fun h => by omega))
  have bf := b2
  rw [over_all (by rfl)] at bf
  refine KL.nil ?_
  refine KQ.seq ?_
  refine KC.seq ?_
  refine KC.region ?_
  refine KL.op (R.loadAgg (cs := [lv, ev, ov, .bool s.top.dead]) rfl Try.underlying54 rfl sz54 rfl (cells_of bf) rfl) rfl rfl rfl ?_
  refine KL.op ((by first | exact R.fieldAddr rfl Try.underlying54 rfl rfl sz22 rfl | exact R.fieldAddrP rfl Try.underlying54 rfl rfl sz22 rfl)) rfl rfl rfl ?_
  refine KL.op (R.load rfl Try.underlying22 rfl rfl (cell_of bf rfl)) rfl rfl rfl ?_
  refine KL.call rfl rfl rfl rfl Try.call30 rfl rfl rfl (Fits_k (hown.old o0) (hend.old o0)) ?_
  rintro _ H3 ⟨hu, ox⟩
  rw [← fitV_none ((DS.left_fit h0 _).symm.trans hl)] at hu
  subst hu
  have zc_H3 := (ox).1
  have o0 := o0.trans ox
  have bg := (ox).blk bg
  have wL := wL.old ox
  have bf := (ox).blk bf
  refine KL.op (R.move rfl rfl) rfl rfl rfl ?_
  refine KL.op (R.extract rfl rfl rfl) rfl rfl rfl ?_
  refine KL.op (R.extract rfl rfl rfl) rfl rfl rfl ?_
  refine KL.op (R.assign rfl rfl) rfl rfl rfl ?_
  refine KL.op (R.assign rfl rfl) rfl rfl rfl ?_
  refine KL.nil ?_
  refine KQ.seq ?_
  refine KC.seq ?_
  refine KC.seq ?_
  refine KC.region ?_
  refine KL.op (R.move rfl rfl) rfl rfl rfl ?_
  refine KL.op (R.not rfl rfl) rfl rfl rfl ?_
  refine KL.op (R.move rfl rfl) rfl rfl rfl ?_
  refine KL.skip rfl rfl rfl ?_
  refine KL.skip rfl rfl rfl ?_
  refine KL.skip rfl rfl rfl ?_
  refine KL.op (R.pick rfl rfl rfl) rfl rfl rfl ?_
  refine KL.nil ?_
  refine KQ.seq ?_
  refine KC.condT rfl ?_
  refine KC.seq ?_
  refine KC.region ?_
  refine KL.op (R.assign rfl rfl) rfl rfl rfl ?_
  refine KL.op (R.assign rfl rfl) rfl rfl rfl ?_
  refine KL.nil ?_
  refine KQ.seq ?_
  refine KC.ret ?_
  refine KQ.retThen ?_
  refine KQ.ofRet ?_
  refine KQ.fin2 Try.results19 rfl rfl ?_
  exact ⟨_, vL, by rw [hc2], by rw [hc2]; exact Sl.nil _ _ _, by rw [hc2]; exact h.old o0, StepO.ofOld o0⟩

set_option maxRecDepth 100000 in
set_option maxHeartbeats 4000000 in
theorem RClose_more {B : Nat} {X : Nat → Prop} {H : Heap} {g : Nat} {vL : Value} {s : DS} (h : RS B X H g vL s) {m : Nat} (h0 : s.fr ≠ []) (hl : s.left s.top.ends = some m) (hm0 : 0 < m) : Ct Try.prog 19 [.pointer (some ⟨g, 0, none⟩)] H (fun u H' => ∃ ev vL', u = .tuple #[ev, .bool s.close.2.1] ∧ Sl 1 (EInt .u8) H' ev s.close.1 ∧ RS B X H' g vL' s.close.2.2 ∧ StepO (MS g vL (.slice none 0 0)) (MS g vL' (.slice none 0 0)) H H') := by
  refine Ct.mk Try.func19 rfl Try.ntmps19 rfl ?_
  intro W0 hW0
  have o0 : Old H H := Old.refl H
  obtain ⟨bg, hB, wL, ng, hX, hm, ha, hfl⟩ := id h
  have zg := blk_lt bg
  have hn := List.length_pos_iff.2 h0
  obtain ⟨cs, hcl, hcx, hfp⟩ := wL.fpAt (by decide) (s.fr.length - 1) (by omega)
  have hfp : FP EDF H (MX (MS g vL (.slice none 0 0)) X) H cs s.top := hfp
  obtain ⟨lv, ev, ov, rfl, hlab, hend, hown, hlb, hle⟩ := hfp H (KeepP.refl _ _)
  obtain ⟨fpl, fpe, fpo⟩ := fp_old hfp
  have hall := congrArg List.length (DS.all_eq h0)
  rw [List.length_append] at hall
  have hvLn : vL ≠ .slice none 0 0 := fun e => by
    subst e
    obtain ⟨_, _, he, _⟩ := wL.val
    injection he with _ h2 _
    omega
  have hgv : MS g vL (.slice none 0 0) (vblock vL) := .inr (.inl ⟨hvLn, rfl⟩)
  have hgf : vblock vL ≠ g := ng _ ⟨hvLn, rfl⟩
  have hvs : vblock vL < H.size := (wL.lt.resolve_left hvLn).2
  have hml := (DS.left_le hl).2
  have hc2 : s.close = ([], false, s) := DS.close_no (by rw [hl]; intro e; injection e with e; omega)
  refine KC.seq ?_
  refine KC.region ?_
  refine KL.op (R.assign rfl rfl) rfl rfl rfl ?_
  refine KL.op (R.assign rfl rfl) rfl rfl rfl ?_
  refine KL.nil ?_
  refine KQ.seq ?_
  refine KC.seq ?_
  refine KC.region ?_
  refine KL.op (R.move rfl rfl) rfl rfl rfl ?_
  refine KL.op (R.nilCheck rfl rfl) rfl rfl rfl ?_
  refine KL.op ((by first | exact R.fieldAddr rfl Try.underlying46 rfl rfl sz44 rfl | exact R.fieldAddrP rfl Try.underlying46 rfl rfl sz44 rfl)) rfl rfl rfl ?_
  refine KL.op (R.load rfl Try.underlying44 rfl rfl (cell_of bg rfl)) rfl rfl rfl ?_
  refine KL.op (R.lenO rfl Try.underlying44 rfl wL) rfl rfl rfl ?_
  refine KL.op (R.assign rfl rfl) rfl rfl rfl ?_
  refine KL.nil ?_
  refine KQ.seq ?_
  refine KC.seq ?_
  refine KC.seq ?_
  refine KC.region ?_
  refine KL.op (R.move rfl rfl) rfl rfl rfl ?_
  refine KL.op ((R.eql rfl rfl rfl).val (congrArg Value.bool (decide_eq_false (by omega)))) rfl rfl rfl ?_
  refine KL.nil ?_
  refine KQ.seq ?_
  refine KC.condF rfl ?_
  refine KC.skip ?_
  refine KQ.seq ?_
  refine KC.seq ?_
  refine KC.region ?_
  refine KL.op (R.move rfl rfl) rfl rfl rfl ?_
  refine KL.op (R.nilCheck rfl rfl) rfl rfl rfl ?_
  refine KL.op ((by first | exact R.fieldAddr rfl Try.underlying46 rfl rfl sz44 rfl | exact R.fieldAddrP rfl Try.underlying46 rfl rfl sz44 rfl)) rfl rfl rfl ?_
  refine KL.op (R.load rfl Try.underlying44 rfl rfl (cell_of bg rfl)) rfl rfl rfl ?_
  refine KL.op (R.move rfl rfl) rfl rfl rfl ?_
  refine KL.op ((R.sub rfl rfl rfl (by dsimp only [InR]; omega)).val (congrArg (Value.int .i64) (show (s.fr.length : Int) - 1 = ((s.fr.length - 1 : Nat) : Int) by omega))) rfl rfl rfl ?_
  refine KL.op (R.indexON (j := s.fr.length - 1) rfl Try.underlying44 sz54 rfl rfl wL (by omega) (by omega)) rfl rfl rfl ?_
  refine KL.op (R.loadAgg (cs := [lv, ev, ov, .bool s.top.dead]) rfl Try.underlying54 rfl sz54 rfl hcx rfl) rfl rfl rfl ?_
  refine KL.opM (M.alloc rfl zr54 rfl) rfl rfl rfl ?_
  rintro _ H1 ⟨rfl, n1⟩
  have z1 := n1.2.1
  have o0 := o0.trans n1.1
  have bg := (n1.1).blk bg
  have wL := wL.old n1.1
  have b1 := n1.2.2
  have bf := b1
  refine KL.opS (S.storeAgg (us := [lv, ev, ov, .bool s.top.dead]) rfl sz54 rfl rfl (rfl) (by intro u hu; simp only [List.mem_cons, List.not_mem_nil, or_false] at hu; rcases hu with rfl | rfl | rfl | rfl <;> first | exact hlab.one | exact hend.one | exact hown.one | rfl) bf (by simp)) rfl rfl ?_
  rintro H2 ⟨u2, b2⟩
  have o0 := o0.upd u2 (by omega)
  have zu2 := u2.1
  have bg := ((u2).2 _ (by omega)).trans bg
  have wL := wL.upd u2 (by first | exact .inl rfl | exact .inr (by omega) | exact wL.lt.imp id (fun h => by omega))
  have bf := b2
  rw [over_all (by rfl)] at bf
  refine KL.nil ?_
  refine KQ.seq ?_
  refine KC.seq ?_
  refine KC.region ?_
  refine KL.op (R.loadAgg (cs := [lv, ev, ov, .bool s.top.dead]) rfl Try.underlying54 rfl sz54 rfl (cells_of bf) rfl) rfl rfl rfl ?_
  refine KL.op ((by first | exact R.fieldAddr rfl Try.underlying54 rfl rfl sz22 rfl | exact R.fieldAddrP rfl Try.underlying54 rfl rfl sz22 rfl)) rfl rfl rfl ?_
  refine KL.op (R.load rfl Try.underlying22 rfl rfl (cell_of bf rfl)) rfl rfl rfl ?_
  refine KL.call rfl rfl rfl rfl Try.call30 rfl rfl rfl (Fits_k (hown.old o0) (hend.old o0)) ?_
  rintro _ H3 ⟨hu, ox⟩
  rw [← fitV_some ((DS.left_fit h0 _).symm.trans hl)] at hu
  subst hu
  have zc_H3 := (ox).1
  have o0 := o0.trans ox
  have bg := (ox).blk bg
  have wL := wL.old ox
  have bf := (ox).blk bf
  refine KL.op (R.move rfl rfl) rfl rfl rfl ?_
  refine KL.op (R.extract rfl rfl rfl) rfl rfl rfl ?_
  refine KL.op (R.extract rfl rfl rfl) rfl rfl rfl ?_
  refine KL.op (R.assign rfl rfl) rfl rfl rfl ?_
  refine KL.op (R.assign rfl rfl) rfl rfl rfl ?_
  refine KL.nil ?_
  refine KQ.seq ?_
  refine KC.seq ?_
  refine KC.seq ?_
  refine KC.region ?_
  refine KL.op (R.move rfl rfl) rfl rfl rfl ?_
  refine KL.op (R.not rfl rfl) rfl rfl rfl ?_
  refine KL.op (R.move rfl rfl) rfl rfl rfl ?_
  refine KL.op (R.move rfl rfl) rfl rfl rfl ?_
  refine KL.op ((R.lenS rfl Try.underlying22 rfl (hown.to (j := m) hml)).val (congrArg (fun n : Nat => Value.int .i64 n) (show (s.top.own.take m).length = m by rw [List.length_take]; omega))) rfl rfl rfl ?_
  refine KL.op ((R.gtr rfl rfl rfl).val (congrArg Value.bool (decide_eq_true (by omega)))) rfl rfl rfl ?_
  refine KL.op (R.pick rfl rfl rfl) rfl rfl rfl ?_
  refine KL.nil ?_
  refine KQ.seq ?_
  refine KC.condT rfl ?_
  refine KC.seq ?_
  refine KC.region ?_
  refine KL.op (R.assign rfl rfl) rfl rfl rfl ?_
  refine KL.op (R.assign rfl rfl) rfl rfl rfl ?_
  refine KL.nil ?_
  refine KQ.seq ?_
  refine KC.ret ?_
  refine KQ.retThen ?_
  refine KQ.ofRet ?_
  refine KQ.fin2 Try.results19 rfl rfl ?_
  exact ⟨_, vL, by rw [hc2], by rw [hc2]; exact Sl.nil _ _ _, by rw [hc2]; exact h.old o0, StepO.ofOld o0⟩

set_option maxRecDepth 100000 in
set_option maxHeartbeats 4000000 in
theorem RClose_yes {B : Nat} {X : Nat → Prop} {H : Heap} {g : Nat} {vL : Value} {s : DS} (h : RS B X H g vL s) (h0 : s.fr ≠ []) (hl : s.left s.top.ends = some 0) : Ct Try.prog 19 [.pointer (some ⟨g, 0, none⟩)] H (fun u H' => ∃ ev vL', u = .tuple #[ev, .bool s.close.2.1] ∧ Sl 1 (EInt .u8) H' ev s.close.1 ∧ RS B X H' g vL' s.close.2.2 ∧ StepO (MS g vL (.slice none 0 0)) (MS g vL' (.slice none 0 0)) H H') := by
  refine Ct.mk Try.func19 rfl Try.ntmps19 rfl ?_
  intro W0 hW0
  have o0 : OldB 0 H H := OldB.refl _ H
  obtain ⟨bg, hB, wL, ng, hX, hm, ha, hfl⟩ := id h
  have zg := blk_lt bg
  have hn := List.length_pos_iff.2 h0
  obtain ⟨cs, hcl, hcx, hfp⟩ := wL.fpAt (by decide) (s.fr.length - 1) (by omega)
  have hfp : FP EDF H (MX (MS g vL (.slice none 0 0)) X) H cs s.top := hfp
  obtain ⟨lv, ev, ov, rfl, hlab, hend, hown, hlb, hle⟩ := hfp H (KeepP.refl _ _)
  obtain ⟨fpl, fpe, fpo⟩ := fp_old hfp
  have hall := congrArg List.length (DS.all_eq h0)
  rw [List.length_append] at hall
  have hvLn : vL ≠ .slice none 0 0 := fun e => by
    subst e
    obtain ⟨_, _, he, _⟩ := wL.val
    injection he with _ h2 _
    omega
  have hgv : MS g vL (.slice none 0 0) (vblock vL) := .inr (.inl ⟨hvLn, rfl⟩)
  have hgf : vblock vL ≠ g := ng _ ⟨hvLn, rfl⟩
  have hvs : vblock vL < H.size := (wL.lt.resolve_left hvLn).2
  have oq : Old H H := Old.refl _
  have hc2 := DS.close_yes hl
  have st : StepO (MS g vL (.slice none 0 0)) (MS g vL (.slice none 0 0)) H H := StepO.refl _ _
  have hgg : MS g vL (.slice none 0 0) g := .inl rfl
  have hgl2 : vL = .slice none 0 0 ∨ vblock vL ≠ g := Classical.byCases .inl (fun e => .inr (fun e2 => ng _ ⟨e, rfl⟩ e2))
  have hgl : vL = .slice none 0 0 ∨ g ≠ vblock vL := hgl2.imp id Ne.symm
  have hvl : vL = .slice none 0 0 ∨ MS g vL (.slice none 0 0) (vblock vL) := Classical.byCases .inl (fun e => .inr (.inr (.inl ⟨e, rfl⟩)))
  refine KC.seq ?_
  refine KC.region ?_
  refine KL.op (R.assign rfl rfl) rfl rfl rfl ?_
  refine KL.op (R.assign rfl rfl) rfl rfl rfl ?_
  refine KL.nil ?_
  refine KQ.seq ?_
  refine KC.seq ?_
  refine KC.region ?_
  refine KL.op (R.move rfl rfl) rfl rfl rfl ?_
  refine KL.op (R.nilCheck rfl rfl) rfl rfl rfl ?_
  refine KL.op ((by first | exact R.fieldAddr rfl Try.underlying46 rfl rfl sz44 rfl | exact R.fieldAddrP rfl Try.underlying46 rfl rfl sz44 rfl)) rfl rfl rfl ?_
  refine KL.op (R.load rfl Try.underlying44 rfl rfl (cell_of bg rfl)) rfl rfl rfl ?_
  refine KL.op (R.lenO rfl Try.underlying44 rfl wL) rfl rfl rfl ?_
  refine KL.op (R.assign rfl rfl) rfl rfl rfl ?_
  refine KL.nil ?_
  refine KQ.seq ?_
  refine KC.seq ?_
  refine KC.seq ?_
  refine KC.region ?_
  refine KL.op (R.move rfl rfl) rfl rfl rfl ?_
  refine KL.op ((R.eql rfl rfl rfl).val (congrArg Value.bool (decide_eq_false (by omega)))) rfl rfl rfl ?_
  refine KL.nil ?_
  refine KQ.seq ?_
  refine KC.condF rfl ?_
  refine KC.skip ?_
  refine KQ.seq ?_
  refine KC.seq ?_
  refine KC.region ?_
  refine KL.op (R.move rfl rfl) rfl rfl rfl ?_
  refine KL.op (R.nilCheck rfl rfl) rfl rfl rfl ?_
  refine KL.op ((by first | exact R.fieldAddr rfl Try.underlying46 rfl rfl sz44 rfl | exact R.fieldAddrP rfl Try.underlying46 rfl rfl sz44 rfl)) rfl rfl rfl ?_
  refine KL.op (R.load rfl Try.underlying44 rfl rfl (cell_of bg rfl)) rfl rfl rfl ?_
  refine KL.op (R.move rfl rfl) rfl rfl rfl ?_
  refine KL.op ((R.sub rfl rfl rfl (by dsimp only [InR]; omega)).val (congrArg (Value.int .i64) (show (s.fr.length : Int) - 1 = ((s.fr.length - 1 : Nat) : Int) by omega))) rfl rfl rfl ?_
  refine KL.op (R.indexON (j := s.fr.length - 1) rfl Try.underlying44 sz54 rfl rfl wL (by omega) (by omega)) rfl rfl rfl ?_
  refine KL.op (R.loadAgg (cs := [lv, ev, ov, .bool s.top.dead]) rfl Try.underlying54 rfl sz54 rfl hcx rfl) rfl rfl rfl ?_
  refine KL.opM (M.alloc rfl zr54 rfl) rfl rfl rfl ?_
  rintro _ H1 ⟨rfl, n1⟩
  have z1 := n1.2.1
  have o0 := o0.trans ((n1.1).b (by omega))
  have bg := (n1.1).blk bg
  have wL := wL.old n1.1
  have st := st.old n1.1
  have oq := oq.trans n1.1
  have b1 := n1.2.2
  have bf := b1
  refine KL.opS (S.storeAgg (us := [lv, ev, ov, .bool s.top.dead]) rfl sz54 rfl rfl (rfl) (by intro u hu; simp only [List.mem_cons, List.not_mem_nil, or_false] at hu; rcases hu with rfl | rfl | rfl | rfl <;> first | exact hlab.one | exact hend.one | exact hown.one | rfl) bf (by simp)) rfl rfl ?_
  rintro H2 ⟨u2, b2⟩
  have o0 := o0.trans (OldB.upd u2 (by omega))
  have zu2 := u2.1
  have bg := ((u2).2 _ (by omega)).trans bg
  have wL := wL.upd u2 (by first | exact .inl rfl | exact .inr (by omega) | exact hgl2 | exact hbf | exact wL.lt.imp id (fun h => by omega))
  have st := (by first | exact st.upd u2 | exact st.updN u2 (by omega))
  have oq := oq.upd u2 (by omega)
  have bf := b2
  rw [over_all (by rfl)] at bf
  refine KL.nil ?_
  refine KQ.seq ?_
  refine KC.seq ?_
  refine KC.region ?_
  refine KL.op (R.loadAgg (cs := [lv, ev, ov, .bool s.top.dead]) rfl Try.underlying54 rfl sz54 rfl (cells_of bf) rfl) rfl rfl rfl ?_
  refine KL.op ((by first | exact R.fieldAddr rfl Try.underlying54 rfl rfl sz22 rfl | exact R.fieldAddrP rfl Try.underlying54 rfl rfl sz22 rfl)) rfl rfl rfl ?_
  refine KL.op (R.load rfl Try.underlying22 rfl rfl (cell_of bf rfl)) rfl rfl rfl ?_
  refine KL.call rfl rfl rfl rfl Try.call30 rfl rfl rfl (Fits_k (hown.old oq) (hend.old oq)) ?_
  rintro _ H3 ⟨hu, ox⟩
  rw [← fitV_some ((DS.left_fit h0 _).symm.trans hl)] at hu
  subst hu
  have zc_H3 := (ox).1
  have o0 := o0.trans ((ox).b (by omega))
  have bg := (ox).blk bg
  have wL := wL.old ox
  have st := st.old ox
  have oq := oq.trans ox
  have bf := (ox).blk bf
  refine KL.op (R.move rfl rfl) rfl rfl rfl ?_
  refine KL.op (R.extract rfl rfl rfl) rfl rfl rfl ?_
  refine KL.op (R.extract rfl rfl rfl) rfl rfl rfl ?_
  refine KL.op (R.assign rfl rfl) rfl rfl rfl ?_
  refine KL.op (R.assign rfl rfl) rfl rfl rfl ?_
  refine KL.nil ?_
  refine KQ.seq ?_
  refine KC.seq ?_
  refine KC.seq ?_
  refine KC.region ?_
  refine KL.op (R.move rfl rfl) rfl rfl rfl ?_
  refine KL.op (R.not rfl rfl) rfl rfl rfl ?_
  refine KL.op (R.move rfl rfl) rfl rfl rfl ?_
  refine KL.op (R.move rfl rfl) rfl rfl rfl ?_
  refine KL.op ((R.lenS rfl Try.underlying22 rfl (hown.to (j := 0) (by omega))).val (congrArg (fun n : Nat => Value.int .i64 n) (show (s.top.own.take 0).length = 0 by rfl))) rfl rfl rfl ?_
  refine KL.op ((R.gtr rfl rfl rfl).val (congrArg Value.bool (decide_eq_false (by omega)))) rfl rfl rfl ?_
  refine KL.op (R.pick rfl rfl rfl) rfl rfl rfl ?_
  refine KL.nil ?_
  refine KQ.seq ?_
  refine KC.condF rfl ?_
  refine KC.skip ?_
  refine KQ.seq ?_
  refine KC.seq ?_
  refine KC.region ?_
  refine KL.op (R.move rfl rfl) rfl rfl rfl ?_
  refine KL.op (R.move rfl rfl) rfl rfl rfl ?_
  refine KL.op (R.nilCheck rfl rfl) rfl rfl rfl ?_
  refine KL.op ((by first | exact R.fieldAddr rfl Try.underlying46 rfl rfl sz44 rfl | exact R.fieldAddrP rfl Try.underlying46 rfl rfl sz44 rfl)) rfl rfl rfl ?_
  refine KL.op (R.load rfl Try.underlying44 rfl rfl (cell_of bg rfl)) rfl rfl rfl ?_
  refine KL.op (R.move rfl rfl) rfl rfl rfl ?_
  refine KL.op ((R.sub rfl rfl rfl (by dsimp only [InR]; omega)).val (congrArg (Value.int .i64) (show (s.fr.length : Int) - 1 = ((s.fr.length - 1 : Nat) : Int) by omega))) rfl rfl rfl ?_
  refine KL.op (R.sliceTo (j := s.fr.length - 1) rfl Try.underlying44 sz54 rfl rfl wL (by omega) (by omega)) rfl rfl rfl ?_
  refine KL.op (R.nilCheck rfl rfl) rfl rfl rfl ?_
  refine KL.op ((by first | exact R.fieldAddr rfl Try.underlying46 rfl rfl sz44 rfl | exact R.fieldAddrP rfl Try.underlying46 rfl rfl sz44 rfl)) rfl rfl rfl ?_
  refine KL.opS (S.store rfl sz44 rfl rfl (wL.to (j := s.fr.length - 1) (by omega)).1.cells1 (wL.to (j := s.fr.length - 1) (by omega)).1.one bg (by simp)) rfl rfl ?_
  rintro H4 ⟨u4, b4⟩
  have o0 := o0.trans (OldB.upd u4 (by omega))
  have zu4 := u4.1
  have wL := wL.upd u4 (by first | exact .inl rfl | exact .inr (by omega) | exact hgl2 | exact hbf | exact wL.lt.imp id (fun h => by omega))
  have st := (by first | exact st.upd u4 | exact st.updN u4 (by omega))
  have bf := ((u4).2 _ (by omega)).trans bf
  have bg := b4
  refine KL.nil ?_
  refine KQ.seq ?_
  refine KC.seq ?_
  refine KC.region ?_
  refine KL.op ((by first | exact R.fieldAddr rfl Try.underlying54 rfl rfl sz22 rfl | exact R.fieldAddrP rfl Try.underlying54 rfl rfl sz22 rfl)) rfl rfl rfl ?_
  refine KL.op (R.load rfl Try.underlying22 rfl rfl (cell_of bf rfl)) rfl rfl rfl ?_
  refine KL.op (R.assign rfl rfl) rfl rfl rfl ?_
  refine KL.op (R.assign rfl rfl) rfl rfl rfl ?_
  refine KL.nil ?_
  refine KQ.seq ?_
  refine KC.ret ?_
  refine KQ.ofRet ?_
  refine KQ.fin2 Try.results19 rfl rfl ?_
  have hofl : ∀ b, Of (toV vL (s.fr.length - 1)) b → Of vL b := fun b hb => h.wL.ofTo (by omega) hb
  have h2 := h.set (s' := s.less) st (fun b hb => .inl (hofl b hb)) bg (wL.to (j := s.fr.length - 1) (by omega)).1 st (Nat.le_refl _) (fun b hb => .inl (hofl b hb)) hm (by rw [DS.less_all h0, List.length_take]; omega) (by show (s.fr.take _).length ≤ _; rw [List.length_take]; omega)
  exact ⟨ev, _, by rw [hc2], by rw [hc2]; exact fpe _ ⟨st.1, fun b hb hn => st.2.1 b hb (fun hh => hn (.inl hh))⟩, by rw [hc2]; exact h2.1, h2.2⟩

theorem RClose_k {B : Nat} {X : Nat → Prop} {H : Heap} {g : Nat} {vL : Value} {s : DS} (h : RS B X H g vL s) : Ct Try.prog 19 [.pointer (some ⟨g, 0, none⟩)] H (fun u H' => ∃ ev vL', u = .tuple #[ev, .bool s.close.2.1] ∧ Sl 1 (EInt .u8) H' ev s.close.1 ∧ RS B X H' g vL' s.close.2.2 ∧ StepO (MS g vL (.slice none 0 0)) (MS g vL' (.slice none 0 0)) H H') := by
  by_cases h0 : s.fr = []
  · exact RClose_0 h h0
  · cases hl : s.left s.top.ends with
    | none => exact RClose_no h h0 hl
    | some m =>
      cases m with
      | zero => exact RClose_yes h h0 hl
      | succ m => exact RClose_more h h0 hl (by omega)

set_option maxRecDepth 100000 in
set_option maxHeartbeats 4000000 in
theorem RPush_no {B : Nat} {X : Nat → Prop} {H : Heap} {g : Nat} {vL : Value} {s : DS} (h : RS B X H g vL s) {v : Value} {l : List Int} (hs : Sl 1 (EInt .u8) H v l) (h0 : s.fr = []) (hl : s.all.length + l.length ≤ 1000000) : Ct Try.prog 11 [.pointer (some ⟨g, 0, none⟩), v] H (fun _ H' => RS B X H' g vL (s.push l) ∧ StepO (MS g vL (.slice none 0 0)) (MS g vL (.slice none 0 0)) H H') := by
  refine Ct.mk Try.func11 rfl Try.ntmps11 rfl ?_
  intro W0 hW0
  have o0 : OldB 0 H H := OldB.refl _ H
  obtain ⟨bg, hB, wL, ng, hX, hm, ha, hfl⟩ := id h
  have zg := blk_lt bg
  have hal0 := DS.all_nil h0
  rw [hal0] at ha
  have st : StepO (MS g vL (.slice none 0 0)) (MS g vL (.slice none 0 0)) H H := StepO.refl _ _
  have hgg : MS g vL (.slice none 0 0) g := .inl rfl
  have hgl2 : vL = .slice none 0 0 ∨ vblock vL ≠ g := Classical.byCases .inl (fun e => .inr (fun e2 => ng _ ⟨e, rfl⟩ e2))
  have hgl : vL = .slice none 0 0 ∨ g ≠ vblock vL := hgl2.imp id Ne.symm
  have hvl : vL = .slice none 0 0 ∨ MS g vL (.slice none 0 0) (vblock vL) := Classical.byCases .inl (fun e => .inr (.inr (.inl ⟨e, rfl⟩)))
  refine KC.seq ?_
  refine KC.region ?_
  refine KL.op (R.move rfl rfl) rfl rfl rfl ?_
  refine KL.op (R.nilCheck rfl rfl) rfl rfl rfl ?_
  refine KL.op ((by first | exact R.fieldAddr rfl Try.underlying46 rfl rfl sz44 rfl | exact R.fieldAddrP rfl Try.underlying46 rfl rfl sz44 rfl)) rfl rfl rfl ?_
  refine KL.op (R.load rfl Try.underlying44 rfl rfl (cell_of bg rfl)) rfl rfl rfl ?_
  refine KL.op (R.lenO rfl Try.underlying44 rfl wL) rfl rfl rfl ?_
  refine KL.op (R.assign rfl rfl) rfl rfl rfl ?_
  refine KL.nil ?_
  refine KQ.seq ?_
  refine KC.seq ?_
  refine KC.seq ?_
  refine KC.region ?_
  refine KL.op (R.move rfl rfl) rfl rfl rfl ?_
  refine KL.op ((R.eql rfl rfl rfl).val (congrArg Value.bool (decide_eq_true (by rw [h0]; rfl)))) rfl rfl rfl ?_
  refine KL.nil ?_
  refine KQ.seq ?_
  refine KC.condT rfl ?_
  refine KC.region ?_
  refine KL.op (R.move rfl rfl) rfl rfl rfl ?_
  refine KL.op (R.move rfl rfl) rfl rfl rfl ?_
  refine KL.op (R.nilCheck rfl rfl) rfl rfl rfl ?_
  refine KL.op ((by first | exact R.fieldAddr rfl Try.underlying46 rfl rfl sz3 rfl | exact R.fieldAddrP rfl Try.underlying46 rfl rfl sz3 rfl)) rfl rfl rfl ?_
  refine KL.op (R.load rfl Try.underlying3 rfl rfl (cell_of bg rfl)) rfl rfl rfl ?_
  refine KL.op (R.move rfl rfl) rfl rfl rfl ?_
  refine KL.op (R.lenS rfl Try.underlying22 rfl hs) rfl rfl rfl ?_
  refine KL.op ((R.add rfl rfl rfl (by dsimp only [InR]; omega)).val (congrArg (Value.int .i64) (show (s.loose.length : Int) + l.length = ((s.loose ++ l).length : Nat) by rw [List.length_append]; omega))) rfl rfl rfl ?_
  refine KL.op (R.nilCheck rfl rfl) rfl rfl rfl ?_
  refine KL.op ((by first | exact R.fieldAddr rfl Try.underlying46 rfl rfl sz3 rfl | exact R.fieldAddrP rfl Try.underlying46 rfl rfl sz3 rfl)) rfl rfl rfl ?_
  refine KL.opS (S.store rfl sz3 rfl rfl rfl rfl bg (by simp)) rfl rfl ?_
  rintro H1 ⟨u1, b1⟩
  have o0 := o0.trans (OldB.upd u1 (by omega))
  have zu1 := u1.1
  have wL := wL.upd u1 (by first | exact .inl rfl | exact .inr (by omega) | exact hgl2 | exact wL.lt.imp id (fun h => by omega))
  have st := (by first | exact st.upd u1 | exact st.updN u1 (by omega))
  have bg := b1
  have hr1 := h.set (s' := s.add l) st (fun b hb => .inl hb) (by rw [DS.add_no h0]; exact bg) (by rw [DS.add_no h0]; exact wL) st (Nat.le_refl _) (fun b hb => .inl hb) (by rw [DS.add_most]; exact hm) (by rw [DS.add_all, List.length_append]; exact hl) (by rw [DS.add_len]; exact hfl)
  have wL := hr1.1.wL
  have bg := hr1.1.bg
  have st1 := StepO.refl (MS g vL (.slice none 0 0)) H1
  have oq : Old H1 H1 := Old.refl _
  have hal : (s.add l).all.length = s.all.length + l.length := by rw [DS.add_all, List.length_append]
  have ham := DS.add_most s l
  refine KL.nil ?_
  refine KQ.seq ?_
  refine KC.seq ?_
  have os : Old H1 H1 := Old.refl _
  have ob := o0
  have bgS := bg
  have wLS := wL
  have st1S := st1
  have oqS := oq
  refine KC.text (clOf [(1, 2)]) (fun _ Hc => Old H1 Hc) (by kernel_rfl) (by kernel_rfl) (fun _ => Old.refl _) ?_
  refine KP.op rfl (fun Hg og => by have bg := og.blk bgS; have wL := wLS.old og; have st1 := st1S.old og; have o0 := ob.trans (og.b (by omega)); exact R.move rfl rfl) rfl rfl rfl ?_
  refine KP.call rfl rfl rfl rfl rfl Try.call26 rfl rfl rfl (RHeight_k hr1.1) (fun _ _ h _ _ _ => os.trans h.2) ?_
  rintro _ H2 ⟨rfl, ox⟩
  have zc_H2 := (ox).1
  have o0 := o0.trans ((ox).b (by omega))
  have os := os.trans ox
  have bg := (ox).blk bg
  have wL := wL.old ox
  have st1 := st1.old ox
  have oq := oq.trans ox
  refine KP.op rfl (fun Hg og => by have bg := og.blk bgS; have wL := wLS.old og; have st1 := st1S.old og; have o0 := ob.trans (og.b (by omega)); exact R.move rfl rfl) rfl rfl rfl ?_
  refine KP.op rfl (fun Hg og => by have bg := og.blk bgS; have wL := wLS.old og; have st1 := st1S.old og; have o0 := ob.trans (og.b (by omega)); exact R.nilCheck rfl rfl) rfl rfl rfl ?_
  refine KP.op rfl (fun Hg og => by have bg := og.blk bgS; have wL := wLS.old og; have st1 := st1S.old og; have o0 := ob.trans (og.b (by omega)); exact (by first | exact R.fieldAddr rfl Try.underlying46 rfl rfl sz3 rfl | exact R.fieldAddrP rfl Try.underlying46 rfl rfl sz3 rfl)) rfl rfl rfl ?_
  refine KP.op rfl (fun Hg og => by have bg := og.blk bgS; have wL := wLS.old og; have st1 := st1S.old og; have o0 := ob.trans (og.b (by omega)); exact R.load rfl Try.underlying3 rfl rfl (cell_of bg rfl)) rfl rfl rfl ?_
  refine KP.op rfl (fun Hg og => by have bg := og.blk bgS; have wL := wLS.old og; have st1 := st1S.old og; have o0 := ob.trans (og.b (by omega)); exact R.gtr rfl rfl rfl) rfl rfl rfl ?_
  refine KP.nil ?_
  refine KQ.seq ?_
  refine KC.iteL rfl ?_ ?_
  · intro hc49
    try simp only [decide_eq_true_eq, decide_eq_false_iff_not, Bool.not_eq_true', Bool.not_eq_false', Bool.and_eq_true, Bool.or_eq_false_iff] at hc49
    have hpm := DS.push_hi (s := s) (l := l) (by omega)
    refine KC.region ?_
    refine KL.op (R.move rfl rfl) rfl rfl rfl ?_
    refine KL.op (R.move rfl rfl) rfl rfl rfl ?_
    refine KL.call rfl rfl rfl rfl Try.call26 rfl rfl rfl (RHeight_k (hr1.1.old oq)) ?_
    rintro _ H3 ⟨rfl, ox⟩
    have zc_H3 := (ox).1
    have o0 := o0.trans ((ox).b (by omega))
    have bg := (ox).blk bg
    have wL := wL.old ox
    have st1 := st1.old ox
    have oq := oq.trans ox
    refine KL.op (R.nilCheck rfl rfl) rfl rfl rfl ?_
    refine KL.op ((by first | exact R.fieldAddr rfl Try.underlying46 rfl rfl sz3 rfl | exact R.fieldAddrP rfl Try.underlying46 rfl rfl sz3 rfl)) rfl rfl rfl ?_
    refine KL.opS (S.store rfl sz3 rfl rfl rfl rfl bg (by simp)) rfl rfl ?_
    rintro H4 ⟨u4, b4⟩
    have o0 := o0.trans (OldB.upd u4 (by omega))
    have zu4 := u4.1
    have wL := wL.upd u4 (by first | exact .inl rfl | exact .inr (by omega) | exact hgl2 | exact wL.lt.imp id (fun h => by omega))
    have st1 := (by first | exact st1.upd u4 | exact st1.updN u4 (by omega))
    have bg := b4
    refine KL.nil ?_
    refine KQ.fin0 Try.results11 ?_
    have h2 := hr1.1.set (s' := s.push l) st1 (fun b hb => .inl hb) (by rw [hpm]; exact bg) wL st1 (Nat.le_refl _) (fun b hb => .inl hb) (by rw [DS.push_most]; omega) (by rw [DS.push_all, List.length_append]; exact hl) (by rw [DS.push_len]; exact hfl)
    exact ⟨h2.1, hr1.2.then h2.2⟩
  · intro hc49
    try simp only [decide_eq_true_eq, decide_eq_false_iff_not, Bool.not_eq_true', Bool.not_eq_false', Bool.and_eq_true, Bool.or_eq_false_iff] at hc49
    have hpm : (s.push l).most = (s.add l).most := (DS.push_lo (s := s) (l := l) (by omega)).trans ham.symm
    refine KC.skip ?_
    refine KQ.fin0 Try.results11 ?_
    have h2 := hr1.1.set (s' := s.push l) st1 (fun b hb => .inl hb) (by rw [hpm]; exact bg) wL st1 (Nat.le_refl _) (fun b hb => .inl hb) (by rw [DS.push_most]; omega) (by rw [DS.push_all, List.length_append]; exact hl) (by rw [DS.push_len]; exact hfl)
    exact ⟨h2.1, hr1.2.then h2.2⟩

set_option maxRecDepth 100000 in
set_option maxHeartbeats 4000000 in
theorem RPush_yes {B : Nat} {X : Nat → Prop} {H : Heap} {g : Nat} {vL : Value} {s : DS} (h : RS B X H g vL s) {v : Value} {l : List Int} (hs : Sl 1 (EInt .u8) H v l) (h0 : s.fr ≠ []) (hl : s.all.length + l.length ≤ 1000000) : Ct Try.prog 11 [.pointer (some ⟨g, 0, none⟩), v] H (fun _ H' => RS B X H' g vL (s.push l) ∧ StepO (MS g vL (.slice none 0 0)) (MS g vL (.slice none 0 0)) H H') := by
  refine Ct.mk Try.func11 rfl Try.ntmps11 rfl ?_
  intro W0 hW0
  have o0 : OldB 0 H H := OldB.refl _ H
  obtain ⟨bg, hB, wL, ng, hX, hm, ha, hfl⟩ := id h
  have zg := blk_lt bg
  have hn := List.length_pos_iff.2 h0
  obtain ⟨cs, hcl, hcx, hfp⟩ := wL.fpAt (by decide) (s.fr.length - 1) (by omega)
  have hfp : FP EDF H (MX (MS g vL (.slice none 0 0)) X) H cs s.top := hfp
  obtain ⟨lv, ev, ov, rfl, hlab, hend, hown, hlb, hle⟩ := hfp H (KeepP.refl _ _)
  obtain ⟨fpl, fpe, fpo⟩ := fp_old hfp
  have hall := congrArg List.length (DS.all_eq h0)
  rw [List.length_append] at hall
  have hvLn : vL ≠ .slice none 0 0 := fun e => by
    subst e
    obtain ⟨_, _, he, _⟩ := wL.val
    injection he with _ h2 _
    omega
  have hgv : MS g vL (.slice none 0 0) (vblock vL) := .inr (.inl ⟨hvLn, rfl⟩)
  have hgf : vblock vL ≠ g := ng _ ⟨hvLn, rfl⟩
  have hvs : vblock vL < H.size := (wL.lt.resolve_left hvLn).2
  have bg0 := bg
  have oq : Old H H := Old.refl _
  have st : StepO (MS g vL (.slice none 0 0)) (MS g vL (.slice none 0 0)) H H := StepO.refl _ _
  have hgg : MS g vL (.slice none 0 0) g := .inl rfl
  have hgl2 : vL = .slice none 0 0 ∨ vblock vL ≠ g := Classical.byCases .inl (fun e => .inr (fun e2 => ng _ ⟨e, rfl⟩ e2))
  have hgl : vL = .slice none 0 0 ∨ g ≠ vblock vL := hgl2.imp id Ne.symm
  have hvl : vL = .slice none 0 0 ∨ MS g vL (.slice none 0 0) (vblock vL) := Classical.byCases .inl (fun e => .inr (.inr (.inl ⟨e, rfl⟩)))
  refine KC.seq ?_
  refine KC.region ?_
  refine KL.op (R.move rfl rfl) rfl rfl rfl ?_
  refine KL.op (R.nilCheck rfl rfl) rfl rfl rfl ?_
  refine KL.op ((by first | exact R.fieldAddr rfl Try.underlying46 rfl rfl sz44 rfl | exact R.fieldAddrP rfl Try.underlying46 rfl rfl sz44 rfl)) rfl rfl rfl ?_
  refine KL.op (R.load rfl Try.underlying44 rfl rfl (cell_of bg rfl)) rfl rfl rfl ?_
  refine KL.op (R.lenO rfl Try.underlying44 rfl wL) rfl rfl rfl ?_
  refine KL.op (R.assign rfl rfl) rfl rfl rfl ?_
  refine KL.nil ?_
  refine KQ.seq ?_
  refine KC.seq ?_
  refine KC.seq ?_
  refine KC.region ?_
  refine KL.op (R.move rfl rfl) rfl rfl rfl ?_
  refine KL.op ((R.eql rfl rfl rfl).val (congrArg Value.bool (decide_eq_false (by omega)))) rfl rfl rfl ?_
  refine KL.nil ?_
  refine KQ.seq ?_
  refine KC.condF rfl ?_
  refine KC.text (clOf [(6, 2), (16, 2), (18, 2), (21, 2)]) (fun i Hc => (i = 3 ∨ i = 10 ∨ i = 15) → Old H Hc) (by kernel_rfl) (by kernel_rfl) (fun _ _ => oq) ?_
  refine KP.op rfl (fun Hg hg => R.move rfl rfl) rfl rfl rfl ?_
  refine KP.op rfl (fun Hg hg => R.nilCheck rfl rfl) rfl rfl rfl ?_
  refine KP.op rfl (fun Hg hg => (by first | exact R.fieldAddr rfl Try.underlying46 rfl rfl sz44 rfl | exact R.fieldAddrP rfl Try.underlying46 rfl rfl sz44 rfl)) rfl rfl rfl ?_
  refine KP.op rfl (fun Hg hg => R.load rfl Try.underlying44 rfl rfl (cell_of ((hg (by omega)).blk bg0) rfl)) rfl rfl rfl ?_
  refine KP.op rfl (fun Hg hg => R.move rfl rfl) rfl rfl rfl ?_
  refine KP.op rfl (fun Hg hg => (R.sub rfl rfl rfl (by dsimp only [InR]; omega)).val (congrArg (Value.int .i64) (show (s.fr.length : Int) - 1 = ((s.fr.length - 1 : Nat) : Int) by omega))) rfl rfl rfl ?_
  refine KP.opM rfl (M.lit rfl Try.underlying22 zs5 (by decide) rfl rfl rfl) rfl rfl rfl (fun _ _ hR j _ _ _ => oq.trans hR.2.1) ?_
  rintro _ H1 ⟨rfl, n1⟩
  have z1 := n1.2.1
  have o0 := o0.trans ((n1.1).b (by omega))
  have bg := (n1.1).blk bg
  have wL := wL.old n1.1
  have st := st.old n1.1
  have oq := oq.trans n1.1
  have b1 := n1.2.2
  have w5 : Own 1 (EInt .u8) 5 #[] H.size H1 (.slice (some ⟨Array.size H, 0, none⟩) 0 0) [] := Own.litI (l := []) n1 (Nat.le_refl _) rfl (by decide) (by intro x hx; cases hx)
  have zq := oq.1
  refine KP.op rfl (fun Hg hg => R.move rfl rfl) rfl rfl rfl ?_
  refine KP.op rfl (fun Hg hg => R.nilCheck rfl rfl) rfl rfl rfl ?_
  refine KP.op rfl (fun Hg hg => (by first | exact R.fieldAddr rfl Try.underlying46 rfl rfl sz44 rfl | exact R.fieldAddrP rfl Try.underlying46 rfl rfl sz44 rfl)) rfl rfl rfl ?_
  refine KP.op rfl (fun Hg hg => R.load rfl Try.underlying44 rfl rfl (cell_of ((hg (by omega)).blk bg0) rfl)) rfl rfl rfl ?_
  refine KP.op rfl (fun Hg hg => R.move rfl rfl) rfl rfl rfl ?_
  refine KP.op rfl (fun Hg hg => (R.sub rfl rfl rfl (by dsimp only [InR]; omega)).val (congrArg (Value.int .i64) (show (s.fr.length : Int) - 1 = ((s.fr.length - 1 : Nat) : Int) by omega))) rfl rfl rfl ?_
  refine KP.op rfl (fun Hg hg => R.indexON (j := s.fr.length - 1) rfl Try.underlying44 sz54 rfl rfl wL (by omega) (by omega)) rfl rfl rfl ?_
  refine KP.op rfl (fun Hg hg => (by first | exact R.fieldAddr rfl Try.underlying54 rfl rfl sz22 rfl | exact R.fieldAddrP rfl Try.underlying54 rfl rfl sz22 rfl)) rfl rfl rfl ?_
  refine KP.op rfl (fun Hg hg => R.load rfl Try.underlying22 rfl rfl ((hg (by omega)).cell (hcx 2 _ rfl))) rfl rfl rfl ?_
  have lt2 := w5.lt
  refine KP.opM rfl (M.append rfl Try.underlying22 inf5 rfl (by decide) rfl rfl w5 (by exact hown.old oq) (fun _ _ h _ => h) (by omega) (by simp; omega) (by unfold maxLen; simp; omega)) rfl rfl rfl (fun _ _ hR j _ _ _ => oq.then (hR.2.oldB w5 (by omega)) (Nat.le_refl _)) ?_
  rintro v5 H2 ⟨w2, g2⟩
  try dsimp only at g2
  have ob2 := g2.oldB w5 (by omega)
  have o0 := o0.trans (ob2.mono (by omega))
  have z2 := ob2.1
  have bg := (g2.2 _ (blk_lt bg) (by first | exact .inr (by omega) | exact .inl rfl | exact hgl2 | exact lt2.imp id (fun h => by omega))).trans bg
  have wL := wL.keep (g2.2 _ (by omega) (by first | exact .inr (by omega) | exact .inl rfl | exact lt2.imp id (fun h => by omega)))
  have st := (by first | exact st.grownN g2 (lt2.imp id (fun h => by omega)) | exact st.grown nx g2)
  have oq := oq.then ob2 (by omega)
  have w5 := w2
  rw [List.nil_append] at w5
  refine KP.op rfl (fun Hg hg => R.move rfl rfl) rfl rfl rfl ?_
  have lt3 := w5.lt
  refine KP.opM rfl (M.append rfl Try.underlying22 inf5 rfl (by decide) rfl rfl w5 (by exact hs.old oq) (fun _ _ h _ => h) (by omega) (by omega) (by unfold maxLen; omega)) rfl rfl rfl (fun _ _ hR j _ _ _ => oq.then (hR.2.oldB w5 (by omega)) (Nat.le_refl _)) ?_
  rintro v6 H3 ⟨w3, g3⟩
  try dsimp only at g3
  have ob3 := g3.oldB w5 (by omega)
  have o0 := o0.trans (ob3.mono (by omega))
  have z3 := ob3.1
  have bg := (g3.2 _ (blk_lt bg) (by first | exact .inr (by omega) | exact .inl rfl | exact hgl2 | exact lt3.imp id (fun h => by omega))).trans bg
  have wL := wL.keep (g3.2 _ (by omega) (by first | exact .inr (by omega) | exact .inl rfl | exact lt3.imp id (fun h => by omega)))
  have st := (by first | exact st.grownN g3 (lt3.imp id (fun h => by omega)) | exact st.grown nx g3)
  have oq := oq.then ob3 (by omega)
  have w5 := w3
  have wL := wL.fp (M' := MX (MS g vL (.slice none 0 0)) X) st.mx1
  have fpn := fp_own (M := MX (MS g vL (.slice none 0 0)) X) w5 (fun b hb hm => by
    have h1 := (w5.ofLt hb).1
    rcases hm with hm | hm
    · have := (h.low b hm).2; omega
    · have := (hX b hm).1; omega)
  have st0 := StepO.refl (MS g vL (.slice none 0 0)) H3
  have zst := st.1
  refine KP.op rfl (fun Hg hg => R.indexON (j := s.fr.length - 1) rfl Try.underlying44 sz54 rfl rfl wL (by omega) (by omega)) rfl rfl rfl ?_
  refine KP.op rfl (fun Hg hg => (by first | exact R.fieldAddr rfl Try.underlying54 rfl rfl sz22 rfl | exact R.fieldAddrP rfl Try.underlying54 rfl rfl sz22 rfl)) rfl rfl rfl ?_
  refine KP.opS rfl (S.ownC (j := s.fr.length - 1) (c := 2) rfl sz22 rfl rfl w5.cells1 w5.one wL (by omega) (by decide) (fun cs hc hf => df_own fpn cs hc hf)) rfl rfl (fun _ h j hj1 hj2 hj => by rcases hj with rfl | rfl | rfl <;> exact absurd (by decide +kernel) hj2) ?_
  rintro H4 ⟨u4, w4⟩
  have o0 := o0.trans (OldB.upd u4 (by omega))
  have zu4 := u4.1
  have bg := ((u4).2 _ (by omega)).trans bg
  have st := (by first | exact st.upd u4 | exact st.updN u4 (by omega))
  have st0 := (by first | exact st0.upd u4 | exact st0.updN u4 (by omega))
  have wL := w4
  have hr1 := h.set (s' := s.add l) st (fun b hb => .inl hb) (by rw [DS.add_yes h0]; exact bg) (by rw [DS.add_yes h0]; exact wL) st0 zst (fun b hb => .inl hb) (by rw [DS.add_most]; exact hm) (by rw [DS.add_all, List.length_append]; exact hl) (by rw [DS.add_len]; exact hfl)
  have wL := hr1.1.wL
  have bg := hr1.1.bg
  have st1 := StepO.refl (MS g vL (.slice none 0 0)) H4
  have oq : Old H4 H4 := Old.refl _
  have hal : (s.add l).all.length = s.all.length + l.length := by rw [DS.add_all, List.length_append]
  have ham := DS.add_most s l
  refine KP.nil ?_
  refine KQ.seq ?_
  refine KC.seq ?_
  have os : Old H4 H4 := Old.refl _
  have ob := o0
  have bgS := bg
  have wLS := wL
  have st1S := st1
  have oqS := oq
  refine KC.text (clOf [(1, 2)]) (fun _ Hc => Old H4 Hc) (by kernel_rfl) (by kernel_rfl) (fun _ => Old.refl _) ?_
  refine KP.op rfl (fun Hg og => by have bg := og.blk bgS; have wL := wLS.old og; have st1 := st1S.old og; have o0 := ob.trans (og.b (by omega)); exact R.move rfl rfl) rfl rfl rfl ?_
  refine KP.call rfl rfl rfl rfl rfl Try.call26 rfl rfl rfl (RHeight_k hr1.1) (fun _ _ h _ _ _ => os.trans h.2) ?_
  rintro _ H5 ⟨rfl, ox⟩
  have zc_H5 := (ox).1
  have o0 := o0.trans ((ox).b (by omega))
  have os := os.trans ox
  have bg := (ox).blk bg
  have wL := wL.old ox
  have st1 := st1.old ox
  have oq := oq.trans ox
  refine KP.op rfl (fun Hg og => by have bg := og.blk bgS; have wL := wLS.old og; have st1 := st1S.old og; have o0 := ob.trans (og.b (by omega)); exact R.move rfl rfl) rfl rfl rfl ?_
  refine KP.op rfl (fun Hg og => by have bg := og.blk bgS; have wL := wLS.old og; have st1 := st1S.old og; have o0 := ob.trans (og.b (by omega)); exact R.nilCheck rfl rfl) rfl rfl rfl ?_
  refine KP.op rfl (fun Hg og => by have bg := og.blk bgS; have wL := wLS.old og; have st1 := st1S.old og; have o0 := ob.trans (og.b (by omega)); exact (by first | exact R.fieldAddr rfl Try.underlying46 rfl rfl sz3 rfl | exact R.fieldAddrP rfl Try.underlying46 rfl rfl sz3 rfl)) rfl rfl rfl ?_
  refine KP.op rfl (fun Hg og => by have bg := og.blk bgS; have wL := wLS.old og; have st1 := st1S.old og; have o0 := ob.trans (og.b (by omega)); exact R.load rfl Try.underlying3 rfl rfl (cell_of bg rfl)) rfl rfl rfl ?_
  refine KP.op rfl (fun Hg og => by have bg := og.blk bgS; have wL := wLS.old og; have st1 := st1S.old og; have o0 := ob.trans (og.b (by omega)); exact R.gtr rfl rfl rfl) rfl rfl rfl ?_
  refine KP.nil ?_
  refine KQ.seq ?_
  refine KC.iteL rfl ?_ ?_
  · intro hc49
    try simp only [decide_eq_true_eq, decide_eq_false_iff_not, Bool.not_eq_true', Bool.not_eq_false', Bool.and_eq_true, Bool.or_eq_false_iff] at hc49
    have hpm := DS.push_hi (s := s) (l := l) (by omega)
    refine KC.region ?_
    refine KL.op (R.move rfl rfl) rfl rfl rfl ?_
    refine KL.op (R.move rfl rfl) rfl rfl rfl ?_
    refine KL.call rfl rfl rfl rfl Try.call26 rfl rfl rfl (RHeight_k (hr1.1.old oq)) ?_
    rintro _ H6 ⟨rfl, ox⟩
    have zc_H6 := (ox).1
    have o0 := o0.trans ((ox).b (by omega))
    have bg := (ox).blk bg
    have wL := wL.old ox
    have st1 := st1.old ox
    have oq := oq.trans ox
    refine KL.op (R.nilCheck rfl rfl) rfl rfl rfl ?_
    refine KL.op ((by first | exact R.fieldAddr rfl Try.underlying46 rfl rfl sz3 rfl | exact R.fieldAddrP rfl Try.underlying46 rfl rfl sz3 rfl)) rfl rfl rfl ?_
    refine KL.opS (S.store rfl sz3 rfl rfl rfl rfl bg (by simp)) rfl rfl ?_
    rintro H7 ⟨u7, b7⟩
    have o0 := o0.trans (OldB.upd u7 (by omega))
    have zu7 := u7.1
    have wL := wL.upd u7 (by first | exact .inl rfl | exact .inr (by omega) | exact hgl2 | exact wL.lt.imp id (fun h => by omega))
    have st1 := (by first | exact st1.upd u7 | exact st1.updN u7 (by omega))
    have bg := b7
    refine KL.nil ?_
    refine KQ.fin0 Try.results11 ?_
    have h2 := hr1.1.set (s' := s.push l) st1 (fun b hb => .inl hb) (by rw [hpm]; exact bg) wL st1 (Nat.le_refl _) (fun b hb => .inl hb) (by rw [DS.push_most]; omega) (by rw [DS.push_all, List.length_append]; exact hl) (by rw [DS.push_len]; exact hfl)
    exact ⟨h2.1, hr1.2.then h2.2⟩
  · intro hc49
    try simp only [decide_eq_true_eq, decide_eq_false_iff_not, Bool.not_eq_true', Bool.not_eq_false', Bool.and_eq_true, Bool.or_eq_false_iff] at hc49
    have hpm : (s.push l).most = (s.add l).most := (DS.push_lo (s := s) (l := l) (by omega)).trans ham.symm
    refine KC.skip ?_
    refine KQ.fin0 Try.results11 ?_
    have h2 := hr1.1.set (s' := s.push l) st1 (fun b hb => .inl hb) (by rw [hpm]; exact bg) wL st1 (Nat.le_refl _) (fun b hb => .inl hb) (by rw [DS.push_most]; omega) (by rw [DS.push_all, List.length_append]; exact hl) (by rw [DS.push_len]; exact hfl)
    exact ⟨h2.1, hr1.2.then h2.2⟩

theorem RPush_k {B : Nat} {X : Nat → Prop} {H : Heap} {g : Nat} {vL : Value} {s : DS} (h : RS B X H g vL s) {v : Value} {l : List Int} (hs : Sl 1 (EInt .u8) H v l) (hl : s.all.length + l.length ≤ 1000000) : Ct Try.prog 11 [.pointer (some ⟨g, 0, none⟩), v] H (fun _ H' => RS B X H' g vL (s.push l) ∧ StepO (MS g vL (.slice none 0 0)) (MS g vL (.slice none 0 0)) H H') := by
  by_cases h0 : s.fr = []
  · exact RPush_no h hs h0 hl
  · exact RPush_yes h hs h0 hl

end Go.Proofs.Ytglopfbdnpbgeaa
