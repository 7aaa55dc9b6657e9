/- New; the document's stack: New, Open, Height. No condition but sizes. -/
import Derived.Test.YtglopfbdnpbgeaaTyF
namespace Go.Proofs.Ytglopfbdnpbgeaa
open Go Go.RowKit
set_option linter.unusedVariables false
set_option linter.unusedSimpArgs false
set_option linter.unnecessarySimpa false

def DS.new (l : List Int) : DS := DS.open ⟨[], [], 0⟩ l l
theorem StepO.none (H : Heap) : StepO (fun _ => False) (fun _ => False) H H := StepO.refl _ _
theorem ts_new {H' : Heap} {g : Nat} {B : Nat} (hb : H'[g]? = some (.cells [.slice none 0 0, .slice none 0 0, .int .i64 0].toArray 52 (0, 0))) (hB : B ≤ g) : TS B (fun _ => False) H' g (.slice none 0 0) (.slice none 0 0) ⟨[], [], 0⟩ :=
  ⟨hb, hB, Own.nil _ _ _ _ _ _, Own.nil _ _ _ _ _ _, fun b h => absurd h (Of.nil b), fun b h => absurd h (Of.nil b), fun b h => absurd h (Of.nil b), fun b h => h.elim, Nat.zero_le _, Nat.zero_le _, Nat.zero_le _⟩
theorem rs_new {H' : Heap} {g : Nat} {B : Nat} (hb : H'[g]? = some (.cells [.slice none 0 0, .int .i64 0, .int .i64 0].toArray 46 (0, 0))) (hB : B ≤ g) : RS B (fun _ => False) H' g (.slice none 0 0) ⟨[], [], 0⟩ :=
  ⟨hb, hB, Own.nil _ _ _ _ _ _, fun b h => absurd h (Of.nil b), fun b h => h.elim, Nat.zero_le _, Nat.zero_le _, Nat.zero_le _⟩
section
variable {B : Nat} {X X' : Nat → Prop} {H H' H2 : Heap} {g : Nat} {vL vL' : Value} {s s' : DS}
theorem RS.set (h : RS B X H g vL s) (st : StepO (MS g vL (.slice none 0 0)) (MS g vL (.slice none 0 0)) H H') (hl : ∀ b, Of vL' b → Of vL b ∨ H.size ≤ b)
    (bg' : H'[g]? = some (.cells [vL', .int .i64 s'.loose.length, .int .i64 s'.most].toArray 46 (0, 0))) (wL' : Own 4 (FP EDF H2 (MX (MS g vL (.slice none 0 0)) X)) 54 #[] B H' vL' s'.fr)
    (st2 : StepO (MS g vL (.slice none 0 0)) (MS g vL (.slice none 0 0)) H2 H') (hz : H.size ≤ H2.size) (hz2 : ∀ b, Of vL' b → Of vL b ∨ H2.size ≤ b) (hm' : s'.most ≤ 1000000) (ha' : s'.all.length ≤ 1000000) (hf' : s'.fr.length ≤ 1000000) :
    RS B X H' g vL' s' ∧ StepO (MS g vL (.slice none 0 0)) (MS g vL' (.slice none 0 0)) H H' := by
  have hg := blk_lt h.bg
  have hst : StepO (MS g vL (.slice none 0 0)) (MS g vL' (.slice none 0 0)) H H' := st.to fun b hb => by
    rcases hb with rfl | hb | hb
    · exact .inl (.inl rfl)
    · exact (hl b hb).imp (fun h => .inr (.inl h)) id
    · exact absurd hb (Of.nil b)
  have hst2 : StepO (MS g vL (.slice none 0 0)) (MS g vL' (.slice none 0 0)) H2 H' := st2.to fun b hb => by
    rcases hb with rfl | hb | hb
    · exact .inl (.inl rfl)
    · exact (hz2 b hb).imp (fun h => .inr (.inl h)) id
    · exact absurd hb (Of.nil b)
  refine ⟨⟨bg', h.hB, wL'.fp hst2.mx1, fun b hb => ?_, fun b hb => ⟨by have := (h.hX b hb).1; have := st.1; omega, fun hm => ?_⟩, hm', ha', hf'⟩, hst⟩
  · rcases hl b hb with h1 | h1
    · exact h.ng b h1
    · omega
  · have hx := h.hX b hb
    rcases hst.2.2 b hm with h1 | h1
    · exact hx.2 h1
    · omega
end
theorem df_own {H H0 : Heap} {M : Nat → Prop} {f : DF} {u : Value} {o : List Int} (hu : ∀ H2, KeepP M H H2 → Sl 1 (EInt .u8) H2 u o) (cs : List Value) (hc : cs.length = 4) (hf : FP EDF H M H0 cs f) : FP EDF H M H0 (cs.set 2 u) { f with own := o } := by
  intro H2 k
  obtain ⟨lv, ev, ov, rfl, h1, h2, h3, h4⟩ := hf H2 k
  exact ⟨lv, ev, u, rfl, h1, h2, hu H2 k, h4⟩
theorem df_dead {H H0 : Heap} {M : Nat → Prop} {f : DF} (cs : List Value) (hc : cs.length = 4) (hf : FP EDF H M H0 cs f) : FP EDF H M H0 (cs.set 3 (.bool true)) { f with dead := true } := by
  intro H2 k
  obtain ⟨lv, ev, ov, rfl, h1, h2, h3, h4⟩ := hf H2 k
  exact ⟨lv, ev, ov, rfl, h1, h2, h3, h4⟩
theorem fp_old {H : Heap} {M : Nat → Prop} {f : DF} {lv ev ov w : Value} (hf : FP EDF H M H [lv, ev, ov, w] f) : (∀ H2, KeepP M H H2 → Sl 1 (EInt .u8) H2 lv f.label) ∧ (∀ H2, KeepP M H H2 → Sl 1 (EInt .u8) H2 ev f.ends) ∧ ∀ H2, KeepP M H H2 → Sl 1 (EInt .u8) H2 ov f.own := by
  refine ⟨fun H2 k => ?_, fun H2 k => ?_, fun H2 k => ?_⟩ <;>
  · obtain ⟨lv2, ev2, ov2, he, h1, h2, h3, _⟩ := hf H2 k
    injection he with e1 he
    injection he with e2 he
    injection he with e3 _
    subst e1 e2 e3
    assumption

set_option maxRecDepth 100000 in
set_option maxHeartbeats 4000000 in
theorem New_k {H : Heap} {v : Value} {l : List Int} (hs : Sl 1 (EInt .u8) H v l) (hl : l.length ≤ 1000000) : Ct Try.prog 8 [v] H (fun u H' => ∃ g vl vf, u = .pointer (some ⟨g, 0, none⟩) ∧ TS H.size (fun _ => False) H' g vl vf (DS.new l) ∧ Old H H') := by
  refine Ct.mk Try.func8 rfl Try.ntmps8 rfl ?_
  intro W0 hW0
  have o0 : Old H H := Old.refl H
  refine KC.seq ?_
  refine KC.region ?_
  refine KL.op (R.assign rfl rfl) rfl rfl rfl ?_
  refine KL.nil ?_
  refine KQ.seq ?_
  refine KC.seq ?_
  refine KC.region ?_
  refine KL.op (R.buildL rfl Try.underlying52 zr52 [(0, 1), (1, 1), (2, 1)] (fun w => by kernel_rfl) rfl trivial rfl rfl trivial rfl) rfl rfl rfl ?_
  refine KL.opM (M.box rfl rfl rfl) rfl rfl rfl ?_
  rintro _ H1 ⟨rfl, n1⟩
  have z1 := n1.2.1
  have o0 := o0.trans n1.1
  have b1 := n1.2.2
  have bg := b1
  refine KL.op (R.assign rfl rfl) rfl rfl rfl ?_
  refine KL.nil ?_
  refine KQ.seq ?_
  refine KC.seq ?_
  refine KC.region ?_
  refine KL.op (R.move rfl rfl) rfl rfl rfl ?_
  refine KL.op (R.move rfl rfl) rfl rfl rfl ?_
  refine KL.op (R.move rfl rfl) rfl rfl rfl ?_
  have zB := o0.1
  refine KL.call rfl rfl rfl rfl Try.call16 rfl rfl rfl (Open_k (ts_new bg (Nat.le_refl _)) (hs.old o0) (hs.old o0) hl hl (by show (0 : Nat) < _; omega)) ?_
  rintro _ H2 ⟨vf, ht, hst⟩
  have hob := hst.oldB (B0 := Array.size H) (by omega) (fun b hb => by
    rcases hb with rfl | hb | hb
    · omega
    · exact absurd hb (Of.nil b)
    · exact absurd hb (Of.nil b))
  have z_hob := hob.1
  have o0 := o0.then hob (by omega)
  refine KL.nil ?_
  refine KQ.seq ?_
  refine KC.seq ?_
  refine KC.region ?_
  refine KL.op (R.move rfl rfl) rfl rfl rfl ?_
  refine KL.op (R.assign rfl rfl) rfl rfl rfl ?_
  refine KL.nil ?_
  refine KQ.seq ?_
  refine KC.ret ?_
  refine KQ.ofRet ?_
  refine KQ.fin1 Try.results8 rfl ?_
  exact ⟨_, _, _, rfl, ht, o0⟩

set_option maxRecDepth 100000 in
set_option maxHeartbeats 4000000 in
theorem ROpen_k {B : Nat} {X : Nat → Prop} {H : Heap} {g : Nat} {vL : Value} {s : DS} (h : RS B X H g vL s) {va vb : Value} {a b : List Int} (hs : ∀ H2, KeepP (MX (MS g vL (.slice none 0 0)) X) H H2 → Sl 1 (EInt .u8) H2 va a) (ht : ∀ H2, KeepP (MX (MS g vL (.slice none 0 0)) X) H H2 → Sl 1 (EInt .u8) H2 vb b) (hla : a.length ≤ 1000000) (hlb : b.length ≤ 1000000) (hfr : s.fr.length < 1000000) : Ct Try.prog 17 [.pointer (some ⟨g, 0, none⟩), va, vb] H (fun _ H' => ∃ vL', RS B X H' g vL' (s.open a b) ∧ StepO (MS g vL (.slice none 0 0)) (MS g vL' (.slice none 0 0)) H H') := by
  refine Ct.mk Try.func17 rfl Try.ntmps17 rfl ?_
  intro W0 hW0
  have o0 : OldB 0 H H := OldB.refl _ H
  obtain ⟨bg, hB, wL, ng, hX, hm, ha, hfl⟩ := id h
  have zg := blk_lt bg
  have st : StepO (MS g vL (.slice none 0 0)) (MS g vL (.slice none 0 0)) H H := StepO.refl _ _
  have hgg : MS g vL (.slice none 0 0) g := .inl rfl
  have hgl2 : vL = .slice none 0 0 ∨ vblock vL ≠ g := Classical.byCases .inl (fun e => .inr (fun e2 => ng _ ⟨e, rfl⟩ e2))
  have hgl : vL = .slice none 0 0 ∨ g ≠ vblock vL := hgl2.imp id Ne.symm
  have hvl : vL = .slice none 0 0 ∨ MS g vL (.slice none 0 0) (vblock vL) := Classical.byCases .inl (fun e => .inr (.inr (.inl ⟨e, rfl⟩)))
  have hs1 := hs H (KeepP.refl _ _)
  have ht1 := ht H (KeepP.refl _ _)
  refine KC.region ?_
  refine KL.op (R.move rfl rfl) rfl rfl rfl ?_
  refine KL.op (R.move rfl rfl) rfl rfl rfl ?_
  refine KL.op (R.nilCheck rfl rfl) rfl rfl rfl ?_
  refine KL.op ((by first | exact R.fieldAddr rfl Try.underlying46 rfl rfl sz44 rfl | exact R.fieldAddrP rfl Try.underlying46 rfl rfl sz44 rfl)) rfl rfl rfl ?_
  refine KL.op (R.load rfl Try.underlying44 rfl rfl (cell_of bg rfl)) rfl rfl rfl ?_
  refine KL.op (R.move rfl rfl) rfl rfl rfl ?_
  refine KL.op (R.move rfl rfl) rfl rfl rfl ?_
  refine KL.op (R.buildL rfl Try.underlying54 zr54 [(0, 1), (1, 1), (2, 1), (3, 1)] (fun w => by kernel_rfl) rfl ⟨⟨_, rfl, rfl⟩, ⟨_, rfl, rfl⟩, trivial⟩ rfl rfl ⟨⟨_, rfl, hs1.cells1⟩, ⟨_, rfl, ht1.cells1⟩, trivial⟩ rfl) rfl rfl rfl ?_
  refine KL.opM (M.lit rfl Try.underlying44 zs54 (by decide) rfl rfl rfl) rfl rfl rfl ?_
  rintro _ H1 ⟨rfl, n1⟩
  have z1 := n1.2.1
  have o0 := o0.trans ((n1.1).b (by omega))
  have bg := (n1.1).blk bg
  have wL := wL.old n1.1
  have st := st.old n1.1
  have b1 := n1.2.2
  have se : Sl 4 (FP EDF H (MX (MS g vL (.slice none 0 0)) X)) H1 _ [(⟨a, b, [], false⟩ : DF)] := Sl.lit1N n1 rfl (by decide) (fun Hq kq => ⟨va, vb, _, rfl, hs Hq kq, ht Hq kq, Sl.nil _ _ _, hla, hlb⟩)
  have lt2 := wL.lt
  refine KL.opM (M.appendN rfl Try.underlying44 inf54 rfl (by decide) rfl rfl wL (by exact se) (fun _ _ h _ => h) (by omega) (by simp only [List.length_singleton]; omega) (by unfold maxLen; simp only [List.length_singleton]; omega)) rfl rfl rfl ?_
  rintro vn H2 ⟨w2, g2, nx2⟩
  try dsimp only at g2 nx2
  have ob2 := g2.oldB wL (by omega)
  have o0 := o0.trans (ob2.mono (by omega))
  have z2 := ob2.1
  have bg := (g2.2 _ (blk_lt bg) (by first | exact .inr (by omega) | exact .inl rfl | exact hgl | exact hgl2 | exact hgn | exact lt2.imp id (fun h => by omega))).trans bg
  have st := (by first | exact st.grownN g2 (lt2.imp id (fun h => by omega)) | exact st.grown hvl g2)
  have wL := w2
  have nx := nx2.le (B := H) (by omega)
  have hgn : vn = .slice none 0 0 ∨ vblock vn ≠ g := Classical.byCases .inl (fun e => .inr (fun e2 => (nx.of ⟨e, rfl⟩).elim (fun hb => ng _ hb e2) (fun hb => by omega)))
  refine KL.op (R.nilCheck rfl rfl) rfl rfl rfl ?_
  refine KL.op ((by first | exact R.fieldAddr rfl Try.underlying46 rfl rfl sz44 rfl | exact R.fieldAddrP rfl Try.underlying46 rfl rfl sz44 rfl)) rfl rfl rfl ?_
  refine KL.opS (S.store rfl sz44 rfl rfl wL.cells1 wL.one bg (by simp)) rfl rfl ?_
  rintro H3 ⟨u3, b3⟩
  have o0 := o0.trans (OldB.upd u3 (by omega))
  have zu3 := u3.1
  have wL := wL.upd u3 (by first | exact .inl rfl | exact .inr (by omega) | exact hgl | exact hgl2 | exact hgn | exact wL.lt.imp id (fun h => by omega))
  have st := (by first | exact st.upd u3 | exact st.updN u3 (by omega))
  have bg := b3
  refine KL.nil ?_
  refine KQ.fin0 Try.results17 ?_
  exact ⟨vn, h.set st (fun b hb => nx.of hb) bg wL st (Nat.le_refl _) (fun b hb => nx.of hb) hm (by rw [DS.open_all]; exact ha) (by show (s.fr ++ _).length ≤ _; rw [List.length_append]; simp only [List.length_singleton]; omega)⟩

set_option maxRecDepth 100000 in
set_option maxHeartbeats 4000000 in
theorem RNew_k {H : Heap} {v : Value} {l : List Int} (hs : Sl 1 (EInt .u8) H v l) (hl : l.length ≤ 1000000) : Ct Try.prog 9 [v] H (fun u H' => ∃ g vL, u = .pointer (some ⟨g, 0, none⟩) ∧ RS H.size (fun _ => False) H' g vL (DS.new l) ∧ Old H H') := by
  refine Ct.mk Try.func9 rfl Try.ntmps9 rfl ?_
  intro W0 hW0
  have o0 : Old H H := Old.refl H
  refine KC.seq ?_
  refine KC.region ?_
  refine KL.op (R.assign rfl rfl) rfl rfl rfl ?_
  refine KL.nil ?_
  refine KQ.seq ?_
  refine KC.seq ?_
  refine KC.region ?_
  refine KL.op (R.buildL rfl Try.underlying46 zr46 [(0, 1), (1, 1), (2, 1)] (fun w => by kernel_rfl) rfl trivial rfl rfl trivial rfl) rfl rfl rfl ?_
  refine KL.opM (M.box rfl rfl rfl) rfl rfl rfl ?_
  rintro _ H1 ⟨rfl, n1⟩
  have z1 := n1.2.1
  have o0 := o0.trans n1.1
  have b1 := n1.2.2
  have bg := b1
  refine KL.op (R.assign rfl rfl) rfl rfl rfl ?_
  refine KL.nil ?_
  refine KQ.seq ?_
  refine KC.seq ?_
  refine KC.region ?_
  refine KL.op (R.move rfl rfl) rfl rfl rfl ?_
  refine KL.op (R.move rfl rfl) rfl rfl rfl ?_
  refine KL.op (R.move rfl rfl) rfl rfl rfl ?_
  have zB := o0.1
  have hlow : ∀ b, MX (MS (Array.size H) (.slice none 0 0) (.slice none 0 0)) (fun _ => False) b → Array.size H ≤ b := fun b hb => by
    rcases hb with (rfl | hb | hb) | hb
    · omega
    · exact absurd hb (Of.nil b)
    · exact absurd hb (Of.nil b)
    · exact hb.elim
  have hq : ∀ H2, KeepP (MX (MS (Array.size H) (.slice none 0 0) (.slice none 0 0)) (fun _ => False)) H1 H2 → Sl 1 (EInt .u8) H2 v l := fun H2 k => hs.old ⟨by have := k.1; omega, fun b hb => (k.2 b (by omega) (fun hm => by have := hlow b hm; omega)).trans (o0.2 b hb)⟩
  refine KL.call rfl rfl rfl rfl Try.call17 rfl rfl rfl (ROpen_k (rs_new bg (Nat.le_refl _)) hq hq hl hl (by show (0 : Nat) < _; omega)) ?_
  rintro _ H2 ⟨vL, ht, hst⟩
  have hob := hst.oldB (B0 := Array.size H) (by omega) (fun b hb => hlow b (.inl hb))
  have z_hob := hob.1
  have o0 := o0.then hob (by omega)
  refine KL.nil ?_
  refine KQ.seq ?_
  refine KC.seq ?_
  refine KC.region ?_
  refine KL.op (R.move rfl rfl) rfl rfl rfl ?_
  refine KL.op (R.assign rfl rfl) rfl rfl rfl ?_
  refine KL.nil ?_
  refine KQ.seq ?_
  refine KC.ret ?_
  refine KQ.ofRet ?_
  refine KQ.fin1 Try.results9 rfl ?_
  exact ⟨_, _, rfl, ht, o0⟩

theorem flat_take {l : List DF} {k : Nat} (h : k < l.length) : (flat (l.take (k + 1))).length = (flat (l.take k)).length + (l.getD k default).own.length := by
  rw [List.take_add_one, List.getElem?_eq_getElem h, flat_app, List.length_append, List.getD_eq_getElem?_getD, List.getElem?_eq_getElem h]
  simp [flat]
theorem flat_le (l : List DF) (k : Nat) : (flat (l.take k)).length ≤ (flat l).length := by
  conv => rhs; rw [← List.take_append_drop k l, flat_app, List.length_append]
  omega

set_option maxRecDepth 100000 in
set_option maxHeartbeats 4000000 in
theorem RHeight_k {B : Nat} {X : Nat → Prop} {H : Heap} {g : Nat} {vL : Value} {s : DS} (h : RS B X H g vL s) : Ct Try.prog 26 [.pointer (some ⟨g, 0, none⟩)] H (fun u H' => u = .int .i64 s.all.length ∧ Old H H') := by
  refine Ct.mk Try.func26 rfl Try.ntmps26 rfl ?_
  intro W0 hW0
  have o0 : Old H H := Old.refl H
  obtain ⟨bg, hB, wL, ng, hX, hm, ha, hfl⟩ := id h
  have zg := blk_lt bg
  have hal : s.all.length = s.loose.length + (flat s.fr).length := List.length_append
  refine KC.seq ?_
  refine KC.region ?_
  refine KL.op (R.assign rfl rfl) rfl rfl rfl ?_
  refine KL.nil ?_
  refine KQ.seq ?_
  refine KC.seq ?_
  refine KC.region ?_
  refine KL.op (R.move rfl rfl) rfl rfl rfl ?_
  refine KL.op (R.nilCheck rfl rfl) rfl rfl rfl ?_
  refine KL.op ((by first | exact R.fieldAddr rfl Try.underlying46 rfl rfl sz3 rfl | exact R.fieldAddrP rfl Try.underlying46 rfl rfl sz3 rfl)) rfl rfl rfl ?_
  refine KL.op (R.load rfl Try.underlying3 rfl rfl (cell_of bg rfl)) rfl rfl rfl ?_
  refine KL.op (R.assign rfl rfl) rfl rfl rfl ?_
  refine KL.nil ?_
  refine KQ.seq ?_
  refine KC.seq ?_
  refine KC.seq ?_
  refine KC.region ?_
  refine KL.op (R.assign rfl rfl) rfl rfl rfl ?_
  refine KL.nil ?_
  refine KQ.seq ?_
  refine KC.block ?_
  refine KC.loopD (κ := Nat) [9, 10, 11, 12, 13, 14, 15, 18, 19, 20, 21, 22, 23, 24, 25, 26, 27, 28, 3, 16, 17, 4] (fun k => [(4, .int .i64 (k : Nat)), (3, .int .i64 (s.loose.length + (flat (s.fr.take k)).length : Nat))]) (fun k Hl => k ≤ s.fr.length ∧ H = Hl) (fun k => s.fr.length - k) 0 ?_ ?_ ?_
  · exact (Sub.cons rfl (Sub.cons rfl (Ext.sub (Ext.refl _ _))))
  · exact ⟨Nat.zero_le _, rfl⟩
  · rintro k H1 ⟨hk, rfl⟩
    have hfk := flat_le s.fr k
    refine KC.seq ?_
    refine KC.seq ?_
    refine KC.region ?_
    refine KL.op (R.move rfl rfl) rfl rfl rfl ?_
    refine KL.op (R.move rfl rfl) rfl rfl rfl ?_
    refine KL.op (R.nilCheck rfl rfl) rfl rfl rfl ?_
    refine KL.op ((by first | exact R.fieldAddr rfl Try.underlying46 rfl rfl sz44 rfl | exact R.fieldAddrP rfl Try.underlying46 rfl rfl sz44 rfl)) rfl rfl rfl ?_
    refine KL.op (R.load rfl Try.underlying44 rfl rfl (cell_of bg rfl)) rfl rfl rfl ?_
    refine KL.op (R.lenO rfl Try.underlying44 rfl wL) rfl rfl rfl ?_
    refine KL.op (R.lss rfl rfl rfl) rfl rfl rfl ?_
    refine KL.nil ?_
    refine KQ.seq ?_
    refine KC.iteL rfl ?_ ?_
    · intro hc15
      try simp only [decide_eq_true_eq, decide_eq_false_iff_not, Bool.not_eq_true', Bool.not_eq_false', Bool.and_eq_true, Bool.or_eq_false_iff] at hc15
      obtain ⟨cs, hcl, hcx, hfp⟩ := wL.fpAt (by decide) k (by omega)
      obtain ⟨lv, ev, ov, rfl, hlab, hend, hown, hlb, hle⟩ := hfp _ (KeepP.refl _ _)
      have hft := flat_take (l := s.fr) (k := k) (by omega)
      have hfk1 := flat_le s.fr (k + 1)
      refine KC.skip ?_
      refine KQ.seq ?_
      refine KC.seq ?_
      refine KC.block ?_
      refine KC.region ?_
      refine KL.op (R.move rfl rfl) rfl rfl rfl ?_
      refine KL.op (R.move rfl rfl) rfl rfl rfl ?_
      refine KL.op (R.nilCheck rfl rfl) rfl rfl rfl ?_
      refine KL.op ((by first | exact R.fieldAddr rfl Try.underlying46 rfl rfl sz44 rfl | exact R.fieldAddrP rfl Try.underlying46 rfl rfl sz44 rfl)) rfl rfl rfl ?_
      refine KL.op (R.load rfl Try.underlying44 rfl rfl (cell_of bg rfl)) rfl rfl rfl ?_
      refine KL.op (R.move rfl rfl) rfl rfl rfl ?_
      refine KL.op (R.indexON (j := k) rfl Try.underlying44 sz54 rfl rfl wL rfl (by omega)) rfl rfl rfl ?_
      refine KL.op ((by first | exact R.fieldAddr rfl Try.underlying54 rfl rfl sz22 rfl | exact R.fieldAddrP rfl Try.underlying54 rfl rfl sz22 rfl)) rfl rfl rfl ?_
      refine KL.op (R.load rfl Try.underlying22 rfl rfl (hcx 2 _ rfl)) rfl rfl rfl ?_
      refine KL.op (R.lenS rfl Try.underlying22 rfl hown) rfl rfl rfl ?_
      refine KL.op ((R.add rfl rfl rfl (by dsimp only [InR]; omega)).val (congrArg (Value.int .i64) (show ((s.loose.length + (flat (s.fr.take k)).length : Nat) : Int) + ((s.fr.getD k default).own.length : Nat) = ((s.loose.length + (flat (s.fr.take (k + 1))).length : Nat) : Int) by omega))) rfl rfl rfl ?_
      refine KL.op (R.assign rfl rfl) rfl rfl rfl ?_
      refine KL.nil ?_
      refine KQ.normBlock ?_
      refine KQ.seq ?_
      refine KC.region ?_
      refine KL.op (R.move rfl rfl) rfl rfl rfl ?_
      refine KL.op ((R.add rfl rfl rfl (by dsimp only [InR]; omega)).val (congrArg (Value.int .i64) (show (k : Int) + 1 = ((k + 1 : Nat) : Int) by omega))) rfl rfl rfl ?_
      refine KL.op (R.assign rfl rfl) rfl rfl rfl ?_
      refine KL.nil ?_
      refine KQ.again (k + 1) ?_ ?_ ?_
      · exact (Sub.cons rfl (Sub.cons rfl (Ext.sub (by repeat (first | exact Ext.refl _ _ | refine Ext.put rfl ?_ | refine Ext.drop rfl ?_)))))
      · omega
      · exact ⟨by omega, rfl⟩
    · intro hc15
      try simp only [decide_eq_true_eq, decide_eq_false_iff_not, Bool.not_eq_true', Bool.not_eq_false', Bool.and_eq_true, Bool.or_eq_false_iff] at hc15
      refine KC.exit ?_
      refine KQ.exitThen ?_
      refine KQ.exitThen ?_
      refine KQ.hit ?_
      refine KQ.seq ?_
      refine KC.seq ?_
      refine KC.region ?_
      refine KL.op (R.move rfl rfl) rfl rfl rfl ?_
      refine KL.op (R.assign rfl rfl) rfl rfl rfl ?_
      refine KL.nil ?_
      refine KQ.seq ?_
      refine KC.ret ?_
      refine KQ.ofRet ?_
      refine KQ.fin1 Try.results26 rfl ?_
      have e : k = s.fr.length := by omega
      subst e
      rw [List.take_length]
      exact ⟨by rw [hal], o0⟩

end Go.Proofs.Ytglopfbdnpbgeaa
