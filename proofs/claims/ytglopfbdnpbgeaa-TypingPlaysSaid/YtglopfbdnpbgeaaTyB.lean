/- The stack's simple calls. No condition but sizes. -/
import Derived.Test.YtglopfbdnpbgeaaTyA
namespace Go.Proofs.Ytglopfbdnpbgeaa
open Go Go.RowKit
set_option linter.unusedVariables false
set_option linter.unusedSimpArgs false
set_option linter.unnecessarySimpa false

theorem DS.put_len (s : DS) (f : DF) : (s.put f).fr.length = s.fr.length := by simp [DS.put]
theorem DS.push_all (s : DS) (l : List Int) : (s.push l).all = s.all ++ l := by
  unfold DS.push DS.add
  by_cases h : s.fr = []
  · rw [if_pos h, DS.all_nil h]
    show (s.loose ++ l) ++ flat s.fr = _
    rw [h]; simp [flat]
  · rw [if_neg h, DS.all_eq h]
    show (s.put _).all = _
    rw [DS.all_put h, List.append_assoc]
theorem DS.push_frs (s : DS) (l : List Int) : frs (s.push l).loose.length (s.push l).fr = frs s.loose.length s.fr := by
  unfold DS.push DS.add
  by_cases h : s.fr = []
  · rw [if_pos h]; dsimp only; rw [h]; rfl
  · rw [if_neg h]
    exact DS.frs_same h _ rfl rfl rfl
theorem DS.push_len (s : DS) (l : List Int) : (s.push l).fr.length = s.fr.length := by
  unfold DS.push DS.add
  split
  · rfl
  · exact DS.put_len _ _
theorem DS.push_most (s : DS) (l : List Int) : (s.push l).most = max s.most (s.all.length + l.length) := rfl
theorem Nx.of {H : Heap} {v v' : Value} (h : Nx H v v') {b : Nat} (hb : Of v' b) : Of v b ∨ H.size ≤ b := by
  obtain ⟨h1, rfl⟩ := hb
  rcases h with h | ⟨h2, h3⟩ | h
  · exact absurd h h1
  · exact .inl ⟨h2, h3⟩
  · exact .inr h
theorem Own.ofTo {α : Type} {n : Nat} {E : El α} {e : TypeId} {H0 H : Heap} {B : Nat} {v : Value} {l : List α} {j : Nat} (h : Own n E e H0 B H v l) (hj : j ≤ l.length) {b : Nat} (hb : Of (toV v j) b) : Of v b := by
  obtain ⟨h1, rfl⟩ := hb
  obtain ⟨flat, ⟨h0, hc⟩, h2⟩ := h
  rcases hc with ⟨rfl, h3⟩ | ⟨g, cap, cur, rfl, hB, hg, r⟩
  · exact absurd (by simp [toV]; omega) h1
  · exact ⟨by simp, rfl⟩
section
variable {B : Nat} {X X' : Nat → Prop} {H H' H2 : Heap} {g : Nat} {vl vf vl' vf' : Value} {s s' : DS}
theorem TS.set (h : TS B X H g vl vf s) (st : StepO (MS g vl vf) (MS g vl vf) H H') (hl : ∀ b, Of vl' b → Of vl b ∨ H.size ≤ b) (hf : ∀ b, Of vf' b → Of vf b ∨ H.size ≤ b) (hne : ∀ b, Of vl' b → ¬ Of vf' b)
    (bg' : H'[g]? = some (.cells [vl', vf', .int .i64 s'.most].toArray 52 (0, 0))) (wl' : Own 1 (EInt .u8) 5 #[] B H' vl' s'.all) (wf' : Own 4 (FP EFr H2 (MX (MS g vl vf) X)) 58 #[] B H' vf' (frs s'.loose.length s'.fr))
    (st2 : StepO (MS g vl vf) (MS g vl vf) H2 H') (hz : H.size ≤ H2.size) (hz2 : ∀ b, Of vf' b → Of vf b ∨ H2.size ≤ b) (hz3 : ∀ b, Of vl' b → Of vl b ∨ H2.size ≤ b) (hm' : s'.most ≤ 1000000) (ha' : s'.all.length ≤ 1000000) (hf' : s'.fr.length ≤ 1000000) : TS B X H' g vl' vf' s' ∧ StepO (MS g vl vf) (MS g vl' vf') H H' := by
  have hg := blk_lt h.bg
  have hst : StepO (MS g vl vf) (MS g vl' vf') H H' := st.to fun b hb => by
    rcases hb with rfl | hb | hb
    · exact .inl (.inl rfl)
    · exact (hl b hb).imp (fun h => .inr (.inl h)) id
    · exact (hf b hb).imp (fun h => .inr (.inr h)) id
  have hst2 : StepO (MS g vl vf) (MS g vl' vf') H2 H' := st2.to fun b hb => by
    rcases hb with rfl | hb | hb
    · exact .inl (.inl rfl)
    · exact (hz3 b hb).imp (fun h => .inr (.inl h)) id
    · exact (hz2 b hb).imp (fun h => .inr (.inr h)) id
  refine ⟨⟨bg', h.hB, wl', wf'.fp hst2.mx1, fun b hb => ?_, fun b hb => ?_, hne, fun b hb => ⟨by have := (h.hX b hb).1; have := st.1; omega, fun hm => ?_⟩, hm', ha', hf'⟩, hst⟩
  · rcases hl b hb with h1 | h1
    · exact h.ngl b h1
    · omega
  · rcases hf b hb with h1 | h1
    · exact h.ngf b h1
    · omega
  · have hx := h.hX b hb
    rcases hst.2.2 b hm with h1 | h1
    · exact hx.2 h1
    · omega
/-- the operands change alone -/
theorem TS.setL (h : TS B X H g vl vf s) (st : StepO (MS g vl (.slice none 0 0)) (MS g vl (.slice none 0 0)) H H') (hl : ∀ b, Of vl' b → Of vl b ∨ H.size ≤ b)
    (bg' : H'[g]? = some (.cells [vl', vf, .int .i64 s'.most].toArray 52 (0, 0))) (wl' : Own 1 (EInt .u8) 5 #[] B H' vl' s'.all) (hfr : frs s'.loose.length s'.fr = frs s.loose.length s.fr)
    (hm' : s'.most ≤ 1000000) (ha' : s'.all.length ≤ 1000000) (hf' : s'.fr.length ≤ 1000000) : TS B X H' g vl' vf s' ∧ StepO (MS g vl vf) (MS g vl' vf) H H' := by
  have hw : ∀ b, MS g vl (.slice none 0 0) b → MS g vl vf b := fun b hb => hb.imp id (fun h => h.imp id (fun h => absurd h (Of.nil b)))
  have st1 : StepO (MS g vl vf) (MS g vl vf) H H' := (st.wide hw).to fun b hb => .inl hb
  have wf' : Own 4 (FP EFr H (MX (MS g vl vf) X)) 58 #[] B H' vf (frs s'.loose.length s'.fr) := by
    rw [hfr]
    refine h.wf.stp st fun b hb => ?_
    rintro (h1 | h1 | h1)
    · exact h.ngf b hb h1
    · exact h.nlf b h1 hb
    · exact Of.nil b h1
  refine h.set st1 hl (fun b hb => .inl hb) (fun b hb hb2 => ?_) bg' wl' wf' st1 (Nat.le_refl _) (fun b hb => .inl hb) hl hm' ha' hf'
  rcases hl b hb with h1 | h1
  · exact h.nlf b h1 hb2
  · have := (h.wf.ofLt hb2).2; omega
end
theorem clone_nil {H : Heap} {l : List Int} (hs : Sl 1 (EInt .u8) H (.slice none 0 0) l) : l = [] := by
  obtain ⟨a, cap, hv, _⟩ := hs
  injection hv with _ h2 _
  exact List.eq_nil_of_length_eq_zero h2.symm

set_option maxRecDepth 100000 in
set_option maxHeartbeats 4000000 in
theorem Clone_no {H : Heap} : Ct Try.prog 31 [.slice none 0 0] H (fun u H' => u = .slice none 0 0 ∧ H = H') := by
  refine Ct.mk Try.func31 rfl Try.ntmps31 rfl ?_
  intro W0 hW0
  have o0 : Old H H := Old.refl H
  refine KC.seq ?_
  refine KC.region ?_
  refine KL.op (R.assign rfl rfl) rfl rfl rfl ?_
  refine KL.nil ?_
  refine KQ.seq ?_
  refine KC.seq ?_
  refine KC.seq ?_
  refine KC.region ?_
  refine KL.op (R.move rfl rfl) rfl rfl rfl ?_
  refine KL.op (R.eqlS rfl Try.underlying22 rfl rfl) rfl rfl rfl ?_
  refine KL.nil ?_
  refine KQ.seq ?_
  refine KC.condT rfl ?_
  refine KC.seq ?_
  refine KC.region ?_
  refine KL.op (R.assign rfl rfl) rfl rfl rfl ?_
  refine KL.nil ?_
  refine KQ.seq ?_
  refine KC.ret ?_
  refine KQ.retThen ?_
  refine KQ.ofRet ?_
  refine KQ.fin1 Try.results31 rfl ?_
  exact ⟨rfl, rfl⟩

set_option maxRecDepth 100000 in
set_option maxHeartbeats 4000000 in
theorem Clone_some {H : Heap} {a : Addr} {n c : Nat} {l : List Int} (hs : Sl 1 (EInt .u8) H (.slice (some a) n c) l) (hl : l.length ≤ 1000000) : Ct Try.prog 31 [.slice (some a) n c] H (fun u H' => Own 1 (EInt .u8) 5 #[] H.size H' u l ∧ Old H H') := by
  refine Ct.mk Try.func31 rfl Try.ntmps31 rfl ?_
  intro W0 hW0
  have o0 : Old H H := Old.refl H
  refine KC.seq ?_
  refine KC.region ?_
  refine KL.op (R.assign rfl rfl) rfl rfl rfl ?_
  refine KL.nil ?_
  refine KQ.seq ?_
  refine KC.seq ?_
  refine KC.seq ?_
  refine KC.region ?_
  refine KL.op (R.move rfl rfl) rfl rfl rfl ?_
  refine KL.op (R.eqlS rfl Try.underlying22 rfl rfl) rfl rfl rfl ?_
  refine KL.nil ?_
  refine KQ.seq ?_
  refine KC.condF rfl ?_
  refine KC.skip ?_
  refine KQ.seq ?_
  refine KC.seq ?_
  refine KC.region ?_
  refine KL.opM (M.lit rfl Try.underlying22 zs5 (by decide) rfl rfl rfl) rfl rfl rfl ?_
  rintro _ H1 ⟨rfl, n1⟩
  have z1 := n1.2.1
  have o0 := o0.trans n1.1
  have b1 := n1.2.2
  have w5 : Own 1 (EInt .u8) 5 #[] H.size H1 _ [] := Own.litI (l := []) n1 (Nat.le_refl _) rfl (by decide) (by intro x hx; cases hx)
  refine KL.op (R.move rfl rfl) rfl rfl rfl ?_
  have lt2 := w5.lt
  refine KL.opM (M.append rfl Try.underlying22 inf5 rfl (by decide) rfl rfl w5 (by exact hs.old o0) (fun _ _ h _ => h) (by omega) (by simp; omega) (by unfold maxLen; simp; omega)) rfl rfl rfl ?_
  rintro v0 H2 ⟨w2, g2⟩
  try dsimp only at g2
  have ob2 := g2.oldB w5 (by omega)
  have o0 := o0.then ob2 (by omega)
  have z2 := ob2.1
  have w5 := w2
  rw [List.nil_append] at w5
  refine KL.op (R.assign rfl rfl) rfl rfl rfl ?_
  refine KL.nil ?_
  refine KQ.seq ?_
  refine KC.ret ?_
  refine KQ.ofRet ?_
  refine KQ.fin1 Try.results31 rfl ?_
  exact ⟨w5, o0⟩

theorem Clone_k {H : Heap} {v : Value} {l : List Int} (hs : Sl 1 (EInt .u8) H v l) (hl : l.length ≤ 1000000) : Ct Try.prog 31 [v] H (fun u H' => Own 1 (EInt .u8) 5 #[] H.size H' u l ∧ Old H H') := by
  obtain ⟨a, cap, hv, h1, h2, h3, h4⟩ := id hs
  cases a with
  | some a => subst hv; exact Clone_some hs hl
  | none =>
    have hc := h3 rfl
    have hn : l.length = 0 := by omega
    rw [hn, hc] at hv
    subst hv
    have := clone_nil hs
    subst this
    exact Clone_no.mono fun u H' h => ⟨by rw [h.1]; exact Own.nil _ _ _ _ _ _, by rw [← h.2]; exact Old.refl _⟩

set_option maxRecDepth 100000 in
set_option maxHeartbeats 4000000 in
theorem top_no {B : Nat} {X : Nat → Prop} {H : Heap} {g : Nat} {vl vf : Value} {s : DS} (h : TS B X H g vl vf s) (h0 : s.fr = []) : Ct Try.prog 28 [.pointer (some ⟨g, 0, none⟩)] H (fun u H' => u = .pointer none ∧ H = H') := by
  refine Ct.mk Try.func28 rfl Try.ntmps28 rfl ?_
  intro W0 hW0
  have o0 : Old H H := Old.refl H
  obtain ⟨bg, hB, wl, wf, ngl, ngf, nlf, hX, hm, ha, hfl⟩ := id h
  have zg := blk_lt bg
  refine KC.seq ?_
  refine KC.region ?_
  refine KL.op (R.assign rfl rfl) rfl rfl rfl ?_
  refine KL.nil ?_
  refine KQ.seq ?_
  refine KC.seq ?_
  refine KC.seq ?_
  refine KC.region ?_
  refine KL.op (R.move rfl rfl) rfl rfl rfl ?_
  refine KL.op (R.eqlP rfl Try.underlying26 rfl rfl) rfl rfl rfl ?_
  refine KL.op (R.move rfl rfl) rfl rfl rfl ?_
  refine KL.op (R.move rfl rfl) rfl rfl rfl ?_
  refine KL.op (R.nilCheck rfl rfl) rfl rfl rfl ?_
  refine KL.op ((by first | exact R.fieldAddr rfl Try.underlying52 rfl rfl sz50 rfl | exact R.fieldAddrP rfl Try.underlying52 rfl rfl sz50 rfl)) rfl rfl rfl ?_
  refine KL.op (R.load rfl Try.underlying50 rfl rfl (cell_of bg rfl)) rfl rfl rfl ?_
  refine KL.op (R.lenO rfl Try.underlying50 rfl wf) rfl rfl rfl ?_
  refine KL.op ((R.eql rfl rfl rfl).val (congrArg Value.bool (decide_eq_true (by rw [h0]; rfl)))) rfl rfl rfl ?_
  refine KL.op (R.pick rfl rfl rfl) rfl rfl rfl ?_
  refine KL.nil ?_
  refine KQ.seq ?_
  refine KC.condT rfl ?_
  refine KC.seq ?_
  refine KC.region ?_
  refine KL.op (R.assign rfl rfl) rfl rfl rfl ?_
  refine KL.nil ?_
  refine KQ.seq ?_
  refine KC.ret ?_
  refine KQ.retThen ?_
  refine KQ.ofRet ?_
  refine KQ.fin1 Try.results28 rfl ?_
  exact ⟨rfl, rfl⟩

set_option maxRecDepth 100000 in
set_option maxHeartbeats 4000000 in
theorem top_yes {B : Nat} {X : Nat → Prop} {H : Heap} {g : Nat} {vl vf : Value} {s : DS} (h : TS B X H g vl vf s) (h0 : s.fr ≠ []) : Ct Try.prog 28 [.pointer (some ⟨g, 0, none⟩)] H (fun u H' => u = (.pointer (some ((vbase vf).add ((s.fr.length - 1) * 4)))) ∧ H = H') := by
  refine Ct.mk Try.func28 rfl Try.ntmps28 rfl ?_
  intro W0 hW0
  have o0 : Old H H := Old.refl H
  obtain ⟨bg, hB, wl, wf, ngl, ngf, nlf, hX, hm, ha, hfl⟩ := id h
  have zg := blk_lt bg
  have hfn := frs_len s.fr s.loose.length
  have hn := List.length_pos_iff.2 h0
  refine KC.seq ?_
  refine KC.region ?_
  refine KL.op (R.assign rfl rfl) rfl rfl rfl ?_
  refine KL.nil ?_
  refine KQ.seq ?_
  refine KC.seq ?_
  refine KC.seq ?_
  refine KC.region ?_
  refine KL.op (R.move rfl rfl) rfl rfl rfl ?_
  refine KL.op (R.eqlP rfl Try.underlying26 rfl rfl) rfl rfl rfl ?_
  refine KL.op (R.move rfl rfl) rfl rfl rfl ?_
  refine KL.op (R.move rfl rfl) rfl rfl rfl ?_
  refine KL.op (R.nilCheck rfl rfl) rfl rfl rfl ?_
  refine KL.op ((by first | exact R.fieldAddr rfl Try.underlying52 rfl rfl sz50 rfl | exact R.fieldAddrP rfl Try.underlying52 rfl rfl sz50 rfl)) rfl rfl rfl ?_
  refine KL.op (R.load rfl Try.underlying50 rfl rfl (cell_of bg rfl)) rfl rfl rfl ?_
  refine KL.op (R.lenO rfl Try.underlying50 rfl wf) rfl rfl rfl ?_
  refine KL.op ((R.eql rfl rfl rfl).val (congrArg Value.bool (decide_eq_false (by omega)))) rfl rfl rfl ?_
  refine KL.op (R.pick rfl rfl rfl) rfl rfl rfl ?_
  refine KL.nil ?_
  refine KQ.seq ?_
  refine KC.condF rfl ?_
  refine KC.skip ?_
  refine KQ.seq ?_
  refine KC.seq ?_
  refine KC.quiet (by kernel_rfl) (by kernel_rfl) ?_
  refine KD.op (R.move rfl rfl) rfl rfl rfl ?_
  refine KD.op (R.nilCheck rfl rfl) rfl rfl rfl ?_
  refine KD.op ((by first | exact R.fieldAddr rfl Try.underlying52 rfl rfl sz50 rfl | exact R.fieldAddrP rfl Try.underlying52 rfl rfl sz50 rfl)) rfl rfl rfl ?_
  refine KD.op (R.load rfl Try.underlying50 rfl rfl (cell_of bg rfl)) rfl rfl rfl ?_
  refine KD.op (R.move rfl rfl) rfl rfl rfl ?_
  refine KD.op (R.nilCheck rfl rfl) rfl rfl rfl ?_
  refine KD.op ((by first | exact R.fieldAddr rfl Try.underlying52 rfl rfl sz50 rfl | exact R.fieldAddrP rfl Try.underlying52 rfl rfl sz50 rfl)) rfl rfl rfl ?_
  refine KD.op (R.load rfl Try.underlying50 rfl rfl (cell_of bg rfl)) rfl rfl rfl ?_
  refine KD.op (R.lenO rfl Try.underlying50 rfl wf) rfl rfl rfl ?_
  refine KD.op ((R.sub rfl rfl rfl (by dsimp only [InR]; omega)).val (congrArg (Value.int .i64) (show ((frs s.loose.length s.fr).length : Int) - 1 = ((s.fr.length - 1 : Nat) : Int) by omega))) rfl rfl rfl ?_
  refine KD.op (R.indexON (j := s.fr.length - 1) rfl Try.underlying50 sz58 rfl rfl wf rfl (by omega)) rfl rfl rfl ?_
  refine KD.op (R.assign rfl rfl) rfl rfl rfl ?_
  refine KD.nil ?_
  refine KQ.seq ?_
  refine KC.ret ?_
  refine KQ.ofRet ?_
  refine KQ.fin1 Try.results28 rfl ?_
  exact ⟨rfl, rfl⟩

set_option maxRecDepth 100000 in
set_option maxHeartbeats 4000000 in
theorem top_nil {H : Heap} : Ct Try.prog 28 [.pointer none] H (fun u H' => u = .pointer none ∧ H = H') := by
  refine Ct.mk Try.func28 rfl Try.ntmps28 rfl ?_
  intro W0 hW0
  have o0 : Old H H := Old.refl H
  refine KC.seq ?_
  refine KC.region ?_
  refine KL.op (R.assign rfl rfl) rfl rfl rfl ?_
  refine KL.nil ?_
  refine KQ.seq ?_
  refine KC.seq ?_
  refine KC.seq ?_
  refine KC.region ?_
  refine KL.op (R.move rfl rfl) rfl rfl rfl ?_
  refine KL.op (R.eqlP rfl Try.underlying26 rfl rfl) rfl rfl rfl ?_
  refine KL.op (R.move rfl rfl) rfl rfl rfl ?_
  refine KL.skip rfl rfl rfl ?_
  refine KL.skip rfl rfl rfl ?_
  refine KL.skip rfl rfl rfl ?_
  refine KL.skip rfl rfl rfl ?_
  refine KL.skip rfl rfl rfl ?_
  refine KL.skip rfl rfl rfl ?_
  refine KL.op (R.pick rfl rfl rfl) rfl rfl rfl ?_
  refine KL.nil ?_
  refine KQ.seq ?_
  refine KC.condT rfl ?_
  refine KC.seq ?_
  refine KC.region ?_
  refine KL.op (R.assign rfl rfl) rfl rfl rfl ?_
  refine KL.nil ?_
  refine KQ.seq ?_
  refine KC.ret ?_
  refine KQ.retThen ?_
  refine KQ.ofRet ?_
  refine KQ.fin1 Try.results28 rfl ?_
  exact ⟨rfl, rfl⟩

set_option maxRecDepth 100000 in
set_option maxHeartbeats 4000000 in
theorem Push_k {B : Nat} {X : Nat → Prop} {H : Heap} {g : Nat} {vl vf : Value} {s : DS} (h : TS B X H g vl vf s) {v : Value} {l : List Int} (hs : Sl 1 (EInt .u8) H v l) (hl : s.all.length + l.length ≤ 1000000) : Ct Try.prog 10 [.pointer (some ⟨g, 0, none⟩), v] H (fun _ H' => ∃ vl', TS B X H' g vl' vf (s.push l) ∧ StepO (MS g vl vf) (MS g vl' vf) H H') := by
  refine Ct.mk Try.func10 rfl Try.ntmps10 rfl ?_
  intro W0 hW0
  have o0 : OldB 0 H H := OldB.refl _ H
  obtain ⟨bg, hB, wl, wf, ngl, ngf, nlf, hX, hm, ha, hfl⟩ := id h
  have zg := blk_lt bg
  have st : StepO (MS g vl (.slice none 0 0)) (MS g vl (.slice none 0 0)) H H := StepO.refl _ _
  have hgg : MS g vl (.slice none 0 0) g := .inl rfl
  have hvl : vl = .slice none 0 0 ∨ MS g vl (.slice none 0 0) (vblock vl) := Classical.byCases .inl (fun e => .inr (.inr (.inl ⟨e, rfl⟩)))
  have hgl : vl = .slice none 0 0 ∨ g ≠ vblock vl := Classical.byCases .inl (fun e => .inr (fun e2 => ngl _ ⟨e, rfl⟩ e2.symm))
  have hgl2 : vl = .slice none 0 0 ∨ vblock vl ≠ g := hgl.imp id Ne.symm
  refine KC.seq ?_
  refine KC.seq ?_
  refine KC.region ?_
  refine KL.op (R.move rfl rfl) rfl rfl rfl ?_
  refine KL.op (R.eqlP rfl Try.underlying26 rfl rfl) rfl rfl rfl ?_
  refine KL.nil ?_
  refine KQ.seq ?_
  refine KC.condF rfl ?_
  refine KC.skip ?_
  refine KQ.seq ?_
  refine KC.seq ?_
  refine KC.region ?_
  refine KL.op (R.move rfl rfl) rfl rfl rfl ?_
  refine KL.op (R.move rfl rfl) rfl rfl rfl ?_
  refine KL.op (R.nilCheck rfl rfl) rfl rfl rfl ?_
  refine KL.op ((by first | exact R.fieldAddr rfl Try.underlying52 rfl rfl sz22 rfl | exact R.fieldAddrP rfl Try.underlying52 rfl rfl sz22 rfl)) rfl rfl rfl ?_
  refine KL.op (R.load rfl Try.underlying22 rfl rfl (cell_of bg rfl)) rfl rfl rfl ?_
  refine KL.op (R.move rfl rfl) rfl rfl rfl ?_
  have lt1 := wl.lt
  refine KL.opM (M.appendN rfl Try.underlying22 inf5 rfl (by decide) rfl rfl wl (by exact hs) (fun _ _ h _ => h) (by omega) (by omega) (by unfold maxLen; omega)) rfl rfl rfl ?_
  rintro vn H1 ⟨w1, g1, nx1⟩
  try dsimp only at g1 nx1
  have ob1 := g1.oldB wl (by omega)
  have o0 := o0.trans (ob1.mono (by omega))
  have z1 := ob1.1
  have bg := (g1.2 _ (blk_lt bg) (by first | exact .inr (by omega) | exact .inl rfl | exact hgl | exact hgn | exact lt1.imp id (fun h => by omega))).trans bg
  have st := (by first | exact st.grownN g1 (lt1.imp id (fun h => by omega)) | exact st.grown hvl g1)
  have wl := w1
  have hgn : vn = .slice none 0 0 ∨ vblock vn ≠ g := Classical.byCases .inl (fun e => .inr (fun e2 => (nx1.of ⟨e, rfl⟩).elim (fun hb => ngl _ hb e2) (fun hb => by omega)))
  have nx := nx1
  refine KL.op (R.nilCheck rfl rfl) rfl rfl rfl ?_
  refine KL.op ((by first | exact R.fieldAddr rfl Try.underlying52 rfl rfl sz22 rfl | exact R.fieldAddrP rfl Try.underlying52 rfl rfl sz22 rfl)) rfl rfl rfl ?_
  refine KL.opS (S.store rfl sz22 rfl rfl wl.cells1 wl.one bg (by simp)) rfl rfl ?_
  rintro H2 ⟨u2, b2⟩
  have o0 := o0.trans (OldB.upd u2 (by omega))
  have zu2 := u2.1
  have wl := wl.upd u2 (by first | exact .inl rfl | exact .inr (by omega) | exact hgl | exact hgn | exact wl.lt.imp id (fun h => by omega))
  have st := (by first | exact st.upd u2 | exact st.updN u2 (by omega))
  have bg := b2
  refine KL.nil ?_
  refine KQ.seq ?_
  refine KC.text (clOf [(4, 1), (8, 1), (13, 2)]) (fun _ _ => True) (by kernel_rfl) (by kernel_rfl) (fun _ => trivial) ?_
  refine KP.op rfl (fun Hg hg => R.move rfl rfl) rfl rfl rfl ?_
  refine KP.op rfl (fun Hg hg => R.move rfl rfl) rfl rfl rfl ?_
  refine KP.op rfl (fun Hg hg => R.nilCheck rfl rfl) rfl rfl rfl ?_
  refine KP.op rfl (fun Hg hg => (by first | exact R.fieldAddr rfl Try.underlying52 rfl rfl sz3 rfl | exact R.fieldAddrP rfl Try.underlying52 rfl rfl sz3 rfl)) rfl rfl rfl ?_
  refine KP.now rfl (R.load rfl Try.underlying3 rfl rfl (cell_of bg rfl)) rfl rfl rfl ?_
  refine KP.op rfl (fun Hg hg => R.move rfl rfl) rfl rfl rfl ?_
  refine KP.op rfl (fun Hg hg => R.nilCheck rfl rfl) rfl rfl rfl ?_
  refine KP.op rfl (fun Hg hg => (by first | exact R.fieldAddr rfl Try.underlying52 rfl rfl sz22 rfl | exact R.fieldAddrP rfl Try.underlying52 rfl rfl sz22 rfl)) rfl rfl rfl ?_
  refine KP.now rfl (R.load rfl Try.underlying22 rfl rfl (cell_of bg rfl)) rfl rfl rfl ?_
  refine KP.op rfl (fun Hg hg => R.lenO rfl Try.underlying22 rfl wl) rfl rfl rfl ?_
  refine KP.op rfl (fun Hg hg => (R.max rfl rfl rfl).val (congrArg (Value.int .i64) (show max (s.most : Int) ((s.all ++ l).length : Nat) = ((s.push l).most : Nat) by rw [DS.push_most, List.length_append]; omega))) rfl rfl rfl ?_
  refine KP.op rfl (fun Hg hg => R.nilCheck rfl rfl) rfl rfl rfl ?_
  refine KP.op rfl (fun Hg hg => (by first | exact R.fieldAddr rfl Try.underlying52 rfl rfl sz3 rfl | exact R.fieldAddrP rfl Try.underlying52 rfl rfl sz3 rfl)) rfl rfl rfl ?_
  refine KP.opS rfl (S.store rfl sz3 rfl rfl rfl rfl bg (by simp)) rfl rfl (fun _ _ _ _ _ => trivial) ?_
  rintro H3 ⟨u3, b3⟩
  have o0 := o0.trans (OldB.upd u3 (by omega))
  have zu3 := u3.1
  have wl := wl.upd u3 (by first | exact .inl rfl | exact .inr (by omega) | exact hgl | exact hgn | exact wl.lt.imp id (fun h => by omega))
  have st := (by first | exact st.upd u3 | exact st.updN u3 (by omega))
  have bg := b3
  refine KP.nil ?_
  refine KQ.fin0 Try.results10 ?_
  exact ⟨vn, h.setL st (fun b hb => nx.of hb) bg (by rw [DS.push_all]; exact wl) (DS.push_frs s l) (by rw [DS.push_most]; omega) (by rw [DS.push_all, List.length_append]; exact hl) (by rw [DS.push_len]; exact hfl)⟩

set_option maxRecDepth 100000 in
set_option maxHeartbeats 4000000 in
theorem Push_nil {H : Heap} (v : Value) : Ct Try.prog 10 [.pointer none, v] H (fun _ H' => H = H') := by
  refine Ct.mk Try.func10 rfl Try.ntmps10 rfl ?_
  intro W0 hW0
  have o0 : Old H H := Old.refl H
  refine KC.seq ?_
  refine KC.seq ?_
  refine KC.region ?_
  refine KL.op (R.move rfl rfl) rfl rfl rfl ?_
  refine KL.op (R.eqlP rfl Try.underlying26 rfl rfl) rfl rfl rfl ?_
  refine KL.nil ?_
  refine KQ.seq ?_
  refine KC.condT rfl ?_
  refine KC.ret ?_
  refine KQ.retThen ?_
  refine KQ.ofRet ?_
  refine KQ.fin0 Try.results10 ?_
  exact rfl

set_option maxRecDepth 100000 in
set_option maxHeartbeats 4000000 in
theorem Frames_nil {H : Heap} : Ct Try.prog 24 [.pointer none] H (fun u H' => u = .int .i64 0 ∧ H = H') := by
  refine Ct.mk Try.func24 rfl Try.ntmps24 rfl ?_
  intro W0 hW0
  have o0 : Old H H := Old.refl H
  refine KC.seq ?_
  refine KC.region ?_
  refine KL.op (R.assign rfl rfl) rfl rfl rfl ?_
  refine KL.nil ?_
  refine KQ.seq ?_
  refine KC.seq ?_
  refine KC.seq ?_
  refine KC.region ?_
  refine KL.op (R.move rfl rfl) rfl rfl rfl ?_
  refine KL.op (R.eqlP rfl Try.underlying26 rfl rfl) rfl rfl rfl ?_
  refine KL.nil ?_
  refine KQ.seq ?_
  refine KC.condT rfl ?_
  refine KC.seq ?_
  refine KC.region ?_
  refine KL.op (R.assign rfl rfl) rfl rfl rfl ?_
  refine KL.nil ?_
  refine KQ.seq ?_
  refine KC.ret ?_
  refine KQ.retThen ?_
  refine KQ.ofRet ?_
  refine KQ.fin1 Try.results24 rfl ?_
  exact ⟨rfl, rfl⟩

set_option maxRecDepth 100000 in
set_option maxHeartbeats 4000000 in
theorem Height_nil {H : Heap} : Ct Try.prog 25 [.pointer none] H (fun u H' => u = .int .i64 0 ∧ H = H') := by
  refine Ct.mk Try.func25 rfl Try.ntmps25 rfl ?_
  intro W0 hW0
  have o0 : Old H H := Old.refl H
  refine KC.seq ?_
  refine KC.region ?_
  refine KL.op (R.assign rfl rfl) rfl rfl rfl ?_
  refine KL.nil ?_
  refine KQ.seq ?_
  refine KC.seq ?_
  refine KC.seq ?_
  refine KC.region ?_
  refine KL.op (R.move rfl rfl) rfl rfl rfl ?_
  refine KL.op (R.eqlP rfl Try.underlying26 rfl rfl) rfl rfl rfl ?_
  refine KL.nil ?_
  refine KQ.seq ?_
  refine KC.condT rfl ?_
  refine KC.seq ?_
  refine KC.region ?_
  refine KL.op (R.assign rfl rfl) rfl rfl rfl ?_
  refine KL.nil ?_
  refine KQ.seq ?_
  refine KC.ret ?_
  refine KQ.retThen ?_
  refine KQ.ofRet ?_
  refine KQ.fin1 Try.results25 rfl ?_
  exact ⟨rfl, rfl⟩

set_option maxRecDepth 100000 in
set_option maxHeartbeats 4000000 in
theorem Most_nil {H : Heap} : Ct Try.prog 27 [.pointer none] H (fun u H' => u = .int .i64 0 ∧ H = H') := by
  refine Ct.mk Try.func27 rfl Try.ntmps27 rfl ?_
  intro W0 hW0
  have o0 : Old H H := Old.refl H
  refine KC.seq ?_
  refine KC.region ?_
  refine KL.op (R.assign rfl rfl) rfl rfl rfl ?_
  refine KL.nil ?_
  refine KQ.seq ?_
  refine KC.seq ?_
  refine KC.seq ?_
  refine KC.region ?_
  refine KL.op (R.move rfl rfl) rfl rfl rfl ?_
  refine KL.op (R.eqlP rfl Try.underlying26 rfl rfl) rfl rfl rfl ?_
  refine KL.nil ?_
  refine KQ.seq ?_
  refine KC.condT rfl ?_
  refine KC.seq ?_
  refine KC.region ?_
  refine KL.op (R.assign rfl rfl) rfl rfl rfl ?_
  refine KL.nil ?_
  refine KQ.seq ?_
  refine KC.ret ?_
  refine KQ.retThen ?_
  refine KQ.ofRet ?_
  refine KQ.fin1 Try.results27 rfl ?_
  exact ⟨rfl, rfl⟩

set_option maxRecDepth 100000 in
set_option maxHeartbeats 4000000 in
theorem Frames_k {B : Nat} {X : Nat → Prop} {H : Heap} {g : Nat} {vl vf : Value} {s : DS} (h : TS B X H g vl vf s) : Ct Try.prog 24 [.pointer (some ⟨g, 0, none⟩)] H (fun u H' => u = .int .i64 s.fr.length ∧ H = H') := by
  refine Ct.mk Try.func24 rfl Try.ntmps24 rfl ?_
  intro W0 hW0
  have o0 : Old H H := Old.refl H
  obtain ⟨bg, hB, wl, wf, ngl, ngf, nlf, hX, hm, ha, hfl⟩ := id h
  have zg := blk_lt bg
  refine KC.seq ?_
  refine KC.region ?_
  refine KL.op (R.assign rfl rfl) rfl rfl rfl ?_
  refine KL.nil ?_
  refine KQ.seq ?_
  refine KC.seq ?_
  refine KC.seq ?_
  refine KC.region ?_
  refine KL.op (R.move rfl rfl) rfl rfl rfl ?_
  refine KL.op (R.eqlP rfl Try.underlying26 rfl rfl) rfl rfl rfl ?_
  refine KL.nil ?_
  refine KQ.seq ?_
  refine KC.condF rfl ?_
  refine KC.skip ?_
  refine KQ.seq ?_
  refine KC.seq ?_
  refine KC.region ?_
  refine KL.op (R.move rfl rfl) rfl rfl rfl ?_
  refine KL.op (R.nilCheck rfl rfl) rfl rfl rfl ?_
  refine KL.op ((by first | exact R.fieldAddr rfl Try.underlying52 rfl rfl sz50 rfl | exact R.fieldAddrP rfl Try.underlying52 rfl rfl sz50 rfl)) rfl rfl rfl ?_
  refine KL.op (R.load rfl Try.underlying50 rfl rfl (cell_of bg rfl)) rfl rfl rfl ?_
  refine KL.op ((R.lenO rfl Try.underlying50 rfl wf).val (congrArg (fun n : Nat => Value.int .i64 n) (frs_len _ _))) rfl rfl rfl ?_
  refine KL.op (R.assign rfl rfl) rfl rfl rfl ?_
  refine KL.nil ?_
  refine KQ.seq ?_
  refine KC.ret ?_
  refine KQ.ofRet ?_
  refine KQ.fin1 Try.results24 rfl ?_
  exact ⟨rfl, rfl⟩

set_option maxRecDepth 100000 in
set_option maxHeartbeats 4000000 in
theorem Height_k {B : Nat} {X : Nat → Prop} {H : Heap} {g : Nat} {vl vf : Value} {s : DS} (h : TS B X H g vl vf s) : Ct Try.prog 25 [.pointer (some ⟨g, 0, none⟩)] H (fun u H' => u = .int .i64 s.all.length ∧ H = H') := by
  refine Ct.mk Try.func25 rfl Try.ntmps25 rfl ?_
  intro W0 hW0
  have o0 : Old H H := Old.refl H
  obtain ⟨bg, hB, wl, wf, ngl, ngf, nlf, hX, hm, ha, hfl⟩ := id h
  have zg := blk_lt bg
  refine KC.seq ?_
  refine KC.region ?_
  refine KL.op (R.assign rfl rfl) rfl rfl rfl ?_
  refine KL.nil ?_
  refine KQ.seq ?_
  refine KC.seq ?_
  refine KC.seq ?_
  refine KC.region ?_
  refine KL.op (R.move rfl rfl) rfl rfl rfl ?_
  refine KL.op (R.eqlP rfl Try.underlying26 rfl rfl) rfl rfl rfl ?_
  refine KL.nil ?_
  refine KQ.seq ?_
  refine KC.condF rfl ?_
  refine KC.skip ?_
  refine KQ.seq ?_
  refine KC.seq ?_
  refine KC.region ?_
  refine KL.op (R.move rfl rfl) rfl rfl rfl ?_
  refine KL.op (R.nilCheck rfl rfl) rfl rfl rfl ?_
  refine KL.op ((by first | exact R.fieldAddr rfl Try.underlying52 rfl rfl sz22 rfl | exact R.fieldAddrP rfl Try.underlying52 rfl rfl sz22 rfl)) rfl rfl rfl ?_
  refine KL.op (R.load rfl Try.underlying22 rfl rfl (cell_of bg rfl)) rfl rfl rfl ?_
  refine KL.op (R.lenO rfl Try.underlying22 rfl wl) rfl rfl rfl ?_
  refine KL.op (R.assign rfl rfl) rfl rfl rfl ?_
  refine KL.nil ?_
  refine KQ.seq ?_
  refine KC.ret ?_
  refine KQ.ofRet ?_
  refine KQ.fin1 Try.results25 rfl ?_
  exact ⟨rfl, rfl⟩

set_option maxRecDepth 100000 in
set_option maxHeartbeats 4000000 in
theorem Most_k {B : Nat} {X : Nat → Prop} {H : Heap} {g : Nat} {vl vf : Value} {s : DS} (h : TS B X H g vl vf s) : Ct Try.prog 27 [.pointer (some ⟨g, 0, none⟩)] H (fun u H' => u = .int .i64 s.most ∧ H = H') := by
  refine Ct.mk Try.func27 rfl Try.ntmps27 rfl ?_
  intro W0 hW0
  have o0 : Old H H := Old.refl H
  obtain ⟨bg, hB, wl, wf, ngl, ngf, nlf, hX, hm, ha, hfl⟩ := id h
  have zg := blk_lt bg
  refine KC.seq ?_
  refine KC.region ?_
  refine KL.op (R.assign rfl rfl) rfl rfl rfl ?_
  refine KL.nil ?_
  refine KQ.seq ?_
  refine KC.seq ?_
  refine KC.seq ?_
  refine KC.region ?_
  refine KL.op (R.move rfl rfl) rfl rfl rfl ?_
  refine KL.op (R.eqlP rfl Try.underlying26 rfl rfl) rfl rfl rfl ?_
  refine KL.nil ?_
  refine KQ.seq ?_
  refine KC.condF rfl ?_
  refine KC.skip ?_
  refine KQ.seq ?_
  refine KC.seq ?_
  refine KC.region ?_
  refine KL.op (R.move rfl rfl) rfl rfl rfl ?_
  refine KL.op (R.nilCheck rfl rfl) rfl rfl rfl ?_
  refine KL.op ((by first | exact R.fieldAddr rfl Try.underlying52 rfl rfl sz3 rfl | exact R.fieldAddrP rfl Try.underlying52 rfl rfl sz3 rfl)) rfl rfl rfl ?_
  refine KL.op (R.load rfl Try.underlying3 rfl rfl (cell_of bg rfl)) rfl rfl rfl ?_
  refine KL.op (R.assign rfl rfl) rfl rfl rfl ?_
  refine KL.nil ?_
  refine KQ.seq ?_
  refine KC.ret ?_
  refine KQ.ofRet ?_
  refine KQ.fin1 Try.results27 rfl ?_
  exact ⟨rfl, rfl⟩

end Go.Proofs.Ytglopfbdnpbgeaa
