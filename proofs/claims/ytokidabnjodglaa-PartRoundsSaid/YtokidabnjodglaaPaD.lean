/- The parts of a body. No condition but sizes. -/
import Derived.Test.YtokidabnjodglaaPaC
namespace Go.Proofs.Ytokidabnjodglaa
open Go Go.RowKit
set_option linter.unusedVariables false
set_option linter.unusedSimpArgs false
set_option linter.unnecessarySimpa false

/-- the caller's blocks: the variable's, the row's -/
def OA (b2 : Nat) (v : Value) : Nat → Prop := fun b => b = b2 ∨ (v ≠ .slice none 0 0 ∧ b = vblock v)
theorem raw_len (l : List Ins) : (raw l).length ≤ l.length := by
  have h : ∀ k, (cut l k).2.length ≤ k := by
    intro k
    induction k with
    | zero => exact Nat.le_refl _
    | succ k ih =>
      cases h : cutHere l k with
      | true => rw [cut_yes h]; simp; omega
      | false => rw [cut_no h]; omega
  exact h _
theorem parts_len (l : List Ins) : (parts l).length ≤ l.length := Nat.le_trans (List.length_filter_le _ _) (raw_len l)
theorem raw_R (l : List Ins) (hl : l.length ≤ 1000000) : ∀ p ∈ raw l, p.R ∧ p.a < p.t ∧ p.t ≤ l.length := by
  have h : ∀ k, k ≤ l.length → ∀ p ∈ (cut l k).2, p.R ∧ p.a < p.t ∧ p.t ≤ l.length := by
    intro k
    induction k with
    | zero => intro _ p hp; cases hp
    | succ k ih =>
      intro hk p hp
      cases h : cutHere l k with
      | true =>
        rw [cut_yes h] at hp
        rcases List.mem_append.1 hp with hp | hp
        · exact ih (by omega) p hp
        · simp only [List.mem_cons, List.not_mem_nil, or_false] at hp
          subst hp
          have hc := csum_sub l (cut l k).1 (k + 1)
          have hle := cut_le l k
          exact ⟨by show InR .u64 _; dsimp only [InR]; omega, by dsimp only; omega, hk⟩
      | false => rw [cut_no h] at hp; exact ih (by omega) p hp
  exact h _ (Nat.le_refl _)
theorem parts_R {l : List Ins} (hl : l.length ≤ 1000000) : ∀ p ∈ parts l, p.R ∧ p.a < p.t ∧ p.t ≤ l.length := fun p hp => raw_R l hl p (List.mem_filter.1 hp).1
theorem take_parts {l : List Ins} {k : Nat} {p : Pt} (h : nth (parts l) k = some p) : (parts l).take k ++ [p] = (parts l).take (k + 1) := (take_add h).symm

set_option maxRecDepth 100000 in
set_option maxHeartbeats 4000000 in
theorem AppSeq_k {Hb H : Heap} {v : Value} {l : List Ins} {ga : Nat} (hs : Sl 5 EIns Hb v l) (ba0 : H[ga]? = some (.cells [.func (.func 16) #[.agg [v].toArray] #[]].toArray 33 (0, 0))) (ob : Old Hb H) (hl : l.length ≤ 1000000) : Ct Try.prog 20 [.slice none 0 0, .func (.func 17) #[] #[.pointer (some ⟨ga, 0, none⟩)]] H (fun u H' => Own 3 EPt 31 #[] H.size H' u (parts l) ∧ Old H H') := by
  refine Ct.mkM Try.func20 rfl Try.ntmps20 rfl ?_
  intro W0 hW0
  have o0 : Old H H := Old.refl H
  have ob0 := ob
  refine KC.seq ?_
  refine KC.region ?_
  refine KL.opM (M.box rfl rfl rfl) rfl rfl rfl ?_
  rintro _ H1 ⟨rfl, n1⟩
  have z1 := n1.2.1
  have o0 := o0.trans n1.1
  have ob := ob.trans n1.1
  have b1 := n1.2.2
  have bq := b1
  refine KL.op (R.assign rfl rfl) rfl rfl rfl ?_
  refine KL.nil ?_
  refine KQ.seq ?_
  refine KC.seq ?_
  refine KC.seq ?_
  refine KC.region ?_
  refine KL.op (R.move rfl rfl) rfl rfl rfl ?_
  refine KL.nil ?_
  refine KQ.seq ?_
  refine KC.block ?_
  refine KC.range (first := []) (cap := [.pointer (some ⟨ga, 0, none⟩)]) (xs := hand (parts l)) (N := fun b => b < Hb.size) (O0 := OA (Array.size H) (.slice none 0 0)) (fun k Hk O => ∃ vv, O = OA (Array.size H) vv ∧ Old H Hk ∧ Hk[Array.size H]? = some (.cells [vv].toArray 24 (0, 0)) ∧ Own 3 EPt 31 #[] (Array.size H + 3) Hk vv ((parts l).take k)) (fun _ _ _ _ => False) rfl Try.call17 (fun H2 o => All1_iter hs ((o0.trans o).blk ba0) (ob.trans o) hl) (fun b hb => by have := ob.1; omega) (fun b hb h => Or.elim h (fun e => by have := ob0.1; subst e; omega) (fun e => e.1 rfl)) (fun b h => Or.elim h (fun e => by subst e; omega) (fun e => absurd rfl e.1)) (fun k A C O h hsz hag => by
      obtain ⟨vv, rfl, o, hb, w⟩ := h
      refine ⟨vv, rfl, ⟨by have := o.1; omega, fun b hb => (hag b (by have := o.1; omega) (.inl (by omega))).trans (o.2 b hb)⟩, (hag _ (blk_lt hb) (.inr (.inl rfl))).trans hb, w.keepN ?_⟩
      rcases w.lt with e | e
      · exact .inl e
      · by_cases hn : vv = .slice none 0 0
        · exact .inl hn
        · exact .inr (hag _ e.2 (.inr (.inr ⟨hn, rfl⟩)))) (fun e k A C O h _ _ => h) (⟨_, rfl, o0, bq, Own.nil _ _ _ _ _ _⟩) (by rfl) (hand_one) ?_ ?_ ?_
  · intro k vs H2 O W1 hk hz hOd hOl hI
    have oB : Old H2 H2 := Old.refl _
    obtain ⟨vv, rfl, o0, bq, wv⟩ := hI
    obtain ⟨p, hp, rfl⟩ := hand_at hk
    have hpl := nth_lt' hp
    have hpll := parts_len l
    have hpR := (parts_R hl p (by rw [nth_eq] at hp; exact List.mem_of_getElem? hp)).1
    have hlv := wv.lt
    have zo0 := o0.1
    refine KCR.region ?_
    refine KL.opM (M.alloc rfl zr31 rfl) rfl rfl rfl ?_
    rintro _ H3 ⟨rfl, n3⟩
    have z3 := n3.2.1
    have o0 := o0.trans n3.1
    have bq := (n3.1).blk bq
    have wv := wv.old n3.1
    have oB := oB.trans n3.1
    have b3 := n3.2.2
    have bp := b3
    refine KL.opS (S.storeAgg (us := p.cells) rfl sz31 rfl rfl (rfl) (by intro u hu; simp only [Pt.cells, List.mem_cons, List.not_mem_nil, or_false] at hu; rcases hu with rfl | rfl | rfl <;> rfl) bp (by simp [Pt.cells])) rfl rfl ?_
    rintro H4 ⟨u4, b4⟩
    have o0 := o0.upd u4 (by omega)
    have zu4 := u4.1
    have bq := ((u4).2 _ (by omega)).trans bq
    have wv := wv.upd u4 (by first | exact .inl rfl | exact .inr (by omega) | exact hlv.imp id (fun h => by omega) | exact wv.lt.imp id (fun h => by omega))
    have oB := oB.upd u4 (by omega)
    have bp := b4
    rw [over_all (by rfl)] at bp
    refine KL.nil ?_
    refine KQR.begin oB ?_
    intro H5 uL
    have o0 := o0.upd uL (by omega)
    have zuL := uL.1
    have bq := ((uL).2 _ (by omega)).trans bq
    have wv := wv.upd uL (by first | exact .inl rfl | exact .inr (by omega) | exact hlv.imp id (fun h => by omega) | exact wv.lt.imp id (fun h => by omega))
    have bp := ((uL).2 _ (by omega)).trans bp
    have stp := StepO.refl (OA (Array.size H) vv) H5
    have zoB := oB.1
    have zuL := uL.1
    refine KCR.block ?_
    refine KCR.region ?_
    refine KL.op (R.load rfl Try.underlying24 rfl rfl (by first | exact cell_of bq rfl | exact cell_of bp rfl | assumption)) rfl rfl rfl ?_
    refine KL.op (R.loadAgg rfl Try.underlying31 rfl sz31 rfl (cells_of bp) rfl) rfl rfl rfl ?_
    refine KL.opM (M.lit rfl Try.underlying24 zs31 (by decide) rfl rfl rfl) rfl rfl rfl ?_
    rintro _ H6 ⟨rfl, n6⟩
    have z6 := n6.2.1
    have o0 := o0.trans n6.1
    have bq := (n6.1).blk bq
    have wv := wv.old n6.1
    have bp := (n6.1).blk bp
    have b6 := n6.2.2
    have se : Sl 3 EPt H6 _ [p] := Sl.lit1N n6 rfl (by decide) ⟨rfl, hpR⟩
    have stp1 := stp.old n6.1
    have lt7 := wv.lt
    refine KL.opM (M.appendN rfl Try.underlying24 inf31 rfl (by decide) rfl rfl wv (by exact se) (fun _ _ h _ => h) (by omega) (by simp only [List.length_take, List.length_singleton]; omega) (by unfold maxLen; simp only [List.length_take, List.length_singleton]; omega)) rfl rfl rfl ?_
    rintro vn H7 ⟨w7, g7, nx7⟩
    try dsimp only at g7 nx7
    have ob7 := g7.oldB wv (by omega)
    have o0 := o0.then ob7 (by omega)
    have z7 := ob7.1
    have bq := (g7.2 _ (blk_lt bq) (by first | exact .inr (by omega) | exact .inl rfl | exact hlv.imp id (fun h => by omega) | exact lt7.imp id (fun h => by omega))).trans bq
    have wv := w7
    have stp2 := stp1.grown (O' := OA (Array.size H) vv) g7 (by
      by_cases e : vv = .slice none 0 0
      · exact .inl e
      · exact .inr (.inl (.inr ⟨e, rfl⟩)))
    refine KL.opS (S.store rfl sz24 rfl rfl wv.cells1 wv.one bq (by simp)) rfl rfl ?_
    rintro H8 ⟨u8, b8⟩
    have o0 := o0.upd u8 (by omega)
    have zu8 := u8.1
    have wv := wv.upd u8 (by first | exact .inl rfl | exact .inr (by omega) | exact hlv.imp id (fun h => by omega) | exact wv.lt.imp id (fun h => by omega))
    have bq := b8
    have stp3 := (stp2.upd u8 (.inl (.inl rfl))).to (O2 := OA (Array.size H) vn) (fun b hb => by
      rcases hb with e | ⟨e, e2⟩
      · exact .inl (.inl e)
      · rcases nx7 with e3 | ⟨e3, e4⟩ | e3
        · exact absurd e3 e
        · exact .inl (.inr ⟨e3, e2.trans e4⟩)
        · exact .inr (by omega))
    refine KL.nil ?_
    refine KQ.normBlock ?_
    refine KQR.fin rfl ?_
    exact ⟨OA (Array.size H) vn, stp3, vn, rfl, o0, bq, by rw [← take_parts hp]; exact wv⟩
  · intro H9 O hI hD hz hOd
    obtain ⟨vv, rfl, o0, bq, wv⟩ := hI
    rw [hand_len, List.take_length] at wv
    refine KQD.normBlock ?_
    refine KQD.seq ?_
    refine KCD.seq ?_
    refine KCD.region ?_
    refine KL.op (R.load rfl Try.underlying24 rfl rfl (cell_of bq rfl)) rfl rfl rfl ?_
    refine KL.op (R.assign rfl rfl) rfl rfl rfl ?_
    refine KL.nil ?_
    refine KQD.seq ?_
    refine KCD.ret ?_
    refine KQD.finM (.inr rfl) hD ?_
    intro H10 uD
    have o0 := o0.upd uD (by omega)
    have zuD := uD.1
    have bq := ((uD).2 _ (by omega)).trans bq
    have wv := wv.upd uD (by first | exact .inl rfl | exact .inr (by omega) | exact hlv.imp id (fun h => by omega) | exact wv.lt.imp id (fun h => by omega))
    refine ⟨_, Res.tmp Try.results20 rfl, ?_⟩
    exact ⟨wv.weak (by omega), o0⟩
  · intro e k H11 O he hk hI hD hz hOd
    exact hI.elim

set_option maxRecDepth 100000 in
set_option maxHeartbeats 4000000 in
theorem Collect_k {Hb H : Heap} {v : Value} {l : List Ins} {ga : Nat} (hs : Sl 5 EIns Hb v l) (ba0 : H[ga]? = some (.cells [.func (.func 16) #[.agg [v].toArray] #[]].toArray 33 (0, 0))) (ob : Old Hb H) (hl : l.length ≤ 1000000) : Ct Try.prog 14 [.func (.func 17) #[] #[.pointer (some ⟨ga, 0, none⟩)]] H (fun u H' => Own 3 EPt 31 #[] H.size H' u (parts l) ∧ Old H H') := by
  refine Ct.mk Try.func14 rfl Try.ntmps14 rfl ?_
  intro W0 hW0
  have o0 : Old H H := Old.refl H
  refine KC.seq ?_
  refine KC.region ?_
  refine KL.op (R.assign rfl rfl) rfl rfl rfl ?_
  refine KL.nil ?_
  refine KQ.seq ?_
  refine KC.seq ?_
  refine KC.region ?_
  refine KL.op (R.move rfl rfl) rfl rfl rfl ?_
  refine KL.call rfl rfl rfl rfl Try.call20 rfl rfl rfl (AppSeq_k hs (o0.blk ba0) ob hl) ?_
  rintro vr H1 ⟨wr, ox⟩
  have zc_H1 := (ox).1
  have o0 := o0.trans ox
  have ob := ob.trans ox
  refine KL.op (R.assign rfl rfl) rfl rfl rfl ?_
  refine KL.nil ?_
  refine KQ.seq ?_
  refine KC.ret ?_
  refine KQ.ofRet ?_
  refine KQ.fin1 Try.results14 rfl ?_
  exact ⟨wr, o0⟩

set_option maxRecDepth 100000 in
set_option maxHeartbeats 4000000 in
theorem Parts_k {H : Heap} {v : Value} {l : List Ins} (hs : Sl 5 EIns H v l) (hl : l.length ≤ 1000000) : Ct Try.prog 7 [v] H (fun u H' => Own 3 EPt 31 #[] H.size H' u (parts l) ∧ Old H H') := by
  refine Ct.mk Try.func7 rfl Try.ntmps7 rfl ?_
  intro W0 hW0
  have o0 : Old H H := Old.refl H
  refine KC.seq ?_
  refine KC.region ?_
  refine KL.op (R.assign rfl rfl) rfl rfl rfl ?_
  refine KL.nil ?_
  refine KQ.seq ?_
  refine KC.seq ?_
  refine KC.region ?_
  refine KL.op (R.move rfl rfl) rfl rfl rfl ?_
  refine KL.call rfl rfl rfl rfl Try.call11 rfl rfl rfl (All_k hs.cells1 hs.one) ?_
  rintro _ H1 ⟨ga, rfl, ba, hga, ox⟩
  have zc_H1 := (ox).1
  have o0 := o0.trans ox
  refine KL.call rfl rfl rfl rfl Try.call14 rfl rfl rfl (Collect_k hs ba ox hl) ?_
  rintro vr H2 ⟨wr, ox2⟩
  have zc_H2 := (ox2).1
  have o0 := o0.trans ox2
  refine KL.op (R.assign rfl rfl) rfl rfl rfl ?_
  refine KL.nil ?_
  refine KQ.seq ?_
  refine KC.ret ?_
  refine KQ.ofRet ?_
  refine KQ.fin1 Try.results7 rfl ?_
  exact ⟨wr.weak (by omega), o0⟩

end Go.Proofs.Ytokidabnjodglaa
