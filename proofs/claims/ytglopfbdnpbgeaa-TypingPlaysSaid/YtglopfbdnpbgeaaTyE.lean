/- How many operands are left. No condition. -/
import Derived.Test.YtglopfbdnpbgeaaTyD
namespace Go.Proofs.Ytglopfbdnpbgeaa
open Go Go.RowKit
set_option linter.unusedVariables false
set_option linter.unusedSimpArgs false
set_option linter.unnecessarySimpa false

def DS.leftN (s : DS) (l : List Int) : Int := match s.left l with
  | none => -1
  | some m => (s.base.length + m : Nat)
theorem DS.leftN_none {s : DS} {l : List Int} (h : s.left l = none) : s.leftN l = -1 := by unfold DS.leftN; rw [h]
theorem DS.leftN_some {s : DS} {l : List Int} {m : Nat} (h : s.left l = some m) : s.leftN l = (s.base.length + m : Nat) := by unfold DS.leftN; rw [h]
theorem DS.left_le {s : DS} {l : List Int} {m : Nat} (h : s.left l = some m) : s.fr ≠ [] ∧ m ≤ s.top.own.length := by
  unfold DS.left at h
  split at h
  · cases h
  · next h0 => exact ⟨h0, fitN_le h⟩
/-- the blocks that a round writes -/
def OL (a b : Nat) (x : Nat) : Prop := x = a ∨ x = b

set_option maxRecDepth 100000 in
set_option maxHeartbeats 4000000 in
theorem left_no {B : Nat} {X : Nat → Prop} {H : Heap} {g : Nat} {vl vf : Value} {s : DS} (h : TS B X H g vl vf s) (v : Value) (h0 : s.fr = []) : Ct Try.prog 29 [.pointer (some ⟨g, 0, none⟩), v] H (fun u H' => u = .int .i64 (-1) ∧ Old H H') := by
  refine Ct.mkM Try.func29 rfl Try.ntmps29 rfl ?_
  intro W0 hW0
  have o0 : Old H H := Old.refl H
  refine KC.seq ?_
  refine KC.region ?_
  refine KL.opM (M.box rfl rfl rfl) rfl rfl rfl ?_
  rintro _ H1 ⟨rfl, n1⟩
  have z1 := n1.2.1
  have o0 := o0.trans n1.1
  have b1 := n1.2.2
  have bS := b1
  refine KL.opM (M.alloc rfl zr3 rfl) rfl rfl rfl ?_
  rintro _ H2 ⟨rfl, n2⟩
  have z2 := n2.2.1
  have o0 := o0.trans n2.1
  have bS := (n2.1).blk bS
  have b2 := n2.2.2
  have bR := b2
  refine KL.nil ?_
  refine KQ.seq ?_
  refine KC.seq ?_
  refine KC.region ?_
  refine KL.op (R.load rfl Try.underlying26 rfl rfl (cell_of bS rfl)) rfl rfl rfl ?_
  refine KL.call rfl rfl rfl rfl Try.call28 rfl rfl rfl (top_no (h.old o0) h0) ?_
  rintro _ _ ⟨rfl, rfl⟩
  refine KL.opM (M.alloc rfl zr55 rfl) rfl rfl rfl ?_
  rintro _ H3 ⟨rfl, n3⟩
  have z3 := n3.2.1
  have o0 := o0.trans n3.1
  have bS := (n3.1).blk bS
  have bR := (n3.1).blk bR
  have b3 := n3.2.2
  have bF := b3
  refine KL.opS (S.store rfl sz55 rfl rfl rfl rfl bF (by simp)) rfl rfl ?_
  rintro H4 ⟨u4, b4⟩
  have o0 := o0.upd u4 (by omega)
  have zu4 := u4.1
  have bS := ((u4).2 _ (by omega)).trans bS
  have bR := ((u4).2 _ (by omega)).trans bR
  have bF := b4
  refine KL.nil ?_
  refine KQ.seq ?_
  refine KC.seq ?_
  refine KC.seq ?_
  refine KC.region ?_
  refine KL.op (R.load rfl Try.underlying55 rfl rfl (cell_of bF rfl)) rfl rfl rfl ?_
  refine KL.op (R.eqlP rfl Try.underlying55 rfl rfl) rfl rfl rfl ?_
  refine KL.nil ?_
  refine KQ.seq ?_
  refine KC.condT rfl ?_
  refine KC.seq ?_
  refine KC.region ?_
  refine KL.opS (S.store rfl sz3 rfl rfl rfl rfl bR (by simp)) rfl rfl ?_
  rintro H5 ⟨u5, b5⟩
  have o0 := o0.upd u5 (by omega)
  have zu5 := u5.1
  have bS := ((u5).2 _ (by omega)).trans bS
  have bF := ((u5).2 _ (by omega)).trans bF
  have bR := b5
  refine KL.nil ?_
  refine KQ.seq ?_
  refine KC.ret ?_
  refine KQ.retThen ?_
  refine KQ.finM (.inr rfl) _ (Res.cell1 Try.results29 rfl Try.underlying3 rfl (by first | exact cell_of bS rfl | exact cell_of bR rfl | exact cell_of bF rfl | assumption)) ?_
  exact ⟨rfl, o0⟩

set_option maxRecDepth 100000 in
set_option maxHeartbeats 4000000 in
theorem left_nil {H : Heap} (v : Value) : Ct Try.prog 29 [.pointer none, v] H (fun u H' => u = .int .i64 (-1) ∧ Old H H') := by
  refine Ct.mkM Try.func29 rfl Try.ntmps29 rfl ?_
  intro W0 hW0
  have o0 : Old H H := Old.refl H
  refine KC.seq ?_
  refine KC.region ?_
  refine KL.opM (M.box rfl rfl rfl) rfl rfl rfl ?_
  rintro _ H1 ⟨rfl, n1⟩
  have z1 := n1.2.1
  have o0 := o0.trans n1.1
  have b1 := n1.2.2
  have bS := b1
  refine KL.opM (M.alloc rfl zr3 rfl) rfl rfl rfl ?_
  rintro _ H2 ⟨rfl, n2⟩
  have z2 := n2.2.1
  have o0 := o0.trans n2.1
  have bS := (n2.1).blk bS
  have b2 := n2.2.2
  have bR := b2
  refine KL.nil ?_
  refine KQ.seq ?_
  refine KC.seq ?_
  refine KC.region ?_
  refine KL.op (R.load rfl Try.underlying26 rfl rfl (cell_of bS rfl)) rfl rfl rfl ?_
  refine KL.call rfl rfl rfl rfl Try.call28 rfl rfl rfl (top_nil) ?_
  rintro _ _ ⟨rfl, rfl⟩
  refine KL.opM (M.alloc rfl zr55 rfl) rfl rfl rfl ?_
  rintro _ H3 ⟨rfl, n3⟩
  have z3 := n3.2.1
  have o0 := o0.trans n3.1
  have bS := (n3.1).blk bS
  have bR := (n3.1).blk bR
  have b3 := n3.2.2
  have bF := b3
  refine KL.opS (S.store rfl sz55 rfl rfl rfl rfl bF (by simp)) rfl rfl ?_
  rintro H4 ⟨u4, b4⟩
  have o0 := o0.upd u4 (by omega)
  have zu4 := u4.1
  have bS := ((u4).2 _ (by omega)).trans bS
  have bR := ((u4).2 _ (by omega)).trans bR
  have bF := b4
  refine KL.nil ?_
  refine KQ.seq ?_
  refine KC.seq ?_
  refine KC.seq ?_
  refine KC.region ?_
  refine KL.op (R.load rfl Try.underlying55 rfl rfl (cell_of bF rfl)) rfl rfl rfl ?_
  refine KL.op (R.eqlP rfl Try.underlying55 rfl rfl) rfl rfl rfl ?_
  refine KL.nil ?_
  refine KQ.seq ?_
  refine KC.condT rfl ?_
  refine KC.seq ?_
  refine KC.region ?_
  refine KL.opS (S.store rfl sz3 rfl rfl rfl rfl bR (by simp)) rfl rfl ?_
  rintro H5 ⟨u5, b5⟩
  have o0 := o0.upd u5 (by omega)
  have zu5 := u5.1
  have bS := ((u5).2 _ (by omega)).trans bS
  have bF := ((u5).2 _ (by omega)).trans bF
  have bR := b5
  refine KL.nil ?_
  refine KQ.seq ?_
  refine KC.ret ?_
  refine KQ.retThen ?_
  refine KQ.finM (.inr rfl) _ (Res.cell1 Try.results29 rfl Try.underlying3 rfl (by first | exact cell_of bS rfl | exact cell_of bR rfl | exact cell_of bF rfl | assumption)) ?_
  exact ⟨rfl, o0⟩

set_option maxRecDepth 100000 in
set_option maxHeartbeats 4000000 in
theorem left_yes {B : Nat} {X : Nat → Prop} {H : Heap} {g : Nat} {vl vf : Value} {s : DS} (h : TS B X H g vl vf s) {v : Value} {l : List Int} (hs : Sl 1 (EInt .u8) H v l) (h0 : s.fr ≠ []) : Ct Try.prog 29 [.pointer (some ⟨g, 0, none⟩), v] H (fun u H' => u = .int .i64 (s.leftN l) ∧ Old H H') := by
  refine Ct.mkM Try.func29 rfl Try.ntmps29 rfl ?_
  intro W0 hW0
  have o0 : Old H H := Old.refl H
  obtain ⟨bg0, hB, wl0, wf, ngl, ngf, nlf, hX, hm, ha, hfl⟩ := id h
  have zg := blk_lt bg0
  have hfn := frs_len s.fr s.loose.length
  have hn := List.length_pos_iff.2 h0
  obtain ⟨cs, hcl, hcx, hfp⟩ := wf.fpAt (by decide) (s.fr.length - 1) (by omega)
  rw [DS.frs_top h0] at hfp
  obtain ⟨lv, ev, rfl, hlab, hend, hlb, hle⟩ := hfp H (KeepP.refl _ _)
  dsimp only at hcx hlab hend hlb hle
  have hall := congrArg List.length (DS.all_eq h0)
  rw [List.length_append] at hall
  have hll := hs.len
  refine KC.seq ?_
  refine KC.region ?_
  refine KL.opM (M.box rfl rfl rfl) rfl rfl rfl ?_
  rintro _ H1 ⟨rfl, n1⟩
  have z1 := n1.2.1
  have o0 := o0.trans n1.1
  have b1 := n1.2.2
  have bS := b1
  refine KL.opM (M.alloc rfl zr3 rfl) rfl rfl rfl ?_
  rintro _ H2 ⟨rfl, n2⟩
  have z2 := n2.2.1
  have o0 := o0.trans n2.1
  have bS := (n2.1).blk bS
  have b2 := n2.2.2
  have bR := b2
  refine KL.nil ?_
  refine KQ.seq ?_
  refine KC.seq ?_
  refine KC.region ?_
  refine KL.op (R.load rfl Try.underlying26 rfl rfl (cell_of bS rfl)) rfl rfl rfl ?_
  refine KL.call rfl rfl rfl rfl Try.call28 rfl rfl rfl (top_yes (h.old o0) h0) ?_
  rintro _ _ ⟨rfl, rfl⟩
  refine KL.opM (M.alloc rfl zr55 rfl) rfl rfl rfl ?_
  rintro _ H3 ⟨rfl, n3⟩
  have z3 := n3.2.1
  have o0 := o0.trans n3.1
  have bS := (n3.1).blk bS
  have bR := (n3.1).blk bR
  have b3 := n3.2.2
  have bF := b3
  refine KL.opS (S.store rfl sz55 rfl rfl rfl rfl bF (by simp)) rfl rfl ?_
  rintro H4 ⟨u4, b4⟩
  have o0 := o0.upd u4 (by omega)
  have zu4 := u4.1
  have bS := ((u4).2 _ (by omega)).trans bS
  have bR := ((u4).2 _ (by omega)).trans bR
  have bF := b4
  refine KL.nil ?_
  refine KQ.seq ?_
  refine KC.seq ?_
  refine KC.seq ?_
  refine KC.region ?_
  refine KL.op (R.load rfl Try.underlying55 rfl rfl (cell_of bF rfl)) rfl rfl rfl ?_
  refine KL.op (R.eqlP rfl Try.underlying55 rfl rfl) rfl rfl rfl ?_
  refine KL.nil ?_
  refine KQ.seq ?_
  refine KC.condF rfl ?_
  refine KC.skip ?_
  refine KQ.seq ?_
  refine KC.seq ?_
  refine KC.region ?_
  refine KL.op (R.load rfl Try.underlying26 rfl rfl (cell_of bS rfl)) rfl rfl rfl ?_
  refine KL.op (R.nilCheck rfl rfl) rfl rfl rfl ?_
  refine KL.op ((by first | exact R.fieldAddr rfl Try.underlying52 rfl rfl sz22 rfl | exact R.fieldAddrP rfl Try.underlying52 rfl rfl sz22 rfl)) rfl rfl rfl ?_
  refine KL.op (R.load rfl Try.underlying22 rfl rfl (cell_of (o0.blk bg0) rfl)) rfl rfl rfl ?_
  refine KL.op (R.lenO rfl Try.underlying22 rfl wl0) rfl rfl rfl ?_
  refine KL.opM (M.alloc rfl zr3 rfl) rfl rfl rfl ?_
  rintro _ H5 ⟨rfl, n5⟩
  have z5 := n5.2.1
  have o0 := o0.trans n5.1
  have bS := (n5.1).blk bS
  have bR := (n5.1).blk bR
  have bF := (n5.1).blk bF
  have b5 := n5.2.2
  have bN := b5
  refine KL.opS (S.store rfl sz3 rfl rfl rfl rfl bN (by simp)) rfl rfl ?_
  rintro H6 ⟨u6, b6⟩
  have o0 := o0.upd u6 (by omega)
  have zu6 := u6.1
  have bS := ((u6).2 _ (by omega)).trans bS
  have bR := ((u6).2 _ (by omega)).trans bR
  have bF := ((u6).2 _ (by omega)).trans bF
  have bN := b6
  refine KL.nil ?_
  refine KQ.seq ?_
  refine KC.seq ?_
  refine KC.seq ?_
  refine KC.region ?_
  refine KL.op (R.move rfl rfl) rfl rfl rfl ?_
  refine KL.call rfl rfl rfl rfl Try.call32 rfl rfl rfl (Backward_k (hs.old o0)) ?_
  rintro _ H7 ⟨rfl, bb, ox⟩
  have zc_H7 := (ox).1
  have o0 := o0.trans ox
  have bS := (ox).blk bS
  have bR := (ox).blk bR
  have bF := (ox).blk bF
  have bN := (ox).blk bN
  have zbb := blk_lt bb
  refine KL.nil ?_
  refine KQ.seq ?_
  refine KC.block ?_
  refine KC.range (first := []) (cap := [.pointer (some ⟨(Array.size H6), 0, none⟩)]) (xs := back l) (N := fun b => b < H.size ∨ b = (Array.size H6)) (O0 := OL (Array.size H1) (Array.size H4)) (fun k Hk O => O = OL (Array.size H1) (Array.size H4) ∧ Old H Hk ∧ Hk[(Array.size H)]? = some (.cells [.pointer (some ⟨g, 0, none⟩)].toArray 26 (0, 0)) ∧ Hk[(Array.size H2)]? = some (.cells [(.pointer (some ((vbase vf).add ((s.fr.length - 1) * 4))))].toArray 55 (0, 0)) ∧ Hk[(Array.size H1)]? = some (.cells [.int .i64 0].toArray 3 (0, 0)) ∧ ∃ m, m ≤ s.top.own.length ∧ fitN s.top.dead s.top.own s.top.own.length l.reverse = fitN s.top.dead s.top.own m (l.reverse.drop k) ∧ Hk[(Array.size H4)]? = some (.cells [.int .i64 (s.base.length + m : Nat)].toArray 3 (0, 0))) (fun e k Hk O => e = .ret ∧ O = OL (Array.size H1) (Array.size H4) ∧ Old H Hk ∧ s.left l = none ∧ Hk[(Array.size H1)]? = some (.cells [.int .i64 (-1)].toArray 3 (0, 0))) rfl Try.call33 (fun H2 o => Back_iter hs (o0.trans o) (o.blk bb)) (fun b hb => by rcases hb with hb | hb <;> omega) (fun b hb h => by rcases h with h | h <;> rcases hb with hb | hb <;> omega) (fun b h => by rcases h with h | h <;> omega) (fun k A C O h hsz hag => by
      obtain ⟨rfl, o, b1, b2, b3, m, m1, m2, b4⟩ := h
      exact ⟨rfl, ⟨by have := o.1; omega, fun b hb => (hag b (by have := o.1; omega) (.inl (by omega))).trans (o.2 b hb)⟩, (hag _ (blk_lt b1) (.inl (by omega))).trans b1, (hag _ (blk_lt b2) (.inl (by omega))).trans b2, (hag _ (blk_lt b3) (.inl (by omega))).trans b3, m, m1, m2, (hag _ (blk_lt b4) (.inl (by omega))).trans b4⟩) (fun e k A C O h hsz hag => by
      obtain ⟨rfl, rfl, o, hl, b3⟩ := h
      exact ⟨rfl, rfl, ⟨by have := o.1; omega, fun b hb => (hag b (by have := o.1; omega) (.inl (by omega))).trans (o.2 b hb)⟩, hl, (hag _ (blk_lt b3) (.inl (by omega))).trans b3⟩) (⟨rfl, o0, bS, bF, bR, s.top.own.length, Nat.le_refl _, rfl, by rw [hall] at bN; exact bN⟩) (by rfl) (back_two) ?_ ?_ ?_
  · intro k vs H8 O W1 hk hz hOd hOl hI
    have oB : Old H8 H8 := Old.refl _
    obtain ⟨rfl, o0, bS, bF, bR, m, hm1, hm2, bN⟩ := hI
    obtain ⟨hkl, rfl⟩ := back_of hk
    rw [back_rev hkl] at hm2
    have zo0 := o0.1
    refine KCR.region ?_
    refine KL.op (R.assign rfl rfl) rfl rfl rfl ?_
    refine KL.nil ?_
    refine KQR.begin oB ?_
    intro H9 uL
    have o0 := o0.upd uL (by omega)
    have zuL := uL.1
    have bS := ((uL).2 _ (by omega)).trans bS
    have bF := ((uL).2 _ (by omega)).trans bF
    have bR := ((uL).2 _ (by omega)).trans bR
    have bN := ((uL).2 _ (by omega)).trans bN
    have stp := StepO.refl (OL (Array.size H1) (Array.size H4)) H9
    have hoR : OL (Array.size H1) (Array.size H4) (Array.size H1) := .inl rfl
    have hoN : OL (Array.size H1) (Array.size H4) (Array.size H4) := .inr rfl
    have zoB := oB.1
    have zuL := uL.1
    refine KCR.block ?_
    refine KCR.seq ?_
    refine KCR.seq ?_
    refine KCR.text (clOf [(0, 1), (1, 1), (4, 1)]) (fun _ _ => True) (by kernel_rfl) (by kernel_rfl) (fun _ => trivial) ?_
    refine KP.now rfl (R.load rfl Try.underlying3 rfl rfl (cell_of bN rfl)) rfl rfl rfl ?_
    refine KP.now rfl (R.load rfl Try.underlying55 rfl rfl (cell_of bF rfl)) rfl rfl rfl ?_
    refine KP.op rfl (fun Hg hg => R.nilCheck rfl rfl) rfl rfl rfl ?_
    refine KP.op rfl (fun Hg hg => (by first | exact R.fieldAddr rfl Try.underlying58 rfl rfl sz3 rfl | exact R.fieldAddrP rfl Try.underlying58 rfl rfl sz3 rfl)) rfl rfl rfl ?_
    refine KP.now rfl (R.load rfl Try.underlying3 rfl rfl (o0.cell (hcx 2 _ rfl))) rfl rfl rfl ?_
    refine KP.op rfl (fun Hg hg => R.eql rfl rfl rfl) rfl rfl rfl ?_
    refine KP.nil ?_
    refine KQR.seq ?_
    refine KCR.iteL rfl ?_ ?_
    · intro hc28
      try simp only [decide_eq_true_eq, decide_eq_false_iff_not, Bool.not_eq_true', Bool.not_eq_false', Bool.and_eq_true, Bool.or_eq_false_iff] at hc28
      have hm0 : m = 0 := by omega
      refine KCR.seq ?_
      refine KCR.seq ?_
      refine KCR.region ?_
      refine KL.op (R.load rfl Try.underlying55 rfl rfl (cell_of bF rfl)) rfl rfl rfl ?_
      refine KL.op (R.nilCheck rfl rfl) rfl rfl rfl ?_
      refine KL.op ((by first | exact R.fieldAddr rfl Try.underlying58 rfl rfl sz4 rfl | exact R.fieldAddrP rfl Try.underlying58 rfl rfl sz4 rfl)) rfl rfl rfl ?_
      refine KL.op (R.load rfl Try.underlying4 rfl rfl (o0.cell (hcx 3 _ rfl))) rfl rfl rfl ?_
      refine KL.op (R.not rfl rfl) rfl rfl rfl ?_
      refine KL.nil ?_
      refine KQR.seq ?_
      refine KCR.iteL rfl ?_ ?_
      · intro hc33
        try simp only [decide_eq_true_eq, decide_eq_false_iff_not, Bool.not_eq_true', Bool.not_eq_false', Bool.and_eq_true, Bool.or_eq_false_iff] at hc33
        have hdead : s.top.dead = false := by simpa using hc33
        refine KCR.seq ?_
        refine KCR.region ?_
        refine KL.opS (S.store rfl sz3 rfl rfl rfl rfl bR (by simp)) rfl rfl ?_
        rintro H10 ⟨u10, b10⟩
        have o0 := o0.upd u10 (by omega)
        have zu10 := u10.1
        have bS := ((u10).2 _ (by omega)).trans bS
        have bF := ((u10).2 _ (by omega)).trans bF
        have bN := ((u10).2 _ (by omega)).trans bN
        have stp := (by first | exact stp.upd u10 | exact stp.updN u10 (by omega))
        have bR := b10
        refine KL.nil ?_
        refine KQR.seq ?_
        refine KCR.ret ?_
        refine KQ.retThen ?_
        refine KQ.retThen ?_
        refine KQ.retBlock ?_
        refine KQR.fin rfl ?_
        exact ⟨_, stp, rfl, rfl, o0, by unfold DS.left; rw [if_neg h0, hm2]; first | (rw [hm0, hdead]; rfl) | (rw [hmm, fit_stop (by omega)]), bR⟩
      · intro hc33
        try simp only [decide_eq_true_eq, decide_eq_false_iff_not, Bool.not_eq_true', Bool.not_eq_false', Bool.and_eq_true, Bool.or_eq_false_iff] at hc33
        have hdead : s.top.dead = true := by simpa using hc33
        refine KCR.skip ?_
        refine KQR.seq ?_
        refine KCR.exit ?_
        refine KQ.exitThen ?_
        refine KQ.hit ?_
        refine KQR.fin rfl ?_
        first
          | exact ⟨_, stp, rfl, o0, bS, bF, bR, 0, Nat.zero_le _, by rw [hm2, hm0, hdead]; rfl, by rw [hm0] at bN; exact bN⟩
          | exact ⟨_, stp, rfl, o0, bS, bF, bR, m - 1, by omega, by rw [hm2, hmm, fit_cons (by omega), Nat.add_sub_cancel], bN⟩
    · intro hc28
      try simp only [decide_eq_true_eq, decide_eq_false_iff_not, Bool.not_eq_true', Bool.not_eq_false', Bool.and_eq_true, Bool.or_eq_false_iff] at hc28
      obtain ⟨m2, hmm⟩ : ∃ m2, m = m2 + 1 := ⟨m - 1, by omega⟩
      have hm9 : m2 = m - 1 := by omega
      obtain ⟨hcw, hrw⟩ := wl0.int (s.base.length + (m - 1)) (by omega)
      have hov : s.all.getD (s.base.length + (m - 1)) default = s.top.own.getD m2 default := by
        rw [hm9, List.getD_eq_getElem?_getD, List.getD_eq_getElem?_getD, DS.all_eq h0, List.getElem?_append_right (by omega), Nat.add_sub_cancel_left]
      refine KCR.skip ?_
      refine KQR.seq ?_
      refine KCR.seq ?_
      refine KCR.region ?_
      refine KL.op (R.load rfl Try.underlying3 rfl rfl (cell_of bN rfl)) rfl rfl rfl ?_
      refine KL.op ((R.sub rfl rfl rfl (by dsimp only [InR]; omega)).val (congrArg (Value.int .i64) (show ((s.base.length + m : Nat) : Int) - 1 = ((s.base.length + (m - 1) : Nat) : Int) by omega))) rfl rfl rfl ?_
      refine KL.opS (S.store rfl sz3 rfl rfl rfl rfl bN (by simp)) rfl rfl ?_
      rintro H11 ⟨u11, b11⟩
      have o0 := o0.upd u11 (by omega)
      have zu11 := u11.1
      have bS := ((u11).2 _ (by omega)).trans bS
      have bF := ((u11).2 _ (by omega)).trans bF
      have bR := ((u11).2 _ (by omega)).trans bR
      have stp := (by first | exact stp.upd u11 | exact stp.updN u11 (by omega))
      have bN := b11
      refine KL.nil ?_
      refine KQR.seq ?_
      refine KCR.seq ?_
      refine KCR.text (clOf [(0, 1), (3, 1), (4, 1), (6, 1)]) (fun _ _ => True) (by kernel_rfl) (by kernel_rfl) (fun _ => trivial) ?_
      refine KP.now rfl (R.load rfl Try.underlying26 rfl rfl (cell_of bS rfl)) rfl rfl rfl ?_
      refine KP.op rfl (fun Hg hg => R.nilCheck rfl rfl) rfl rfl rfl ?_
      refine KP.op rfl (fun Hg hg => (by first | exact R.fieldAddr rfl Try.underlying52 rfl rfl sz22 rfl | exact R.fieldAddrP rfl Try.underlying52 rfl rfl sz22 rfl)) rfl rfl rfl ?_
      refine KP.now rfl (R.load rfl Try.underlying22 rfl rfl (cell_of (o0.blk bg0) rfl)) rfl rfl rfl ?_
      refine KP.now rfl (R.load rfl Try.underlying3 rfl rfl (cell_of bN rfl)) rfl rfl rfl ?_
      refine KP.op rfl (fun Hg hg => R.indexO1 (j := s.base.length + (m - 1)) rfl Try.underlying22 sz5 rfl rfl wl0 rfl (by omega)) rfl rfl rfl ?_
      refine KP.now rfl ((R.load rfl Try.underlying5 rfl rfl (o0.cell hcw)).val (congrArg (Value.int .u8) hov)) rfl rfl rfl ?_
      refine KP.op rfl (fun Hg hg => R.assign rfl rfl) rfl rfl rfl ?_
      refine KP.nil ?_
      refine KQR.seq ?_
      refine KCR.seq ?_
      refine KCR.region ?_
      refine KL.op (R.move rfl rfl) rfl rfl rfl ?_
      refine KL.op (R.move rfl rfl) rfl rfl rfl ?_
      refine KL.op (R.neq rfl rfl rfl) rfl rfl rfl ?_
      refine KL.op (R.move rfl rfl) rfl rfl rfl ?_
      refine KL.case (d := 46) rfl ?_ ?_
      · intro hg46
        try simp only [decide_eq_true_eq, decide_eq_false_iff_not, Bool.not_eq_true', Bool.not_eq_false', Bool.and_eq_true, Bool.or_eq_false_iff] at hg46
        refine KL.op (R.move rfl rfl) rfl rfl rfl ?_
        refine KL.op (R.neq rfl rfl rfl) rfl rfl rfl ?_
        refine KL.op (R.pick rfl rfl rfl) rfl rfl rfl ?_
        refine KL.op (R.move rfl rfl) rfl rfl rfl ?_
        refine KL.case (d := 50) rfl ?_ ?_
        · intro hg50
          try simp only [decide_eq_true_eq, decide_eq_false_iff_not, Bool.not_eq_true', Bool.not_eq_false', Bool.and_eq_true, Bool.or_eq_false_iff] at hg50
          refine KL.op (R.move rfl rfl) rfl rfl rfl ?_
          refine KL.op (R.neq rfl rfl rfl) rfl rfl rfl ?_
          refine KL.op (R.pick rfl rfl rfl) rfl rfl rfl ?_
          refine KL.nil ?_
          refine KQR.seq ?_
          refine KCR.iteL rfl ?_ ?_
          · intro hc53
            try simp only [decide_eq_true_eq, decide_eq_false_iff_not, Bool.not_eq_true', Bool.not_eq_false', Bool.and_eq_true, Bool.or_eq_false_iff] at hc53
            refine KCR.seq ?_
            refine KCR.region ?_
            refine KL.opS (S.store rfl sz3 rfl rfl rfl rfl bR (by simp)) rfl rfl ?_
            rintro H12 ⟨u12, b12⟩
            have o0 := o0.upd u12 (by omega)
            have zu12 := u12.1
            have bS := ((u12).2 _ (by omega)).trans bS
            have bF := ((u12).2 _ (by omega)).trans bF
            have bN := ((u12).2 _ (by omega)).trans bN
            have stp := (by first | exact stp.upd u12 | exact stp.updN u12 (by omega))
            have bR := b12
            refine KL.nil ?_
            refine KQR.seq ?_
            refine KCR.ret ?_
            refine KQ.retBlock ?_
            refine KQR.fin rfl ?_
            exact ⟨_, stp, rfl, rfl, o0, by unfold DS.left; rw [if_neg h0, hm2]; first | (rw [hm0, hdead]; rfl) | (rw [hmm, fit_stop (by omega)]), bR⟩
          · intro hc53
            try simp only [decide_eq_true_eq, decide_eq_false_iff_not, Bool.not_eq_true', Bool.not_eq_false', Bool.and_eq_true, Bool.or_eq_false_iff] at hc53
            refine KCR.skip ?_
            refine KQ.normBlock ?_
            refine KQR.fin rfl ?_
            first
              | exact ⟨_, stp, rfl, o0, bS, bF, bR, 0, Nat.zero_le _, by rw [hm2, hm0, hdead]; rfl, by rw [hm0] at bN; exact bN⟩
              | exact ⟨_, stp, rfl, o0, bS, bF, bR, m - 1, by omega, by rw [hm2, hmm, fit_cons (by omega), Nat.add_sub_cancel], bN⟩
        · intro hg50
          try simp only [decide_eq_true_eq, decide_eq_false_iff_not, Bool.not_eq_true', Bool.not_eq_false', Bool.and_eq_true, Bool.or_eq_false_iff] at hg50
          refine KL.skip rfl rfl rfl ?_
          refine KL.skip rfl rfl rfl ?_
          refine KL.op (R.pick rfl rfl rfl) rfl rfl rfl ?_
          refine KL.nil ?_
          refine KQR.seq ?_
          refine KCR.condF rfl ?_
          refine KCR.skip ?_
          refine KQ.normBlock ?_
          refine KQR.fin rfl ?_
          first
            | exact ⟨_, stp, rfl, o0, bS, bF, bR, 0, Nat.zero_le _, by rw [hm2, hm0, hdead]; rfl, by rw [hm0] at bN; exact bN⟩
            | exact ⟨_, stp, rfl, o0, bS, bF, bR, m - 1, by omega, by rw [hm2, hmm, fit_cons (by omega), Nat.add_sub_cancel], bN⟩
      · intro hg46
        try simp only [decide_eq_true_eq, decide_eq_false_iff_not, Bool.not_eq_true', Bool.not_eq_false', Bool.and_eq_true, Bool.or_eq_false_iff] at hg46
        refine KL.skip rfl rfl rfl ?_
        refine KL.skip rfl rfl rfl ?_
        refine KL.op (R.pick rfl rfl rfl) rfl rfl rfl ?_
        refine KL.op (R.move rfl rfl) rfl rfl rfl ?_
        refine KL.skip rfl rfl rfl ?_
        refine KL.skip rfl rfl rfl ?_
        refine KL.op (R.pick rfl rfl rfl) rfl rfl rfl ?_
        refine KL.nil ?_
        refine KQR.seq ?_
        refine KCR.condF rfl ?_
        refine KCR.skip ?_
        refine KQ.normBlock ?_
        refine KQR.fin rfl ?_
        first
          | exact ⟨_, stp, rfl, o0, bS, bF, bR, 0, Nat.zero_le _, by rw [hm2, hm0, hdead]; rfl, by rw [hm0] at bN; exact bN⟩
          | exact ⟨_, stp, rfl, o0, bS, bF, bR, m - 1, by omega, by rw [hm2, hmm, fit_cons (by omega), Nat.add_sub_cancel], bN⟩
  · intro H13 O hI hD hz hOd
    obtain ⟨rfl, o0, bS, bF, bR, m, hm1, hm2, bN⟩ := hI
    rw [List.drop_eq_nil_of_le (by rw [List.length_reverse, back_len]; omega)] at hm2
    have hleft : s.left l = some m := by unfold DS.left; rw [if_neg h0, hm2]; rfl
    have zo0 := o0.1
    refine KQD.normBlock ?_
    refine KQD.seq ?_
    refine KCD.seq ?_
    refine KCD.region ?_
    refine KL.op (R.load rfl Try.underlying3 rfl rfl (cell_of bN rfl)) rfl rfl rfl ?_
    refine KL.opS (S.store rfl sz3 rfl rfl rfl rfl bR (by simp)) rfl rfl ?_
    rintro H14 ⟨u14, b14⟩
    have o0 := o0.upd u14 (by omega)
    have zu14 := u14.1
    have bN := ((u14).2 _ (by omega)).trans bN
    have hD := ((u14).2 _ (by omega)).trans hD
    have bR := b14
    refine KL.nil ?_
    refine KQD.seq ?_
    refine KCD.ret ?_
    refine KQD.finM (.inr rfl) hD ?_
    intro H15 uD
    have o0 := o0.upd uD (by omega)
    have zuD := uD.1
    have bR := ((uD).2 _ (by omega)).trans bR
    have bN := ((uD).2 _ (by omega)).trans bN
    refine ⟨_, Res.cell1 Try.results29 rfl Try.underlying3 rfl (by first | exact cell_of bR rfl | exact cell_of bN rfl | assumption), ?_⟩
    exact ⟨by rw [DS.leftN_some hleft], o0⟩
  · intro e k H16 O he hk hI hD hz hOd
    obtain ⟨rfl, rfl, o0, hleft, bR⟩ := hI
    have zo0 := o0.1
    refine KQD.retBlock ?_
    refine KQD.retThen ?_
    refine KQD.finM (.inr rfl) hD ?_
    intro H17 uD
    have o0 := o0.upd uD (by omega)
    have zuD := uD.1
    have bR := ((uD).2 _ (by omega)).trans bR
    refine ⟨_, Res.cell1 Try.results29 rfl Try.underlying3 rfl (by first | exact cell_of bR rfl | assumption), ?_⟩
    exact ⟨by rw [DS.leftN_none hleft], o0⟩

theorem left_k {B : Nat} {X : Nat → Prop} {H : Heap} {g : Nat} {vl vf : Value} {s : DS} (h : TS B X H g vl vf s) {v : Value} {l : List Int} (hs : Sl 1 (EInt .u8) H v l) : Ct Try.prog 29 [.pointer (some ⟨g, 0, none⟩), v] H (fun u H' => u = .int .i64 (s.leftN l) ∧ Old H H') := by
  by_cases h0 : s.fr = []
  · exact (left_no h v h0).mono fun u H' hh => ⟨by rw [hh.1, DS.leftN_none (by unfold DS.left; rw [if_pos h0])], hh.2⟩
  · exact left_yes h hs h0

end Go.Proofs.Ytglopfbdnpbgeaa
