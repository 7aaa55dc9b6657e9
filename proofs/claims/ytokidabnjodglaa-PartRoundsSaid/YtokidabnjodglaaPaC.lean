/- The parts that cost something, one by one. No condition but sizes. -/
import Derived.Test.YtokidabnjodglaaPaB
namespace Go.Proofs.Ytokidabnjodglaa
open Go Go.RowKit
set_option linter.unusedVariables false
set_option linter.unusedSimpArgs false
set_option linter.unnecessarySimpa false

theorem hand_at {l : List Pt} {k : Nat} {vs : List Value} (h : nth (hand l) k = some vs) : ∃ p, nth l k = some p ∧ vs = [.agg p.cells.toArray] := by
  rw [nth_eq] at h
  unfold hand at h
  rw [List.getElem?_map] at h
  cases hp : l[k]? with
  | none => rw [hp] at h; cases h
  | some p => rw [hp] at h; cases h; exact ⟨p, by rw [nth_eq]; exact hp, rfl⟩
theorem hand_len (l : List Pt) : (hand l).length = l.length := by simp [hand]
theorem hand_one {l : List Pt} : ∀ vs ∈ hand l, vs.length = 1 := fun vs hv => by
  unfold hand at hv
  obtain ⟨p, _, rfl⟩ := List.mem_map.1 hv
  rfl
/-- how many of the first k parts cost something -/
def cnt (l : List Ins) (k : Nat) : Nat := (((raw l).take k).filter fun p => decide (0 < p.c)).length
theorem take_add {α : Type} {l : List α} {k : Nat} {p : α} (h : nth l k = some p) : l.take (k + 1) = l.take k ++ [p] := by
  rw [nth_eq] at h
  rw [List.take_add_one, h]; rfl
theorem cnt_yes {l : List Ins} {k : Nat} {p : Pt} (h : nth (raw l) k = some p) (hp : 0 < p.c) : cnt l (k + 1) = cnt l k + 1 := by
  unfold cnt
  rw [take_add h, List.filter_append, List.length_append]
  simp [hp]
theorem cnt_no {l : List Ins} {k : Nat} {p : Pt} (h : nth (raw l) k = some p) (hp : ¬ 0 < p.c) : cnt l (k + 1) = cnt l k := by
  unfold cnt
  rw [take_add h, List.filter_append, List.length_append]
  simp [hp]
theorem cnt_all (l : List Ins) : cnt l (hand (raw l)).length = (hand (parts l)).length := by
  rw [hand_len, hand_len]; unfold cnt parts; rw [List.take_length]
theorem parts_at {l : List Ins} {k : Nat} {p : Pt} (h : nth (raw l) k = some p) (hp : 0 < p.c) : nth (hand (parts l)) (cnt l k) = some [.agg p.cells.toArray] := by
  refine nth_map (f := fun p : Pt => [Value.agg p.cells.toArray]) ?_
  have e : raw l = (raw l).take k ++ p :: (raw l).drop (k + 1) := by
    rw [nth_eq] at h
    obtain ⟨hk, he⟩ := List.getElem?_eq_some_iff.1 h
    conv => lhs; rw [← List.take_append_drop k (raw l), List.drop_eq_getElem_cons hk, he]
  have key : ∀ (A B : List Pt), ((A ++ p :: B).filter fun p => decide (0 < p.c))[(A.filter fun p => decide (0 < p.c)).length]? = some p := fun A B => by
    rw [List.filter_append, List.getElem?_append_right (Nat.le_refl _), Nat.sub_self, List.filter_cons, if_pos (decide_eq_true hp)]
    rfl
  have h2 := key ((raw l).take k) ((raw l).drop (k + 1))
  rw [← e] at h2
  rw [nth_eq]
  exact h2
theorem StepO.refl (O : Nat → Prop) (H : Heap) : StepO O O H H := ⟨Nat.le_refl _, fun _ _ _ => rfl, fun _ h => .inl h⟩
theorem StepO.old {O O' : Nat → Prop} {A B C : Heap} (h : StepO O O' A B) (o : Old B C) : StepO O O' A C := ⟨Nat.le_trans h.1 o.1, fun b hb hn => (o.2 b (by have := h.1; omega)).trans (h.2.1 b hb hn), h.2.2⟩
theorem StepO.grown {O O' : Nat → Prop} {A B C : Heap} {v : Value} (h : StepO O O' A B) (g : Grown v B C) (hv : v = .slice none 0 0 ∨ O (vblock v) ∨ A.size ≤ vblock v) : StepO O O' A C :=
  ⟨Nat.le_trans h.1 g.1, fun b hb hn => (g.2 b (by have := h.1; omega) (hv.imp id (fun e => by
    rintro rfl
    rcases e with e | e
    · exact hn e
    · omega))).trans (h.2.1 b hb hn), h.2.2⟩
theorem StepO.upd {O O' : Nat → Prop} {A B C : Heap} {g : Nat} (h : StepO O O' A B) (u : Upd g B C) (hg : O g ∨ A.size ≤ g) : StepO O O' A C :=
  ⟨by have := u.1; have := h.1; omega, fun b hb hn => (u.2 b (by
    rintro rfl
    rcases hg with e | e
    · exact hn e
    · omega)).trans (h.2.1 b hb hn), h.2.2⟩
theorem StepO.to {O O' O2 : Nat → Prop} {A B : Heap} (h : StepO O O' A B) (hs : ∀ b, O2 b → O b ∨ A.size ≤ b) : StepO O O2 A B := ⟨h.1, h.2.1, hs⟩

set_option maxRecDepth 100000 in
set_option maxHeartbeats 4000000 in
theorem All1_ct {Hb H : Heap} {v : Value} {l : List Ins} {ga : Nat} (hs : Sl 5 EIns Hb v l) (ba0 : H[ga]? = some (.cells [.func (.func 16) #[.agg [v].toArray] #[]].toArray 33 (0, 0))) (ob : Old Hb H) (hl : l.length ≤ 1000000) (yl : Nat) (J Jx : Nat → Heap → (Nat → Prop) → Prop) (O0 : Nat → Prop) (hJ : Abides H.size J) (hJx : Abides H.size Jx) (hN : ∀ b, b < Hb.size → ¬ O0 b) (hO : ∀ b, O0 b → b < H.size)
  (hy : ∀ k Hk O args, nth (hand (parts l)) k = some args → H.size ≤ Hk.size → J k Hk O → YCt Try.prog yl args Hk (fun v H' => ∃ O', StepO O O' Hk H' ∧ ((v = .bool true ∧ J (k + 1) H' O') ∨ (v = .bool false ∧ Jx k H' O')))) (h0 : J 0 H O0) : Ct Try.prog 17 [.func (.yield yl) #[] #[], .pointer (some ⟨ga, 0, none⟩)] H (fun _ H' => H.size ≤ H'.size ∧ ∃ O', J (hand (parts l)).length H' O' ∨ ∃ k, k < (hand (parts l)).length ∧ Jx k H' O') := by
  refine Ct.mkM Try.func17 rfl Try.ntmps17 rfl ?_
  intro W0 hW0
  have o0 : OldB 0 H H := OldB.refl _ H
  have oJ : Old H H := Old.refl _
  refine KC.seq ?_
  refine KC.region ?_
  refine KL.opM (M.box rfl rfl rfl) rfl rfl rfl ?_
  rintro _ H1 ⟨rfl, n1⟩
  have z1 := n1.2.1
  have o0 := o0.trans ((n1.1).b (by omega))
  have ob := ob.trans n1.1
  have oJ := oJ.trans n1.1
  have b1 := n1.2.2
  have bq := b1
  refine KL.nil ?_
  refine KQ.seq ?_
  refine KC.seq ?_
  refine KC.region ?_
  refine KL.op (R.load rfl Try.underlying33 rfl rfl (cell_of (oJ.blk ba0) rfl)) rfl rfl rfl ?_
  refine KL.nil ?_
  refine KQ.seq ?_
  refine KC.block ?_
  refine KC.range (first := [.agg [v].toArray]) (cap := []) (xs := hand (raw l)) (N := fun b => b < Hb.size) (O0 := O0) (fun k Hk O => J (cnt l k) Hk O ∧ (∀ b, b < Hb.size → ¬ O b) ∧ ¬ O (Array.size H) ∧ Hk[Array.size H]? = some (.cells [.func (.yield yl) #[] #[]].toArray 52 (0, 0))) (fun e k Hk O => e = .ret ∧ ∃ j, j < (hand (parts l)).length ∧ Jx j Hk O) rfl Try.call16 (fun H2 o => parts_iter hs (ob.trans o) hl) (fun b hb => by have := ob.1; omega) (hN) (fun b hb => by have := hO b hb; omega) (fun k A C O h hsz hag => ⟨hJ _ _ _ _ h.1 hsz (fun b hb hc => hag b hb (hc.imp (fun e => by omega) id)), h.2.1, h.2.2.1, (hag _ (blk_lt h.2.2.2) (.inl (by omega))).trans h.2.2.2⟩) (fun e k A C O h hsz hag => by obtain ⟨h1, j, h2, h3⟩ := h; exact ⟨h1, j, h2, hJx _ _ _ _ h3 hsz (fun b hb hc => hag b hb (hc.imp (fun e => by omega) id))⟩) (⟨hJ _ _ _ _ h0 oJ.1 (fun b hb _ => oJ.2 b hb), hN, fun h => by have := hO _ h; omega, bq⟩) (by rfl) (hand_one) ?_ ?_ ?_
  · intro k vs H2 O W1 hk hz hOd hOl hI
    have oB : Old H2 H2 := Old.refl _
    have o0 : OldB 0 H H2 := ⟨by omega, fun b hb => absurd hb (Nat.not_lt_zero b)⟩
    obtain ⟨hj, hOb, hOq, bq⟩ := hI
    obtain ⟨p, hp, rfl⟩ := hand_at hk
    have hjA := hj
    refine KCR.region ?_
    refine KL.opM (M.alloc rfl zr31 rfl) rfl rfl rfl ?_
    rintro _ H3 ⟨rfl, n3⟩
    have z3 := n3.2.1
    have o0 := o0.trans ((n3.1).b (by omega))
    have bq := (n3.1).blk bq
    have oB := oB.trans n3.1
    have b3 := n3.2.2
    have bp := b3
    refine KL.opS (S.storeAgg (us := p.cells) rfl sz31 rfl rfl (rfl) (by intro u hu; simp only [Pt.cells, List.mem_cons, List.not_mem_nil, or_false] at hu; rcases hu with rfl | rfl | rfl <;> rfl) bp (by simp [Pt.cells])) rfl rfl ?_
    rintro H4 ⟨u4, b4⟩
    have o0 := o0.trans (OldB.upd u4 (by omega))
    have zu4 := u4.1
    have bq := ((u4).2 _ (by omega)).trans bq
    have oB := oB.upd u4 (by omega)
    have bp := b4
    rw [over_all (by rfl)] at bp
    refine KL.nil ?_
    refine KQR.begin oB ?_
    intro H5 uL
    have o0 := o0.trans (OldB.upd uL (by omega))
    have zuL := uL.1
    have bq := ((uL).2 _ (by omega)).trans bq
    have bp := ((uL).2 _ (by omega)).trans bp
    have hjB := hJ _ _ _ _ hj oB.1 (fun b hb _ => oB.2 b hb)
    have hjL := uL.abides hJ hjB (by omega) hOl
    have zuu := uL.1
    have zoB := oB.1
    refine KCR.block ?_
    refine KCR.seq ?_
    refine KCR.regionY ?_
    refine KLY.op ((by first | exact R.fieldAddr rfl Try.underlying31 rfl rfl sz29 rfl | exact R.fieldAddrP rfl Try.underlying31 rfl rfl sz29 rfl)) rfl rfl rfl rfl ?_
    refine KLY.op (R.load rfl Try.underlying29 rfl rfl (cell_of bp rfl)) rfl rfl rfl rfl ?_
    refine KLY.op (R.gtr rfl rfl rfl) rfl rfl rfl rfl ?_
    refine KLY.op (R.move rfl rfl) rfl rfl rfl rfl ?_
    refine KLY.case (d := 9) rfl ?_ ?_
    · intro hg9
      try simp only [decide_eq_true_eq, decide_eq_false_iff_not, Bool.not_eq_true', Bool.not_eq_false', Bool.and_eq_true, Bool.or_eq_false_iff] at hg9
      refine KLY.op (R.load rfl Try.underlying52 rfl rfl (cell_of bq rfl)) rfl rfl rfl rfl ?_
      refine KLY.op (R.loadAgg rfl Try.underlying31 rfl sz31 rfl (cells_of bp) rfl) rfl rfl rfl rfl ?_
      refine KLY.yield rfl rfl rfl rfl rfl rfl (hy (cnt l k) _ O _ (parts_at hp (by simpa using hg9)) (by omega) hjL) ?_
      rintro vy H6 ⟨O2, stp, hR⟩
      have zst := stp.1
      have bq := (stp.2.1 _ (blk_lt bq) hOq).trans bq
      rcases hR with ⟨rfl, hj2⟩ | ⟨rfl, hjx⟩
      · skip
        refine KLY.op (R.not rfl rfl) rfl rfl rfl rfl ?_
        refine KLY.op (R.pick rfl rfl rfl) rfl rfl rfl rfl ?_
        refine KLY.nil ?_
        refine KQR.seq ?_
        refine KCR.condF rfl ?_
        refine KCR.skip ?_
        refine KQ.normBlock ?_
        refine KQR.fin rfl ?_
        first
          | exact ⟨O2, stp, by rw [cnt_yes hp (by simpa using hg9)]; exact hj2, fun b hb h => (stp.2.2 b h).elim (hOb b hb) (fun h => by have := ob.1; omega), fun h => (stp.2.2 _ h).elim hOq (fun h => by omega), bq⟩
          | exact ⟨O, StepO.refl _ _, by rw [cnt_no hp (by simpa using hg9)]; exact hjL, hOb, hOq, bq⟩
      · skip
        refine KLY.op (R.not rfl rfl) rfl rfl rfl rfl ?_
        refine KLY.op (R.pick rfl rfl rfl) rfl rfl rfl rfl ?_
        refine KLY.nil ?_
        refine KQR.seq ?_
        refine KCR.condT rfl ?_
        refine KCR.ret ?_
        refine KQ.retBlock ?_
        refine KQR.fin rfl ?_
        exact ⟨O2, stp, rfl, _, nth_lt' (parts_at hp (by simpa using hg9)), hjx⟩
    · intro hg9
      try simp only [decide_eq_true_eq, decide_eq_false_iff_not, Bool.not_eq_true', Bool.not_eq_false', Bool.and_eq_true, Bool.or_eq_false_iff] at hg9
      refine KLY.skip rfl rfl rfl ?_
      refine KLY.skip rfl rfl rfl ?_
      refine KLY.skip rfl rfl rfl ?_
      refine KLY.skip rfl rfl rfl ?_
      refine KLY.op (R.pick rfl rfl rfl) rfl rfl rfl rfl ?_
      refine KLY.nil ?_
      refine KQR.seq ?_
      refine KCR.condF rfl ?_
      refine KCR.skip ?_
      refine KQ.normBlock ?_
      refine KQR.fin rfl ?_
      first
        | exact ⟨O2, stp, by rw [cnt_yes hp (by simpa using hg9)]; exact hj2, fun b hb h => (stp.2.2 b h).elim (hOb b hb) (fun h => by have := ob.1; omega), fun h => (stp.2.2 _ h).elim hOq (fun h => by omega), bq⟩
        | exact ⟨O, StepO.refl _ _, by rw [cnt_no hp (by simpa using hg9)]; exact hjL, hOb, hOq, bq⟩
  · intro H7 O hI hD hz hOd
    have o0 : OldB 0 H H7 := ⟨by omega, fun b hb => absurd hb (Nat.not_lt_zero b)⟩
    obtain ⟨hj, hOb, hOq, bq⟩ := hI
    rw [cnt_all] at hj
    have hjd := hj
    refine KQD.normBlock ?_
    refine KQD.finM (.inl rfl) hD ?_
    intro H8 uD
    have o0 := o0.trans (OldB.upd uD (by omega))
    have zuD := uD.1
    refine ⟨_, Res.none Try.results17, ?_⟩
    exact ⟨by have := uD.1; omega, O, .inl (uD.abides hJ hjd (by omega) hOd)⟩
  · intro e k H9 O he hk hI hD hz hOd
    have o0 : OldB 0 H H9 := ⟨by omega, fun b hb => absurd hb (Nat.not_lt_zero b)⟩
    obtain ⟨rfl, j, hjl, hjx⟩ := hI
    refine KQD.retBlock ?_
    refine KQD.finM (.inr rfl) hD ?_
    intro H10 uD
    have o0 := o0.trans (OldB.upd uD (by omega))
    have zuD := uD.1
    refine ⟨_, Res.none Try.results17, ?_⟩
    exact ⟨by have := uD.1; omega, O, .inr ⟨j, hjl, uD.abides hJx hjx (by omega) hOd⟩⟩

theorem All1_iter {Hb H : Heap} {v : Value} {l : List Ins} {ga : Nat} (hs : Sl 5 EIns Hb v l) (ba0 : H[ga]? = some (.cells [.func (.func 16) #[.agg [v].toArray] #[]].toArray 33 (0, 0))) (ob : Old Hb H) (hl : l.length ≤ 1000000) : Iter Try.prog 17 [] [.pointer (some ⟨ga, 0, none⟩)] (hand (parts l)) (fun b => b < Hb.size) H :=
  fun yl J Jx O0 hJ hJx hN hO hy h0 => All1_ct hs ba0 ob hl yl J Jx O0 hJ hJx hN hO hy h0

end Go.Proofs.Ytokidabnjodglaa
