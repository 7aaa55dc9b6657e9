/- Functions of package jump. No condition. -/
import Derived.Test.YtbopalmbphgedaaKIns
namespace Go.Proofs.Ytbopalmbphgedaa
open Go Go.RowKit
set_option linter.unusedVariables false
set_option linter.unusedSimpArgs false
set_option linter.unnecessarySimpa false

/-- the i-th number of a row; -1: there is none -/
def rd (l : List Int) (i : Int) : Int := if 0 ≤ i ∧ i < l.length then l.getD i.toNat default else -1

/-- a reader: three rows, the deepest, the places of the blocks that are open -/
structure JS where
  en : List Int
  el : List Int
  op : List Int
  dp : Int
  opn : List Int

/-- jumps in memory, to be read -/
def JM (H : Heap) (g : Nat) (en el op : List Int) (dp : Int) : Prop :=
  ∃ ve vl vo, H[g]? = some (.cells [ve, vl, vo, .int .i64 dp].toArray 47 (0, 0)) ∧ Sl 1 (EInt .i64) H ve en ∧ Sl 1 (EInt .i64) H vl el ∧ Sl 1 (EInt .i64) H vo op
theorem JM.old {H H' : Heap} {g : Nat} {en el op : List Int} {dp : Int} (h : JM H g en el op dp) (o : Old H H') : JM H' g en el op dp := by
  obtain ⟨ve, vl, vo, h1, h2, h3, h4⟩ := h
  exact ⟨ve, vl, vo, o.blk h1, h2.old o, h3.old o, h4.old o⟩

/-- a reader in memory: its blocks are from B on -/
def RM (H : Heap) (B gr gj : Nat) (s : JS) : Prop :=
  ∃ ve vl vo vr, H[gr]? = some (.cells [.pointer (some ⟨gj, 0, none⟩), vr].toArray 49 (0, 0)) ∧ H[gj]? = some (.cells [ve, vl, vo, .int .i64 s.dp].toArray 47 (0, 0)) ∧
    Own 1 (EInt .i64) 3 #[] B H ve s.en ∧ Own 1 (EInt .i64) 3 #[] B H vl s.el ∧ Own 1 (EInt .i64) 3 #[] B H vo s.op ∧ Own 1 (EInt .i64) 3 #[] (gr + 1) H vr s.opn ∧
    vblock ve < vblock vl ∧ vblock vl < vblock vo ∧ vblock vo < gj ∧ gj < gr ∧ B ≤ vblock ve
theorem RM.old {H H' : Heap} {B gr gj : Nat} {s : JS} (h : RM H B gr gj s) (o : Old H H') : RM H' B gr gj s := by
  obtain ⟨ve, vl, vo, vr, br, bj, we, wl, wo, wr, r⟩ := h
  exact ⟨ve, vl, vo, vr, o.blk br, o.blk bj, we.old o, wl.old o, wo.old o, wr.old o, r⟩
theorem RM.lt {H : Heap} {B gr gj : Nat} {s : JS} (h : RM H B gr gj s) : B < gj ∧ gj < gr ∧ gr < H.size := by
  obtain ⟨ve, vl, vo, vr, br, bj, we, wl, wo, wr, h1, h2, h3, h4, h5⟩ := h
  have := blk_lt br
  omega
theorem RM.jm {H : Heap} {B gr gj : Nat} {s : JS} (h : RM H B gr gj s) : JM H gj s.en s.el s.op s.dp := by
  obtain ⟨ve, vl, vo, vr, br, bj, we, wl, wo, wr, r⟩ := h
  exact ⟨ve, vl, vo, bj, we.sl (emptyOld _) (by omega), wl.sl (emptyOld _) (by omega), wo.sl (emptyOld _) (by omega)⟩
theorem Sl.lit1 {k : IntKind} {H H' : Heap} {x : Int} {e : TypeId} (hn : New H [.int k x] e H') (h : InR k x) : Sl 1 (EInt k) H' (.slice (some ⟨H.size, 0, none⟩) 1 1) [x] := by
  refine (Own.lit (E := EInt k) (H0 := H') (B := 0) (l := [x]) hn (by omega) rfl (by unfold maxLen; simp) rfl ?_).sl (Old.refl _) (by omega)
  intro j y u hj hu
  match j, hj, hu with
  | 0, hj, hu => cases hj; cases hu; exact ⟨rfl, h⟩

set_option maxRecDepth 100000 in
set_option maxHeartbeats 4000000 in
theorem of_any {H : Heap} (v : Value) (l : List Int) (i : Int) (hs : Sl 1 (EInt .i64) H v l) : Ct Try.prog 25 [v, .int .i64 i] H (fun u H' => u = .int .i64 (rd l i) ∧ H = H') := by
  refine Ct.mk Try.func25 rfl Try.ntmps25 rfl ?_
  intro W0 hW0
  have o0 : Old H H := Old.refl H
  refine KC.seq ?_
  refine KC.region ?_
  refine KL.op (R.assign rfl rfl) rfl rfl rfl ?_
  refine KL.nil ?_
  refine KQ.seq ?_
  refine KC.seq ?_
  refine KC.seq ?_
  refine KC.region ?_
  refine KL.op (R.move rfl rfl) rfl rfl rfl ?_
  refine KL.op (R.lss rfl rfl rfl) rfl rfl rfl ?_
  refine KL.op (R.move rfl rfl) rfl rfl rfl ?_
  refine KL.case (d := 7) rfl ?_ ?_
  · intro hg7
    try simp only [decide_eq_true_eq, decide_eq_false_iff_not, Bool.not_eq_true', Bool.not_eq_false', Bool.and_eq_true, Bool.or_eq_false_iff] at hg7
    refine KL.skip rfl rfl rfl ?_
    refine KL.skip rfl rfl rfl ?_
    refine KL.skip rfl rfl rfl ?_
    refine KL.skip rfl rfl rfl ?_
    refine KL.op (R.pick rfl rfl rfl) rfl rfl rfl ?_
    refine KL.nil ?_
    refine KQ.seq ?_
    refine KC.condT rfl ?_
    refine KC.seq ?_
    refine KC.region ?_
    refine KL.op (R.assign rfl rfl) rfl rfl rfl ?_
    refine KL.nil ?_
    refine KQ.seq ?_
    refine KC.ret ?_
    refine KQ.retThen ?_
    refine KQ.ofRet ?_
    refine KQ.fin1 Try.results25 rfl ?_
    exact ⟨by congr 1; unfold rd; first | rw [if_neg (by omega)] | rw [if_pos (by omega)], rfl⟩
  · intro hg7
    try simp only [decide_eq_true_eq, decide_eq_false_iff_not, Bool.not_eq_true', Bool.not_eq_false', Bool.and_eq_true, Bool.or_eq_false_iff] at hg7
    refine KL.op (R.move rfl rfl) rfl rfl rfl ?_
    refine KL.op (R.move rfl rfl) rfl rfl rfl ?_
    refine KL.op ((by first | exact R.lenS rfl Try.underlying40 rfl (by first | exact hs | assumption) | exact R.len (ty := 0) rfl Try.underlying40 rfl)) rfl rfl rfl ?_
    refine KL.op (R.geq rfl rfl rfl) rfl rfl rfl ?_
    refine KL.op (R.pick rfl rfl rfl) rfl rfl rfl ?_
    refine KL.nil ?_
    refine KQ.seq ?_
    refine KC.iteL rfl ?_ ?_
    · intro hc12
      try simp only [decide_eq_true_eq, decide_eq_false_iff_not, Bool.not_eq_true', Bool.not_eq_false', Bool.and_eq_true, Bool.or_eq_false_iff] at hc12
      refine KC.seq ?_
      refine KC.region ?_
      refine KL.op (R.assign rfl rfl) rfl rfl rfl ?_
      refine KL.nil ?_
      refine KQ.seq ?_
      refine KC.ret ?_
      refine KQ.retThen ?_
      refine KQ.ofRet ?_
      refine KQ.fin1 Try.results25 rfl ?_
      exact ⟨by congr 1; unfold rd; first | rw [if_neg (by omega)] | rw [if_pos (by omega)], rfl⟩
    · intro hc12
      try simp only [decide_eq_true_eq, decide_eq_false_iff_not, Bool.not_eq_true', Bool.not_eq_false', Bool.and_eq_true, Bool.or_eq_false_iff] at hc12
      refine KC.skip ?_
      refine KQ.seq ?_
      refine KC.seq ?_
      refine KC.region ?_
      refine KL.op (R.move rfl rfl) rfl rfl rfl ?_
      refine KL.op (R.move rfl rfl) rfl rfl rfl ?_
      refine KL.op (R.index1 (j := i.toNat) rfl Try.underlying40 sz3 rfl rfl hs (by omega) (by omega)) rfl rfl rfl ?_
      refine KL.op (R.load rfl Try.underlying3 rfl rfl (by first | exact (hs.int _ (by omega)).1 | assumption)) rfl rfl rfl ?_
      refine KL.op (R.assign rfl rfl) rfl rfl rfl ?_
      refine KL.nil ?_
      refine KQ.seq ?_
      refine KC.ret ?_
      refine KQ.ofRet ?_
      refine KQ.fin1 Try.results25 rfl ?_
      exact ⟨by congr 1; unfold rd; first | rw [if_neg (by omega)] | rw [if_pos (by omega)], rfl⟩

set_option maxRecDepth 100000 in
set_option maxHeartbeats 4000000 in
theorem opened_any {H : Heap} (B gr gj : Nat) (s : JS) (i : Int) (hr : RM H B gr gj s) (hi : InR .i64 i) (hd : InR .i64 s.dp) (hl : s.opn.length < 1000000) : Ct Try.prog 23 [.pointer (some ⟨gr, 0, none⟩), .int .i64 i] H (fun u H' => u = .tuple #[] ∧ RM H' B gr gj { s with opn := s.opn ++ [i], dp := max s.dp (s.opn.length + 1) } ∧ OldB B H H') := by
  refine Ct.mk Try.func23 rfl Try.ntmps23 rfl ?_
  intro W0 hW0
  have o0 : OldB B H H := OldB.refl _ H
  obtain ⟨ve, vl, vo, vr, br, bj, we, wl, wo, wr, h1, h2, h3, h4, h5⟩ := hr
  have zr := blk_lt br
  have hrl := wr.len
  refine KC.seq ?_
  refine KC.region ?_
  refine KL.op (R.move rfl rfl) rfl rfl rfl ?_
  refine KL.op (R.move rfl rfl) rfl rfl rfl ?_
  refine KL.op (R.nilCheck rfl rfl) rfl rfl rfl ?_
  refine KL.op ((by first | exact R.fieldAddr rfl Try.underlying49 rfl rfl sz40 rfl | exact R.fieldAddrP rfl Try.underlying49 rfl rfl sz40 rfl)) rfl rfl rfl ?_
  refine KL.op (R.load rfl Try.underlying40 rfl rfl (by first | exact cell_of br rfl | exact cell_of bj rfl | assumption)) rfl rfl rfl ?_
  refine KL.op (R.move rfl rfl) rfl rfl rfl ?_
  refine KL.opM (M.lit rfl Try.underlying40 zs3 (by decide) rfl rfl rfl) rfl rfl rfl ?_
  rintro _ H1 ⟨rfl, n1⟩
  have z1 := n1.2.1
  have o0 := o0.trans ((n1.1).b (by omega))
  have br := (n1.1).blk br
  have bj := (n1.1).blk bj
  have we := we.old n1.1
  have wl := wl.old n1.1
  have wo := wo.old n1.1
  have wr := wr.old n1.1
  have b1 := n1.2.2
  have sn := Sl.lit1 n1 hi
  have lt2 := wr.lt
  refine KL.opM (M.append rfl Try.underlying40 inf3 rfl (by decide) rfl rfl wr (by exact sn) (fun _ _ h _ => h) (by omega) (by simp; omega) (by unfold maxLen; simp; omega)) rfl rfl rfl ?_
  rintro v2 H2 ⟨w2, g2⟩
  have ob2 := g2.oldB wr (by omega)
  have o0 := o0.trans (ob2.mono (by omega))
  have z2 := ob2.1
  have br := (g2.2 _ (blk_lt br) (by first | exact .inr (by omega) | exact .inl rfl | exact lt2.imp id (fun h => by omega))).trans br
  have bj := (g2.2 _ (blk_lt bj) (by first | exact .inr (by omega) | exact .inl rfl | exact lt2.imp id (fun h => by omega))).trans bj
  have we := we.keep (g2.2 _ (by omega) (by first | exact .inr (by omega) | exact .inl rfl | exact lt2.imp id (fun h => by omega)))
  have wl := wl.keep (g2.2 _ (by omega) (by first | exact .inr (by omega) | exact .inl rfl | exact lt2.imp id (fun h => by omega)))
  have wo := wo.keep (g2.2 _ (by omega) (by first | exact .inr (by omega) | exact .inl rfl | exact lt2.imp id (fun h => by omega)))
  have wr := w2
  obtain ⟨ar, cr, hvr, -, -, -⟩ := w2.val
  refine KL.op (R.nilCheck rfl rfl) rfl rfl rfl ?_
  refine KL.op ((by first | exact R.fieldAddr rfl Try.underlying49 rfl rfl sz40 rfl | exact R.fieldAddrP rfl Try.underlying49 rfl rfl sz40 rfl)) rfl rfl rfl ?_
  refine KL.opS (S.store rfl sz40 rfl rfl (by subst hvr; rfl) (by subst hvr; rfl) br (by simp)) rfl rfl ?_
  rintro H3 ⟨u3, b3⟩
  have o0 := o0.trans (OldB.upd u3 (by omega))
  have zu3 := u3.1
  have bj := ((u3).2 _ (by omega)).trans bj
  have we := we.upd u3 (by first | exact .inr (by omega) | exact we.lt.imp id (fun h => by omega))
  have wl := wl.upd u3 (by first | exact .inr (by omega) | exact wl.lt.imp id (fun h => by omega))
  have wo := wo.upd u3 (by first | exact .inr (by omega) | exact wo.lt.imp id (fun h => by omega))
  have wr := wr.upd u3 (by first | exact .inr (by omega) | exact wr.lt.imp id (fun h => by omega))
  have br := b3
  refine KL.nil ?_
  refine KQ.seq ?_
  refine KC.text (clOf [(3, 1), (7, 1), (10, 1), (14, 1), (19, 2)]) (fun _ _ => True) (by kernel_rfl) (by kernel_rfl) (fun _ => trivial) ?_
  refine KP.op rfl (fun Hg hg => R.move rfl rfl) rfl rfl rfl ?_
  refine KP.op rfl (fun Hg hg => R.nilCheck rfl rfl) rfl rfl rfl ?_
  refine KP.op rfl (fun Hg hg => (by first | exact R.fieldAddr rfl Try.underlying49 rfl rfl sz24 rfl | exact R.fieldAddrP rfl Try.underlying49 rfl rfl sz24 rfl)) rfl rfl rfl ?_
  refine KP.now rfl (R.load rfl Try.underlying24 rfl rfl (by first | exact cell_of br rfl | exact cell_of bj rfl | assumption)) rfl rfl rfl ?_
  refine KP.op rfl (fun Hg hg => R.move rfl rfl) rfl rfl rfl ?_
  refine KP.op rfl (fun Hg hg => R.nilCheck rfl rfl) rfl rfl rfl ?_
  refine KP.op rfl (fun Hg hg => (by first | exact R.fieldAddr rfl Try.underlying49 rfl rfl sz24 rfl | exact R.fieldAddrP rfl Try.underlying49 rfl rfl sz24 rfl)) rfl rfl rfl ?_
  refine KP.now rfl (R.load rfl Try.underlying24 rfl rfl (by first | exact cell_of br rfl | exact cell_of bj rfl | assumption)) rfl rfl rfl ?_
  refine KP.op rfl (fun Hg hg => R.nilCheck rfl rfl) rfl rfl rfl ?_
  refine KP.op rfl (fun Hg hg => (by first | exact R.fieldAddr rfl Try.underlying47 rfl rfl sz3 rfl | exact R.fieldAddrP rfl Try.underlying47 rfl rfl sz3 rfl)) rfl rfl rfl ?_
  refine KP.now rfl (R.load rfl Try.underlying3 rfl rfl (by first | exact cell_of br rfl | exact cell_of bj rfl | assumption)) rfl rfl rfl ?_
  refine KP.op rfl (fun Hg hg => R.move rfl rfl) rfl rfl rfl ?_
  refine KP.op rfl (fun Hg hg => R.nilCheck rfl rfl) rfl rfl rfl ?_
  refine KP.op rfl (fun Hg hg => (by first | exact R.fieldAddr rfl Try.underlying49 rfl rfl sz40 rfl | exact R.fieldAddrP rfl Try.underlying49 rfl rfl sz40 rfl)) rfl rfl rfl ?_
  refine KP.now rfl (R.load rfl Try.underlying40 rfl rfl (by first | exact cell_of br rfl | exact cell_of bj rfl | assumption)) rfl rfl rfl ?_
  refine KP.op rfl (fun Hg hg => R.lenO rfl Try.underlying40 rfl wr) rfl rfl rfl ?_
  refine KP.op rfl (fun Hg hg => R.max rfl rfl rfl) rfl rfl rfl ?_
  refine KP.op rfl (fun Hg hg => R.nilCheck rfl rfl) rfl rfl rfl ?_
  refine KP.op rfl (fun Hg hg => (by first | exact R.fieldAddr rfl Try.underlying47 rfl rfl sz3 rfl | exact R.fieldAddrP rfl Try.underlying47 rfl rfl sz3 rfl)) rfl rfl rfl ?_
  refine KP.opS rfl (S.store rfl sz3 rfl rfl rfl rfl bj (by simp)) rfl rfl (fun _ _ _ _ _ => trivial) ?_
  rintro H4 ⟨u4, b4⟩
  have o0 := o0.trans (OldB.upd u4 (by omega))
  have zu4 := u4.1
  have br := ((u4).2 _ (by omega)).trans br
  have we := we.upd u4 (by first | exact .inr (by omega) | exact we.lt.imp id (fun h => by omega))
  have wl := wl.upd u4 (by first | exact .inr (by omega) | exact wl.lt.imp id (fun h => by omega))
  have wo := wo.upd u4 (by first | exact .inr (by omega) | exact wo.lt.imp id (fun h => by omega))
  have wr := wr.upd u4 (by first | exact .inr (by omega) | exact wr.lt.imp id (fun h => by omega))
  have bj := b4
  refine KP.nil ?_
  refine KQ.fin0 Try.results23 ?_
  exact ⟨rfl, ⟨ve, vl, vo, _, br, by simpa using bj, we, wl, wo, wr, h1, h2, h3, h4, h5⟩, o0⟩


namespace JS
/-- the newest open one -/
def last (s : JS) : Int := s.opn.getD (s.opn.length - 1) default
def closed (s : JS) (i : Int) : JS := { s with opn := s.opn.take (s.opn.length - 1), op := s.op.set i.toNat s.last, en := if 0 ≤ s.el.getD s.last.toNat default then (s.en.set s.last.toNat i).set (s.el.getD s.last.toNat default).toNat i else s.en.set s.last.toNat i }
def turned (s : JS) (i : Int) : JS := { s with el := s.el.set s.last.toNat i, op := s.op.set i.toNat s.last }
/-- what is kept: places lie within the body -/
structure Ok (s : JS) (n : Nat) : Prop where
  en : s.en.length = n
  el : s.el.length = n
  op : s.op.length = n
  opn : ∀ x ∈ s.opn, 0 ≤ x ∧ x < n
  elr : ∀ x ∈ s.el, -1 ≤ x ∧ x < n
end JS
theorem getD_mem {l : List Int} {j : Nat} (h : j < l.length) : l.getD j default ∈ l := by
  rw [List.getD_eq_getElem?_getD, List.getElem?_eq_getElem h]; exact List.getElem_mem h

set_option maxRecDepth 100000 in
set_option maxHeartbeats 4000000 in
theorem closed_no {H : Heap} (B gr gj : Nat) (s : JS) (i : Int) (n : Nat) (hr : RM H B gr gj s) (hok : s.Ok n) (hi : 0 ≤ i ∧ i < n) (hn : n < 1000000) (h0 : s.opn.length = 0) : Ct Try.prog 22 [.pointer (some ⟨gr, 0, none⟩), .int .i64 i] H (fun u H' => u = .bool false ∧ H = H') := by
  refine Ct.mk Try.func22 rfl Try.ntmps22 rfl ?_
  intro W0 hW0
  have o0 : Old H H := Old.refl H
  obtain ⟨ve, vl, vo, vr, br, bj, we, wl, wo, wr, h1, h2, h3, h4, h5⟩ := hr
  have zr := blk_lt br
  have hrl := wr.len
  have le1 := hok.en; have le2 := hok.el; have le3 := hok.op
  refine KC.seq ?_
  refine KC.region ?_
  refine KL.op (R.assign rfl rfl) rfl rfl rfl ?_
  refine KL.nil ?_
  refine KQ.seq ?_
  refine KC.seq ?_
  refine KC.region ?_
  refine KL.op (R.move rfl rfl) rfl rfl rfl ?_
  refine KL.op (R.nilCheck rfl rfl) rfl rfl rfl ?_
  refine KL.op ((by first | exact R.fieldAddr rfl Try.underlying49 rfl rfl sz40 rfl | exact R.fieldAddrP rfl Try.underlying49 rfl rfl sz40 rfl)) rfl rfl rfl ?_
  refine KL.op (R.load rfl Try.underlying40 rfl rfl (by first | exact cell_of br rfl | exact cell_of bj rfl | assumption)) rfl rfl rfl ?_
  refine KL.op (R.lenO rfl Try.underlying40 rfl wr) rfl rfl rfl ?_
  refine KL.op (R.assign rfl rfl) rfl rfl rfl ?_
  refine KL.nil ?_
  refine KQ.seq ?_
  refine KC.seq ?_
  refine KC.seq ?_
  refine KC.region ?_
  refine KL.op (R.move rfl rfl) rfl rfl rfl ?_
  refine KL.op ((R.eql rfl rfl rfl).val (congrArg Value.bool (decide_eq_true (by omega)))) rfl rfl rfl ?_
  refine KL.nil ?_
  refine KQ.seq ?_
  refine KC.condT rfl ?_
  refine KC.seq ?_
  refine KC.region ?_
  refine KL.op (R.assign rfl rfl) rfl rfl rfl ?_
  refine KL.nil ?_
  refine KQ.seq ?_
  refine KC.ret ?_
  refine KQ.retThen ?_
  refine KQ.ofRet ?_
  refine KQ.fin1 Try.results22 rfl ?_
  exact ⟨rfl, rfl⟩

set_option maxRecDepth 100000 in
set_option maxHeartbeats 4000000 in
theorem closed_yes {H : Heap} (B gr gj : Nat) (s : JS) (i : Int) (n : Nat) (hr : RM H B gr gj s) (hok : s.Ok n) (hi : 0 ≤ i ∧ i < n) (hn : n < 1000000) (h0 : 0 < s.opn.length) : Ct Try.prog 22 [.pointer (some ⟨gr, 0, none⟩), .int .i64 i] H (fun u H' => u = .bool true ∧ RM H' B gr gj (s.closed i) ∧ OldB B H H') := by
  refine Ct.mk Try.func22 rfl Try.ntmps22 rfl ?_
  intro W0 hW0
  have o0 : OldB B H H := OldB.refl _ H
  obtain ⟨ve, vl, vo, vr, br, bj, we, wl, wo, wr, h1, h2, h3, h4, h5⟩ := hr
  have zr := blk_lt br
  have hrl := wr.len
  have le1 := hok.en; have le2 := hok.el; have le3 := hok.op
  have hlast := hok.opn s.last (getD_mem (by omega))
  have hel := hok.elr (s.el.getD s.last.toNat default) (getD_mem (by omega))
  have hw2 := (wr.int (s.opn.length - 1) (by omega)).1
  unfold JS.last at hlast hel
  have hw3 := (wl.int _ (show (s.opn.getD (s.opn.length - 1) default).toNat < s.el.length by omega)).1
  refine KC.seq ?_
  refine KC.region ?_
  refine KL.op (R.assign rfl rfl) rfl rfl rfl ?_
  refine KL.nil ?_
  refine KQ.seq ?_
  refine KC.seq ?_
  refine KC.region ?_
  refine KL.op (R.move rfl rfl) rfl rfl rfl ?_
  refine KL.op (R.nilCheck rfl rfl) rfl rfl rfl ?_
  refine KL.op ((by first | exact R.fieldAddr rfl Try.underlying49 rfl rfl sz40 rfl | exact R.fieldAddrP rfl Try.underlying49 rfl rfl sz40 rfl)) rfl rfl rfl ?_
  refine KL.op (R.load rfl Try.underlying40 rfl rfl (by first | exact cell_of br rfl | exact cell_of bj rfl | exact hw2 | exact (wl.int _ (by omega)).1 | exact (wr.int _ (by omega)).1 | assumption)) rfl rfl rfl ?_
  refine KL.op (R.lenO rfl Try.underlying40 rfl wr) rfl rfl rfl ?_
  refine KL.op (R.assign rfl rfl) rfl rfl rfl ?_
  refine KL.nil ?_
  refine KQ.seq ?_
  refine KC.seq ?_
  refine KC.seq ?_
  refine KC.region ?_
  refine KL.op (R.move rfl rfl) rfl rfl rfl ?_
  refine KL.op ((R.eql rfl rfl rfl).val (congrArg Value.bool (decide_eq_false (by omega)))) rfl rfl rfl ?_
  refine KL.nil ?_
  refine KQ.seq ?_
  refine KC.condF rfl ?_
  refine KC.skip ?_
  refine KQ.seq ?_
  refine KC.seq ?_
  refine KC.region ?_
  refine KL.op (R.move rfl rfl) rfl rfl rfl ?_
  refine KL.op (R.nilCheck rfl rfl) rfl rfl rfl ?_
  refine KL.op ((by first | exact R.fieldAddr rfl Try.underlying49 rfl rfl sz40 rfl | exact R.fieldAddrP rfl Try.underlying49 rfl rfl sz40 rfl)) rfl rfl rfl ?_
  refine KL.op (R.load rfl Try.underlying40 rfl rfl (by first | exact cell_of br rfl | exact cell_of bj rfl | exact hw2 | exact (wl.int _ (by omega)).1 | exact (wr.int _ (by omega)).1 | assumption)) rfl rfl rfl ?_
  refine KL.op (R.move rfl rfl) rfl rfl rfl ?_
  refine KL.op (R.sub rfl rfl rfl (by dsimp only [InR]; omega)) rfl rfl rfl ?_
  refine KL.op (R.indexO1 (j := s.opn.length - 1) rfl Try.underlying40 sz3 rfl rfl wr (by omega) (by omega)) rfl rfl rfl ?_
  refine KL.op (R.load rfl Try.underlying3 rfl rfl (by first | exact cell_of br rfl | exact cell_of bj rfl | exact hw2 | exact (wl.int _ (by omega)).1 | exact (wr.int _ (by omega)).1 | assumption)) rfl rfl rfl ?_
  refine KL.op (R.assign rfl rfl) rfl rfl rfl ?_
  refine KL.nil ?_
  refine KQ.seq ?_
  refine KC.seq ?_
  refine KC.region ?_
  refine KL.op (R.move rfl rfl) rfl rfl rfl ?_
  refine KL.op (R.move rfl rfl) rfl rfl rfl ?_
  refine KL.op (R.nilCheck rfl rfl) rfl rfl rfl ?_
  refine KL.op ((by first | exact R.fieldAddr rfl Try.underlying49 rfl rfl sz40 rfl | exact R.fieldAddrP rfl Try.underlying49 rfl rfl sz40 rfl)) rfl rfl rfl ?_
  refine KL.op (R.load rfl Try.underlying40 rfl rfl (by first | exact cell_of br rfl | exact cell_of bj rfl | exact hw2 | exact (wl.int _ (by omega)).1 | exact (wr.int _ (by omega)).1 | assumption)) rfl rfl rfl ?_
  refine KL.op (R.move rfl rfl) rfl rfl rfl ?_
  refine KL.op (R.sub rfl rfl rfl (by dsimp only [InR]; omega)) rfl rfl rfl ?_
  refine KL.op (R.sliceTo (j := s.opn.length - 1) rfl Try.underlying40 sz3 rfl rfl wr (by omega) (by omega)) rfl rfl rfl ?_
  refine KL.op (R.nilCheck rfl rfl) rfl rfl rfl ?_
  refine KL.op ((by first | exact R.fieldAddr rfl Try.underlying49 rfl rfl sz40 rfl | exact R.fieldAddrP rfl Try.underlying49 rfl rfl sz40 rfl)) rfl rfl rfl ?_
  refine KL.opS (S.store rfl sz40 rfl rfl (by obtain ⟨a, c, hv, _⟩ := wr.val; subst hv; rfl) (by obtain ⟨a, c, hv, _⟩ := wr.val; subst hv; rfl) br (by simp)) rfl rfl ?_
  rintro H1 ⟨u1, b1⟩
  have o0 := o0.trans (OldB.upd u1 (by omega))
  have zu1 := u1.1
  have bj := ((u1).2 _ (by omega)).trans bj
  have we := we.upd u1 (by first | exact .inr (by omega) | exact we.lt.imp id (fun h => by omega))
  have wl := wl.upd u1 (by first | exact .inr (by omega) | exact wl.lt.imp id (fun h => by omega))
  have wo := wo.upd u1 (by first | exact .inr (by omega) | exact wo.lt.imp id (fun h => by omega))
  have wr := wr.upd u1 (by first | exact .inr (by omega) | exact wr.lt.imp id (fun h => by omega))
  have br := b1
  have wr0 := wr
  obtain ⟨wr, hvb⟩ := wr0.to (j := s.opn.length - 1) (by omega)
  refine KL.nil ?_
  refine KQ.seq ?_
  refine KC.seq ?_
  refine KC.text (clOf [(3, 1), (6, 1), (11, 1), (14, 1), (19, 2), (21, 2)]) (fun _ _ => True) (by kernel_rfl) (by kernel_rfl) (fun _ => trivial) ?_
  refine KP.op rfl (fun Hg hg => R.move rfl rfl) rfl rfl rfl ?_
  refine KP.op rfl (fun Hg hg => R.nilCheck rfl rfl) rfl rfl rfl ?_
  refine KP.op rfl (fun Hg hg => (by first | exact R.fieldAddr rfl Try.underlying49 rfl rfl sz24 rfl | exact R.fieldAddrP rfl Try.underlying49 rfl rfl sz24 rfl)) rfl rfl rfl ?_
  refine KP.now rfl (R.load rfl Try.underlying24 rfl rfl (by first | exact cell_of br rfl | exact cell_of bj rfl | exact hw2 | exact (wl.int _ (by omega)).1 | exact (wr.int _ (by omega)).1 | assumption)) rfl rfl rfl ?_
  refine KP.op rfl (fun Hg hg => R.nilCheck rfl rfl) rfl rfl rfl ?_
  refine KP.op rfl (fun Hg hg => (by first | exact R.fieldAddr rfl Try.underlying47 rfl rfl sz40 rfl | exact R.fieldAddrP rfl Try.underlying47 rfl rfl sz40 rfl)) rfl rfl rfl ?_
  refine KP.now rfl (R.load rfl Try.underlying40 rfl rfl (by first | exact cell_of br rfl | exact cell_of bj rfl | exact hw2 | exact (wl.int _ (by omega)).1 | exact (wr.int _ (by omega)).1 | assumption)) rfl rfl rfl ?_
  refine KP.op rfl (fun Hg hg => R.move rfl rfl) rfl rfl rfl ?_
  refine KP.op rfl (fun Hg hg => R.move rfl rfl) rfl rfl rfl ?_
  refine KP.op rfl (fun Hg hg => R.nilCheck rfl rfl) rfl rfl rfl ?_
  refine KP.op rfl (fun Hg hg => (by first | exact R.fieldAddr rfl Try.underlying49 rfl rfl sz24 rfl | exact R.fieldAddrP rfl Try.underlying49 rfl rfl sz24 rfl)) rfl rfl rfl ?_
  refine KP.now rfl (R.load rfl Try.underlying24 rfl rfl (by first | exact cell_of br rfl | exact cell_of bj rfl | exact hw2 | exact (wl.int _ (by omega)).1 | exact (wr.int _ (by omega)).1 | assumption)) rfl rfl rfl ?_
  refine KP.op rfl (fun Hg hg => R.nilCheck rfl rfl) rfl rfl rfl ?_
  refine KP.op rfl (fun Hg hg => (by first | exact R.fieldAddr rfl Try.underlying47 rfl rfl sz40 rfl | exact R.fieldAddrP rfl Try.underlying47 rfl rfl sz40 rfl)) rfl rfl rfl ?_
  refine KP.now rfl (R.load rfl Try.underlying40 rfl rfl (by first | exact cell_of br rfl | exact cell_of bj rfl | exact hw2 | exact (wl.int _ (by omega)).1 | exact (wr.int _ (by omega)).1 | assumption)) rfl rfl rfl ?_
  refine KP.op rfl (fun Hg hg => R.move rfl rfl) rfl rfl rfl ?_
  refine KP.op rfl (fun Hg hg => R.move rfl rfl) rfl rfl rfl ?_
  refine KP.op rfl (fun Hg hg => R.move rfl rfl) rfl rfl rfl ?_
  refine KP.op rfl (fun Hg hg => R.indexO1 (j := (s.opn.getD (s.opn.length - 1) default).toNat) rfl Try.underlying40 sz3 rfl rfl we (by omega) (by omega)) rfl rfl rfl ?_
  refine KP.opS rfl (S.own1 rfl sz3 rfl rfl rfl rfl we (by omega) ⟨rfl, by dsimp only [InR]; omega⟩) rfl rfl (fun _ _ _ _ _ => trivial) ?_
  rintro H2 ⟨u2, w2⟩
  have o0 := o0.trans (OldB.upd u2 (by omega))
  have zu2 := u2.1
  have br := ((u2).2 _ (by omega)).trans br
  have bj := ((u2).2 _ (by omega)).trans bj
  have wl := wl.upd u2 (by first | exact .inr (by omega) | exact wl.lt.imp id (fun h => by omega))
  have wo := wo.upd u2 (by first | exact .inr (by omega) | exact wo.lt.imp id (fun h => by omega))
  have wr := wr.upd u2 (by first | exact .inr (by omega) | exact wr.lt.imp id (fun h => by omega))
  have we := w2
  refine KP.op rfl (fun Hg hg => R.indexO1 (j := i.toNat) rfl Try.underlying40 sz3 rfl rfl wo (by omega) (by omega)) rfl rfl rfl ?_
  refine KP.opS rfl (S.own1 rfl sz3 rfl rfl rfl rfl wo (by omega) ⟨rfl, by dsimp only [InR]; omega⟩) rfl rfl (fun _ _ _ _ _ => trivial) ?_
  rintro H3 ⟨u3, w3⟩
  have o0 := o0.trans (OldB.upd u3 (by omega))
  have zu3 := u3.1
  have br := ((u3).2 _ (by omega)).trans br
  have bj := ((u3).2 _ (by omega)).trans bj
  have we := we.upd u3 (by first | exact .inr (by omega) | exact we.lt.imp id (fun h => by omega))
  have wl := wl.upd u3 (by first | exact .inr (by omega) | exact wl.lt.imp id (fun h => by omega))
  have wr := wr.upd u3 (by first | exact .inr (by omega) | exact wr.lt.imp id (fun h => by omega))
  have wo := w3
  refine KP.nil ?_
  refine KQ.seq ?_
  refine KC.seq ?_
  refine KC.seq ?_
  refine KC.region ?_
  refine KL.op (R.move rfl rfl) rfl rfl rfl ?_
  refine KL.op (R.nilCheck rfl rfl) rfl rfl rfl ?_
  refine KL.op ((by first | exact R.fieldAddr rfl Try.underlying49 rfl rfl sz24 rfl | exact R.fieldAddrP rfl Try.underlying49 rfl rfl sz24 rfl)) rfl rfl rfl ?_
  refine KL.op (R.load rfl Try.underlying24 rfl rfl (by first | exact cell_of br rfl | exact cell_of bj rfl | exact hw2 | exact (wl.int _ (by omega)).1 | exact (wr.int _ (by omega)).1 | assumption)) rfl rfl rfl ?_
  refine KL.op (R.nilCheck rfl rfl) rfl rfl rfl ?_
  refine KL.op ((by first | exact R.fieldAddr rfl Try.underlying47 rfl rfl sz40 rfl | exact R.fieldAddrP rfl Try.underlying47 rfl rfl sz40 rfl)) rfl rfl rfl ?_
  refine KL.op (R.load rfl Try.underlying40 rfl rfl (by first | exact cell_of br rfl | exact cell_of bj rfl | exact hw2 | exact (wl.int _ (by omega)).1 | exact (wr.int _ (by omega)).1 | assumption)) rfl rfl rfl ?_
  refine KL.op (R.move rfl rfl) rfl rfl rfl ?_
  refine KL.op (R.indexO1 (j := (s.opn.getD (s.opn.length - 1) default).toNat) rfl Try.underlying40 sz3 rfl rfl wl (by omega) (by omega)) rfl rfl rfl ?_
  refine KL.op (R.load rfl Try.underlying3 rfl rfl (by first | exact cell_of br rfl | exact cell_of bj rfl | exact hw2 | exact (wl.int _ (by omega)).1 | exact (wr.int _ (by omega)).1 | assumption)) rfl rfl rfl ?_
  refine KL.op (R.assign rfl rfl) rfl rfl rfl ?_
  refine KL.nil ?_
  refine KQ.seq ?_
  refine KC.seq ?_
  refine KC.region ?_
  refine KL.op (R.move rfl rfl) rfl rfl rfl ?_
  refine KL.op (R.geq rfl rfl rfl) rfl rfl rfl ?_
  refine KL.nil ?_
  refine KQ.seq ?_
  refine KC.iteL rfl ?_ ?_
  · intro hc64
    try simp only [decide_eq_true_eq, decide_eq_false_iff_not, Bool.not_eq_true', Bool.not_eq_false', Bool.and_eq_true, Bool.or_eq_false_iff] at hc64
    refine KC.region ?_
    refine KL.op (R.move rfl rfl) rfl rfl rfl ?_
    refine KL.op (R.nilCheck rfl rfl) rfl rfl rfl ?_
    refine KL.op ((by first | exact R.fieldAddr rfl Try.underlying49 rfl rfl sz24 rfl | exact R.fieldAddrP rfl Try.underlying49 rfl rfl sz24 rfl)) rfl rfl rfl ?_
    refine KL.op (R.load rfl Try.underlying24 rfl rfl (by first | exact cell_of br rfl | exact cell_of bj rfl | exact hw2 | exact (wl.int _ (by omega)).1 | exact (wr.int _ (by omega)).1 | assumption)) rfl rfl rfl ?_
    refine KL.op (R.nilCheck rfl rfl) rfl rfl rfl ?_
    refine KL.op ((by first | exact R.fieldAddr rfl Try.underlying47 rfl rfl sz40 rfl | exact R.fieldAddrP rfl Try.underlying47 rfl rfl sz40 rfl)) rfl rfl rfl ?_
    refine KL.op (R.load rfl Try.underlying40 rfl rfl (by first | exact cell_of br rfl | exact cell_of bj rfl | exact hw2 | exact (wl.int _ (by omega)).1 | exact (wr.int _ (by omega)).1 | assumption)) rfl rfl rfl ?_
    refine KL.op (R.move rfl rfl) rfl rfl rfl ?_
    refine KL.op (R.move rfl rfl) rfl rfl rfl ?_
    refine KL.op (R.indexO1 (j := (s.el.getD (s.opn.getD (s.opn.length - 1) default).toNat default).toNat) rfl Try.underlying40 sz3 rfl rfl we (by omega) (by rw [List.length_set]; omega)) rfl rfl rfl ?_
    refine KL.opS (S.own1 rfl sz3 rfl rfl rfl rfl we (by rw [List.length_set]; omega) ⟨rfl, by dsimp only [InR]; omega⟩) rfl rfl ?_
    rintro H4 ⟨u4, w4⟩
    have o0 := o0.trans (OldB.upd u4 (by omega))
    have zu4 := u4.1
    have br := ((u4).2 _ (by omega)).trans br
    have bj := ((u4).2 _ (by omega)).trans bj
    have wl := wl.upd u4 (by first | exact .inr (by omega) | exact wl.lt.imp id (fun h => by omega))
    have wo := wo.upd u4 (by first | exact .inr (by omega) | exact wo.lt.imp id (fun h => by omega))
    have wr := wr.upd u4 (by first | exact .inr (by omega) | exact wr.lt.imp id (fun h => by omega))
    have we := w4
    refine KL.nil ?_
    refine KQ.seq ?_
    refine KC.seq ?_
    refine KC.region ?_
    refine KL.op (R.assign rfl rfl) rfl rfl rfl ?_
    refine KL.nil ?_
    refine KQ.seq ?_
    refine KC.ret ?_
    refine KQ.ofRet ?_
    refine KQ.fin1 Try.results22 rfl ?_
    exact ⟨rfl, ⟨ve, vl, vo, _, br, bj, by unfold JS.closed JS.last; dsimp only; first | (rw [if_pos hc64]; exact we) | (rw [if_neg hc64]; exact we), wl, wo, wr, h1, h2, h3, h4, h5⟩, o0⟩
  · intro hc64
    try simp only [decide_eq_true_eq, decide_eq_false_iff_not, Bool.not_eq_true', Bool.not_eq_false', Bool.and_eq_true, Bool.or_eq_false_iff] at hc64
    refine KC.skip ?_
    refine KQ.seq ?_
    refine KC.seq ?_
    refine KC.region ?_
    refine KL.op (R.assign rfl rfl) rfl rfl rfl ?_
    refine KL.nil ?_
    refine KQ.seq ?_
    refine KC.ret ?_
    refine KQ.ofRet ?_
    refine KQ.fin1 Try.results22 rfl ?_
    exact ⟨rfl, ⟨ve, vl, vo, _, br, bj, by unfold JS.closed JS.last; dsimp only; first | (rw [if_pos hc64]; exact we) | (rw [if_neg hc64]; exact we), wl, wo, wr, h1, h2, h3, h4, h5⟩, o0⟩


theorem closed_any {H : Heap} (B gr gj : Nat) (s : JS) (i : Int) (n : Nat) (hr : RM H B gr gj s) (hok : s.Ok n) (hi : 0 ≤ i ∧ i < n) (hn : n < 1000000) : Ct Try.prog 22 [.pointer (some ⟨gr, 0, none⟩), .int .i64 i] H (fun u H' => (u = .bool true ∧ 0 < s.opn.length ∧ RM H' B gr gj (s.closed i) ∧ OldB B H H') ∨ (u = .bool false ∧ s.opn.length = 0 ∧ H = H')) := by
  by_cases h0 : s.opn.length = 0
  · exact (closed_no B gr gj s i n hr hok hi hn h0).mono fun v H' h => .inr ⟨h.1, h0, h.2⟩
  · exact (closed_yes B gr gj s i n hr hok hi hn (by omega)).mono fun v H' h => .inl ⟨h.1, by omega, h.2⟩


def JS.mayTurn (s : JS) (body : List Ins) : Prop := 0 < s.opn.length ∧ (body.getD s.last.toNat default).op = 4 ∧ s.el.getD s.last.toNat default < 0

set_option maxRecDepth 100000 in
set_option maxHeartbeats 4000000 in
theorem turned_any {H : Heap} (B gr gj : Nat) (s : JS) (i : Int) (n : Nat) (hr : RM H B gr gj s) (hok : s.Ok n) (hi : 0 ≤ i ∧ i < n) (hn : n < 1000000) (vb : Value) (body : List Ins) (hb : Sl 5 EIns H vb body) (hbl : body.length = n) : Ct Try.prog 24 [.pointer (some ⟨gr, 0, none⟩), .int .i64 i, vb] H (fun u H' => (u = .bool true ∧ s.mayTurn body ∧ RM H' B gr gj (s.turned i) ∧ OldB B H H') ∨ (u = .bool false ∧ ¬ s.mayTurn body ∧ H = H')) := by
  refine Ct.mk Try.func24 rfl Try.ntmps24 rfl ?_
  intro W0 hW0
  have o0 : OldB B H H := OldB.refl _ H
  obtain ⟨ve, vl, vo, vr, br, bj, we, wl, wo, wr, h1, h2, h3, h4, h5⟩ := hr
  have zr := blk_lt br
  have hrl := wr.len
  have le1 := hok.en; have le2 := hok.el; have le3 := hok.op
  have hlast : 0 < s.opn.length → 0 ≤ s.last ∧ s.last < n := fun h => hok.opn s.last (getD_mem (by omega))
  unfold JS.last at hlast
  refine KC.seq ?_
  refine KC.region ?_
  refine KL.op (R.assign rfl rfl) rfl rfl rfl ?_
  refine KL.nil ?_
  refine KQ.seq ?_
  refine KC.seq ?_
  refine KC.region ?_
  refine KL.op (R.move rfl rfl) rfl rfl rfl ?_
  refine KL.op (R.nilCheck rfl rfl) rfl rfl rfl ?_
  refine KL.op ((by first | exact R.fieldAddr rfl Try.underlying49 rfl rfl sz40 rfl | exact R.fieldAddrP rfl Try.underlying49 rfl rfl sz40 rfl)) rfl rfl rfl ?_
  refine KL.op (R.load rfl Try.underlying40 rfl rfl (by first | exact cell_of br rfl | exact cell_of bj rfl | exact hz | exact hins1 | exact hw3 | assumption)) rfl rfl rfl ?_
  refine KL.op (R.lenO rfl Try.underlying40 rfl wr) rfl rfl rfl ?_
  refine KL.op (R.assign rfl rfl) rfl rfl rfl ?_
  refine KL.nil ?_
  refine KQ.seq ?_
  refine KC.seq ?_
  refine KC.seq ?_
  refine KC.quiet (by kernel_rfl) (by kernel_rfl) ?_
  refine KD.op (R.move rfl rfl) rfl rfl rfl ?_
  refine KD.op (R.eql rfl rfl rfl) rfl rfl rfl ?_
  refine KD.op (R.move rfl rfl) rfl rfl rfl ?_
  refine KD.case (d := 15) rfl ?_ ?_
  · intro hg15
    try simp only [decide_eq_true_eq, decide_eq_false_iff_not, Bool.not_eq_true', Bool.not_eq_false', Bool.and_eq_true, Bool.or_eq_false_iff] at hg15
    refine KD.skip rfl rfl rfl ?_
    refine KD.skip rfl rfl rfl ?_
    refine KD.skip rfl rfl rfl ?_
    refine KD.skip rfl rfl rfl ?_
    refine KD.skip rfl rfl rfl ?_
    refine KD.skip rfl rfl rfl ?_
    refine KD.skip rfl rfl rfl ?_
    refine KD.skip rfl rfl rfl ?_
    refine KD.skip rfl rfl rfl ?_
    refine KD.skip rfl rfl rfl ?_
    refine KD.skip rfl rfl rfl ?_
    refine KD.skip rfl rfl rfl ?_
    refine KD.skip rfl rfl rfl ?_
    refine KD.op (R.pick rfl rfl rfl) rfl rfl rfl ?_
    refine KD.op (R.move rfl rfl) rfl rfl rfl ?_
    refine KD.skip rfl rfl rfl ?_
    refine KD.skip rfl rfl rfl ?_
    refine KD.skip rfl rfl rfl ?_
    refine KD.skip rfl rfl rfl ?_
    refine KD.skip rfl rfl rfl ?_
    refine KD.skip rfl rfl rfl ?_
    refine KD.skip rfl rfl rfl ?_
    refine KD.skip rfl rfl rfl ?_
    refine KD.skip rfl rfl rfl ?_
    refine KD.skip rfl rfl rfl ?_
    refine KD.skip rfl rfl rfl ?_
    refine KD.skip rfl rfl rfl ?_
    refine KD.skip rfl rfl rfl ?_
    refine KD.skip rfl rfl rfl ?_
    refine KD.skip rfl rfl rfl ?_
    refine KD.skip rfl rfl rfl ?_
    refine KD.skip rfl rfl rfl ?_
    refine KD.skip rfl rfl rfl ?_
    refine KD.op (R.pick rfl rfl rfl) rfl rfl rfl ?_
    refine KD.nil ?_
    refine KQ.seq ?_
    refine KC.condT rfl ?_
    refine KC.seq ?_
    refine KC.region ?_
    refine KL.op (R.assign rfl rfl) rfl rfl rfl ?_
    refine KL.nil ?_
    refine KQ.seq ?_
    refine KC.ret ?_
    refine KQ.retThen ?_
    refine KQ.ofRet ?_
    refine KQ.fin1 Try.results24 rfl ?_
    first | exact .inl ⟨rfl, ⟨by omega, by unfold JS.last; omega, by unfold JS.last; omega⟩, ⟨ve, vl, vo, vr, br, bj, we, wl, wo, wr, h1, h2, h3, h4, h5⟩, o0⟩ | exact .inr ⟨rfl, by unfold JS.mayTurn JS.last; omega, rfl⟩
  · intro hg15
    try simp only [decide_eq_true_eq, decide_eq_false_iff_not, Bool.not_eq_true', Bool.not_eq_false', Bool.and_eq_true, Bool.or_eq_false_iff] at hg15
    have hlast := hlast (by omega)
    have hins := hb.insOp (s.opn.getD (s.opn.length - 1) default).toNat (by omega)
    have hz := (wr.int (s.opn.length - 1) (by omega)).1
    have hins1 := hins.1
    have hins2 := hins.2; dsimp only [InR] at hins2
    have hw3 := (wl.int (s.opn.getD (s.opn.length - 1) default).toNat (by omega)).1
    refine KD.op (R.move rfl rfl) rfl rfl rfl ?_
    refine KD.op (R.move rfl rfl) rfl rfl rfl ?_
    refine KD.op (R.nilCheck rfl rfl) rfl rfl rfl ?_
    refine KD.op ((by first | exact R.fieldAddr rfl Try.underlying49 rfl rfl sz40 rfl | exact R.fieldAddrP rfl Try.underlying49 rfl rfl sz40 rfl)) rfl rfl rfl ?_
    refine KD.op (R.load rfl Try.underlying40 rfl rfl (by first | exact cell_of br rfl | exact cell_of bj rfl | exact hz | exact hins1 | exact hw3 | assumption)) rfl rfl rfl ?_
    refine KD.op (R.move rfl rfl) rfl rfl rfl ?_
    refine KD.op (R.sub rfl rfl rfl (by dsimp only [InR]; omega)) rfl rfl rfl ?_
    refine KD.op (R.indexO1 (j := s.opn.length - 1) rfl Try.underlying40 sz3 rfl rfl wr (by omega) (by omega)) rfl rfl rfl ?_
    refine KD.op (R.load rfl Try.underlying3 rfl rfl (by first | exact cell_of br rfl | exact cell_of bj rfl | exact hz | exact hins1 | exact hw3 | assumption)) rfl rfl rfl ?_
    refine KD.op (R.index (j := (s.opn.getD (s.opn.length - 1) default).toNat) rfl Try.underlying27 sz37 rfl rfl hb (by omega) (by omega)) rfl rfl rfl ?_
    refine KD.op ((by first | exact R.fieldAddr rfl Try.underlying37 rfl rfl sz5 rfl | exact R.fieldAddrP rfl Try.underlying37 rfl rfl sz5 rfl)) rfl rfl rfl ?_
    refine KD.op (R.load rfl Try.underlying5 rfl rfl (by first | exact cell_of br rfl | exact cell_of bj rfl | exact hz | exact hins1 | exact hw3 | assumption)) rfl rfl rfl ?_
    refine KD.op (R.neq rfl rfl rfl) rfl rfl rfl ?_
    refine KD.op (R.pick rfl rfl rfl) rfl rfl rfl ?_
    refine KD.op (R.move rfl rfl) rfl rfl rfl ?_
    refine KD.case (d := 30) rfl ?_ ?_
    · intro hg30
      try simp only [decide_eq_true_eq, decide_eq_false_iff_not, Bool.not_eq_true', Bool.not_eq_false', Bool.and_eq_true, Bool.or_eq_false_iff] at hg30
      refine KD.skip rfl rfl rfl ?_
      refine KD.skip rfl rfl rfl ?_
      refine KD.skip rfl rfl rfl ?_
      refine KD.skip rfl rfl rfl ?_
      refine KD.skip rfl rfl rfl ?_
      refine KD.skip rfl rfl rfl ?_
      refine KD.skip rfl rfl rfl ?_
      refine KD.skip rfl rfl rfl ?_
      refine KD.skip rfl rfl rfl ?_
      refine KD.skip rfl rfl rfl ?_
      refine KD.skip rfl rfl rfl ?_
      refine KD.skip rfl rfl rfl ?_
      refine KD.skip rfl rfl rfl ?_
      refine KD.skip rfl rfl rfl ?_
      refine KD.skip rfl rfl rfl ?_
      refine KD.skip rfl rfl rfl ?_
      refine KD.skip rfl rfl rfl ?_
      refine KD.skip rfl rfl rfl ?_
      refine KD.op (R.pick rfl rfl rfl) rfl rfl rfl ?_
      refine KD.nil ?_
      refine KQ.seq ?_
      refine KC.condT rfl ?_
      refine KC.seq ?_
      refine KC.region ?_
      refine KL.op (R.assign rfl rfl) rfl rfl rfl ?_
      refine KL.nil ?_
      refine KQ.seq ?_
      refine KC.ret ?_
      refine KQ.retThen ?_
      refine KQ.ofRet ?_
      refine KQ.fin1 Try.results24 rfl ?_
      first | exact .inl ⟨rfl, ⟨by omega, by unfold JS.last; omega, by unfold JS.last; omega⟩, ⟨ve, vl, vo, vr, br, bj, we, wl, wo, wr, h1, h2, h3, h4, h5⟩, o0⟩ | exact .inr ⟨rfl, by unfold JS.mayTurn JS.last; omega, rfl⟩
    · intro hg30
      try simp only [decide_eq_true_eq, decide_eq_false_iff_not, Bool.not_eq_true', Bool.not_eq_false', Bool.and_eq_true, Bool.or_eq_false_iff] at hg30
      refine KD.op (R.move rfl rfl) rfl rfl rfl ?_
      refine KD.op (R.nilCheck rfl rfl) rfl rfl rfl ?_
      refine KD.op ((by first | exact R.fieldAddr rfl Try.underlying49 rfl rfl sz24 rfl | exact R.fieldAddrP rfl Try.underlying49 rfl rfl sz24 rfl)) rfl rfl rfl ?_
      refine KD.op (R.load rfl Try.underlying24 rfl rfl (by first | exact cell_of br rfl | exact cell_of bj rfl | exact hz | exact hins1 | exact hw3 | assumption)) rfl rfl rfl ?_
      refine KD.op (R.nilCheck rfl rfl) rfl rfl rfl ?_
      refine KD.op ((by first | exact R.fieldAddr rfl Try.underlying47 rfl rfl sz40 rfl | exact R.fieldAddrP rfl Try.underlying47 rfl rfl sz40 rfl)) rfl rfl rfl ?_
      refine KD.op (R.load rfl Try.underlying40 rfl rfl (by first | exact cell_of br rfl | exact cell_of bj rfl | exact hz | exact hins1 | exact hw3 | assumption)) rfl rfl rfl ?_
      refine KD.op (R.move rfl rfl) rfl rfl rfl ?_
      refine KD.op (R.nilCheck rfl rfl) rfl rfl rfl ?_
      refine KD.op ((by first | exact R.fieldAddr rfl Try.underlying49 rfl rfl sz40 rfl | exact R.fieldAddrP rfl Try.underlying49 rfl rfl sz40 rfl)) rfl rfl rfl ?_
      refine KD.op (R.load rfl Try.underlying40 rfl rfl (by first | exact cell_of br rfl | exact cell_of bj rfl | exact hz | exact hins1 | exact hw3 | assumption)) rfl rfl rfl ?_
      refine KD.op (R.move rfl rfl) rfl rfl rfl ?_
      refine KD.op (R.sub rfl rfl rfl (by dsimp only [InR]; omega)) rfl rfl rfl ?_
      refine KD.op (R.indexO1 (j := s.opn.length - 1) rfl Try.underlying40 sz3 rfl rfl wr (by omega) (by omega)) rfl rfl rfl ?_
      refine KD.op (R.load rfl Try.underlying3 rfl rfl (by first | exact cell_of br rfl | exact cell_of bj rfl | exact hz | exact hins1 | exact hw3 | assumption)) rfl rfl rfl ?_
      refine KD.op (R.indexO1 (j := (s.opn.getD (s.opn.length - 1) default).toNat) rfl Try.underlying40 sz3 rfl rfl wl (by omega) (by omega)) rfl rfl rfl ?_
      refine KD.op (R.load rfl Try.underlying3 rfl rfl (by first | exact cell_of br rfl | exact cell_of bj rfl | exact hz | exact hins1 | exact hw3 | assumption)) rfl rfl rfl ?_
      refine KD.op (R.geq rfl rfl rfl) rfl rfl rfl ?_
      refine KD.op (R.pick rfl rfl rfl) rfl rfl rfl ?_
      refine KD.nil ?_
      refine KQ.seq ?_
      refine KC.iteL rfl ?_ ?_
      · intro hc49
        try simp only [decide_eq_true_eq, decide_eq_false_iff_not, Bool.not_eq_true', Bool.not_eq_false', Bool.and_eq_true, Bool.or_eq_false_iff] at hc49
        refine KC.seq ?_
        refine KC.region ?_
        refine KL.op (R.assign rfl rfl) rfl rfl rfl ?_
        refine KL.nil ?_
        refine KQ.seq ?_
        refine KC.ret ?_
        refine KQ.retThen ?_
        refine KQ.ofRet ?_
        refine KQ.fin1 Try.results24 rfl ?_
        first | exact .inl ⟨rfl, ⟨by omega, by unfold JS.last; omega, by unfold JS.last; omega⟩, ⟨ve, vl, vo, vr, br, bj, we, wl, wo, wr, h1, h2, h3, h4, h5⟩, o0⟩ | exact .inr ⟨rfl, by unfold JS.mayTurn JS.last; omega, rfl⟩
      · intro hc49
        try simp only [decide_eq_true_eq, decide_eq_false_iff_not, Bool.not_eq_true', Bool.not_eq_false', Bool.and_eq_true, Bool.or_eq_false_iff] at hc49
        refine KC.skip ?_
        refine KQ.seq ?_
        refine KC.seq ?_
        refine KC.text (clOf [(3, 1), (6, 1), (10, 1), (14, 1), (18, 1), (21, 1), (27, 1), (31, 1), (33, 2), (35, 2)]) (fun _ _ => True) (by kernel_rfl) (by kernel_rfl) (fun _ => trivial) ?_
        refine KP.op rfl (fun Hg hg => R.move rfl rfl) rfl rfl rfl ?_
        refine KP.op rfl (fun Hg hg => R.nilCheck rfl rfl) rfl rfl rfl ?_
        refine KP.op rfl (fun Hg hg => (by first | exact R.fieldAddr rfl Try.underlying49 rfl rfl sz24 rfl | exact R.fieldAddrP rfl Try.underlying49 rfl rfl sz24 rfl)) rfl rfl rfl ?_
        refine KP.now rfl (R.load rfl Try.underlying24 rfl rfl (by first | exact cell_of br rfl | exact cell_of bj rfl | exact hz | exact hins1 | exact hw3 | assumption)) rfl rfl rfl ?_
        refine KP.op rfl (fun Hg hg => R.nilCheck rfl rfl) rfl rfl rfl ?_
        refine KP.op rfl (fun Hg hg => (by first | exact R.fieldAddr rfl Try.underlying47 rfl rfl sz40 rfl | exact R.fieldAddrP rfl Try.underlying47 rfl rfl sz40 rfl)) rfl rfl rfl ?_
        refine KP.now rfl (R.load rfl Try.underlying40 rfl rfl (by first | exact cell_of br rfl | exact cell_of bj rfl | exact hz | exact hins1 | exact hw3 | assumption)) rfl rfl rfl ?_
        refine KP.op rfl (fun Hg hg => R.move rfl rfl) rfl rfl rfl ?_
        refine KP.op rfl (fun Hg hg => R.nilCheck rfl rfl) rfl rfl rfl ?_
        refine KP.op rfl (fun Hg hg => (by first | exact R.fieldAddr rfl Try.underlying49 rfl rfl sz40 rfl | exact R.fieldAddrP rfl Try.underlying49 rfl rfl sz40 rfl)) rfl rfl rfl ?_
        refine KP.now rfl (R.load rfl Try.underlying40 rfl rfl (by first | exact cell_of br rfl | exact cell_of bj rfl | exact hz | exact hins1 | exact hw3 | assumption)) rfl rfl rfl ?_
        refine KP.op rfl (fun Hg hg => R.move rfl rfl) rfl rfl rfl ?_
        refine KP.op rfl (fun Hg hg => R.sub rfl rfl rfl (by dsimp only [InR]; omega)) rfl rfl rfl ?_
        refine KP.op rfl (fun Hg hg => R.indexO1 (j := s.opn.length - 1) rfl Try.underlying40 sz3 rfl rfl wr (by omega) (by omega)) rfl rfl rfl ?_
        refine KP.now rfl (R.load rfl Try.underlying3 rfl rfl (by first | exact cell_of br rfl | exact cell_of bj rfl | exact hz | exact hins1 | exact hw3 | assumption)) rfl rfl rfl ?_
        refine KP.op rfl (fun Hg hg => R.move rfl rfl) rfl rfl rfl ?_
        refine KP.op rfl (fun Hg hg => R.nilCheck rfl rfl) rfl rfl rfl ?_
        refine KP.op rfl (fun Hg hg => (by first | exact R.fieldAddr rfl Try.underlying49 rfl rfl sz24 rfl | exact R.fieldAddrP rfl Try.underlying49 rfl rfl sz24 rfl)) rfl rfl rfl ?_
        refine KP.now rfl (R.load rfl Try.underlying24 rfl rfl (by first | exact cell_of br rfl | exact cell_of bj rfl | exact hz | exact hins1 | exact hw3 | assumption)) rfl rfl rfl ?_
        refine KP.op rfl (fun Hg hg => R.nilCheck rfl rfl) rfl rfl rfl ?_
        refine KP.op rfl (fun Hg hg => (by first | exact R.fieldAddr rfl Try.underlying47 rfl rfl sz40 rfl | exact R.fieldAddrP rfl Try.underlying47 rfl rfl sz40 rfl)) rfl rfl rfl ?_
        refine KP.now rfl (R.load rfl Try.underlying40 rfl rfl (by first | exact cell_of br rfl | exact cell_of bj rfl | exact hz | exact hins1 | exact hw3 | assumption)) rfl rfl rfl ?_
        refine KP.op rfl (fun Hg hg => R.move rfl rfl) rfl rfl rfl ?_
        refine KP.op rfl (fun Hg hg => R.move rfl rfl) rfl rfl rfl ?_
        refine KP.op rfl (fun Hg hg => R.move rfl rfl) rfl rfl rfl ?_
        refine KP.op rfl (fun Hg hg => R.nilCheck rfl rfl) rfl rfl rfl ?_
        refine KP.op rfl (fun Hg hg => (by first | exact R.fieldAddr rfl Try.underlying49 rfl rfl sz40 rfl | exact R.fieldAddrP rfl Try.underlying49 rfl rfl sz40 rfl)) rfl rfl rfl ?_
        refine KP.now rfl (R.load rfl Try.underlying40 rfl rfl (by first | exact cell_of br rfl | exact cell_of bj rfl | exact hz | exact hins1 | exact hw3 | assumption)) rfl rfl rfl ?_
        refine KP.op rfl (fun Hg hg => R.move rfl rfl) rfl rfl rfl ?_
        refine KP.op rfl (fun Hg hg => R.sub rfl rfl rfl (by dsimp only [InR]; omega)) rfl rfl rfl ?_
        refine KP.op rfl (fun Hg hg => R.indexO1 (j := s.opn.length - 1) rfl Try.underlying40 sz3 rfl rfl wr (by omega) (by omega)) rfl rfl rfl ?_
        refine KP.now rfl (R.load rfl Try.underlying3 rfl rfl (by first | exact cell_of br rfl | exact cell_of bj rfl | exact hz | exact hins1 | exact hw3 | assumption)) rfl rfl rfl ?_
        refine KP.op rfl (fun Hg hg => R.indexO1 (j := (s.opn.getD (s.opn.length - 1) default).toNat) rfl Try.underlying40 sz3 rfl rfl wl (by omega) (by omega)) rfl rfl rfl ?_
        refine KP.opS rfl (S.own1 rfl sz3 rfl rfl rfl rfl wl (by omega) ⟨rfl, by dsimp only [InR]; omega⟩) rfl rfl (fun _ _ _ _ _ => trivial) ?_
        rintro H1 ⟨u1, w1⟩
        have o0 := o0.trans (OldB.upd u1 (by omega))
        have zu1 := u1.1
        have br := ((u1).2 _ (by omega)).trans br
        have bj := ((u1).2 _ (by omega)).trans bj
        have we := we.upd u1 (by first | exact .inr (by omega) | exact we.lt.imp id (fun h => by omega))
        have wo := wo.upd u1 (by first | exact .inr (by omega) | exact wo.lt.imp id (fun h => by omega))
        have wr := wr.upd u1 (by first | exact .inr (by omega) | exact wr.lt.imp id (fun h => by omega))
        have wl := w1
        refine KP.op rfl (fun Hg hg => R.indexO1 (j := i.toNat) rfl Try.underlying40 sz3 rfl rfl wo (by omega) (by omega)) rfl rfl rfl ?_
        refine KP.opS rfl (S.own1 rfl sz3 rfl rfl rfl rfl wo (by omega) ⟨rfl, by dsimp only [InR]; omega⟩) rfl rfl (fun _ _ _ _ _ => trivial) ?_
        rintro H2 ⟨u2, w2⟩
        have o0 := o0.trans (OldB.upd u2 (by omega))
        have zu2 := u2.1
        have br := ((u2).2 _ (by omega)).trans br
        have bj := ((u2).2 _ (by omega)).trans bj
        have we := we.upd u2 (by first | exact .inr (by omega) | exact we.lt.imp id (fun h => by omega))
        have wl := wl.upd u2 (by first | exact .inr (by omega) | exact wl.lt.imp id (fun h => by omega))
        have wr := wr.upd u2 (by first | exact .inr (by omega) | exact wr.lt.imp id (fun h => by omega))
        have wo := w2
        refine KP.nil ?_
        refine KQ.seq ?_
        refine KC.seq ?_
        refine KC.region ?_
        refine KL.op (R.assign rfl rfl) rfl rfl rfl ?_
        refine KL.nil ?_
        refine KQ.seq ?_
        refine KC.ret ?_
        refine KQ.ofRet ?_
        refine KQ.fin1 Try.results24 rfl ?_
        first | exact .inl ⟨rfl, ⟨by omega, by unfold JS.last; omega, by unfold JS.last; omega⟩, ⟨ve, vl, vo, vr, br, bj, we, wl, wo, wr, h1, h2, h3, h4, h5⟩, o0⟩ | exact .inr ⟨rfl, by unfold JS.mayTurn JS.last; omega, rfl⟩

end Go.Proofs.Ytbopalmbphgedaa
