/- gabelleref33.Sum. No condition. -/
import Derived.Test.YtgpbdimccbimnaaSumF
namespace Go.Proofs.Ytgpbdimccbimnaa
open Go Go.RowKit
set_option linter.unusedVariables false
set_option linter.unusedSimpArgs false
set_option linter.unnecessarySimpa false

namespace Sha
/-- a word that is being put together -/
def pw (b : List Int) (t : Nat) : Nat → Int
  | 0 => 0
  | i + 1 => 256 * pw b t i + b.getD (4 * t + i) default
theorem pw_four (b : List Int) (t : Nat) : pw b t 4 = wd b t := by
  simp only [pw, wd, Nat.add_zero]; omega
theorem pw_range {b : List Int} (hb : ∀ x ∈ b, R8 x) {t i : Nat} (hi : i ≤ 3) (ht : 4 * t + 3 < b.length) : 0 ≤ pw b t i ∧ pw b t i ≤ 16777215 := by
  have h : ∀ i, i < b.length → R8 (b.getD i default) := fun i hi => hb _ (by rw [List.getD_eq_getElem?_getD, List.getElem?_eq_getElem hi]; exact List.getElem_mem _)
  have h0 := h (4 * t + 0) (by omega); have h1 := h (4 * t + 1) (by omega); have h2 := h (4 * t + 2) (by omega)
  unfold R8 at h0 h1 h2
  match i, hi with
  | 0, _ => simp [pw]
  | 1, _ => simp only [pw]; omega
  | 2, _ => simp only [pw]; omega
  | 3, _ => simp only [pw]; omega
theorem chunk_getD {b : List Int} {p i : Nat} (hi : i < 64) : ((b.drop p).take 64).getD i default = b.getD (p + i) default := by
  rw [List.getD_eq_getElem?_getD, List.getElem?_take, if_pos hi, List.getElem?_drop, List.getD_eq_getElem?_getD]
theorem rnd_sum (v : List Int) (k w : Int) : W (W (W (W (g8 v 7 + sg (g8 v 4) 6 11 25) + ch (g8 v 4) (g8 v 5) (g8 v 6)) + k) + w) = W (g8 v 7 + sg (g8 v 4) 6 11 25 + ch (g8 v 4) (g8 v 5) (g8 v 6) + k + w) := by
  simp only [W_eq]; omega
theorem take_flat_succ {s : List Int} {i : Nat} (h : i < s.length) : (s.take (i + 1)).flatMap bs4 = (s.take i).flatMap bs4 ++ bs4 (s.getD i default) := by
  rw [List.take_succ_eq_append_getElem h, List.flatMap_append, List.getD_eq_getElem?_getD, List.getElem?_eq_getElem h]
  simp
end Sha
theorem Old.frB {H HB Hl : Heap} {g : Nat} (o : Old H HB) (f : Fr g (.slice none 0 0) HB Hl) (hg : H.size ≤ g) : Old H Hl := ⟨Nat.le_trans o.1 f.1, fun k hk => (f.2 k (by have := o.1; omega) (by omega) (.inl rfl)).trans (o.2 k hk)⟩
theorem Own.frNe {α : Type} {n : Nat} {E : El α} {e : TypeId} {H0 H H' : Heap} {B g : Nat} {v : Value} {l : List α} (h : Own n E e H0 B H v l) (f : Fr g (.slice none 0 0) H H') (hB : v = .slice none 0 0 ∨ vblock v ≠ g) : Own n E e H0 B H' v l :=
  h.fr f (hB.imp id fun h => ⟨h, .inl rfl⟩)


namespace Sha
theorem wpad_zero {b : List Int} {t : Nat} (h : t < 64) : (ws b t ++ List.replicate (64 - t) 0).set t (pw b t 0) = ws b t ++ List.replicate (64 - t) 0 := by
  rw [List.set_append_right _ _ (by rw [ws_length]; omega), ws_length, Nat.sub_self, show 64 - t = (64 - (t + 1)) + 1 by omega, List.replicate_succ, List.set_cons_zero]; rfl
theorem set_set {l : List Int} {t : Nat} {x y : Int} : (l.set t x).set t y = l.set t y := List.set_set ..
end Sha


namespace Sha
theorem set_self {l : List Int} {t : Nat} {x : Int} (h : t < l.length) : (l.set t x).getD t default = x := by rw [List.getD_eq_getElem?_getD, List.getElem?_set_self h]; rfl
theorem pw_inr {b : List Int} (hb : ∀ x ∈ b, R8 x) {t i : Nat} (hi : i < 4) (ht : 4 * t + 3 < b.length) : InR .u32 (pw b t (i + 1)) := by
  have h1 := pw_range hb (t := t) (i := i) (by omega) ht
  have h2 : R8 (b.getD (4 * t + i) default) := hb _ (by rw [List.getD_eq_getElem?_getD, List.getElem?_eq_getElem (by omega)]; exact List.getElem_mem _)
  unfold R8 at h2
  rw [pw]
  dsimp only [InR]
  omega
end Sha
theorem Fr.old2 {g : Nat} {HE HW HV HR HP : Heap} {B : Nat} (f : Fr g (.slice none 0 0) HE HW) (ob : OldB B HW HV) (oV : Old HV HR) (oR : Old HR HP) (hB : HE.size ≤ B) : Fr g (.slice none 0 0) HE HP :=
  ⟨by have := f.1; have := ob.1; have := oV.1; have := oR.1; omega, fun k hk h1 h2 => (((oV.trans oR).2 k (by have := f.1; have := ob.1; omega)).trans (ob.2 k (by omega))).trans (f.2 k hk h1 h2)⟩

set_option maxRecDepth 100000 in
set_option maxHeartbeats 4000000 in
theorem rSum_any {H : Heap} (v : Value) (m : List Int) (hs : Sl 1 (EInt .u8) H v m) (hlen : m.length < 4294967296) : Ct Try.prog 17 [v] H (fun u H' => Own 1 (EInt .u8) 5 #[] H.size H' u (Sha.digest m) ∧ Old H H') := by
  refine Ct.mk Try.func17 rfl Try.ntmps17 rfl ?_
  intro W0 hW0
  have o0 : Old H H := Old.refl H
  refine KC.seq ?_
  refine KC.region ?_
  refine KL.op (R.assign rfl rfl) rfl rfl rfl ?_
  refine KL.nil ?_
  refine KQ.seq ?_
  refine KC.seq ?_
  refine KC.region ?_
  refine KL.call rfl rfl rfl rfl Try.call21 rfl rfl rfl (Consts_any) ?_
  rintro _ H1 ⟨rfl, wh, wk, ox, zx⟩
  have zc_H1 := (ox).1
  have o0 := o0.trans ox
  have whC := wh
  have hvH : vblock (Value.slice (some ⟨H.size, 0, none⟩) 8 8) = H.size := rfl
  have wkC := wk
  have obC : OldB (H.size + 2) H1 H1 := OldB.refl _ _
  have oC := o0
  have hz : Sha.zs m.length = (119 - m.length % 64) % 64 := rfl
  refine KL.op (R.move rfl rfl) rfl rfl rfl ?_
  refine KL.op (R.extract rfl rfl rfl) rfl rfl rfl ?_
  refine KL.op (R.extract rfl rfl rfl) rfl rfl rfl ?_
  refine KL.op (R.assign rfl rfl) rfl rfl rfl ?_
  refine KL.op (R.assign rfl rfl) rfl rfl rfl ?_
  refine KL.nil ?_
  refine KQ.seq ?_
  refine KC.seq ?_
  refine KC.region ?_
  refine KL.opM (M.lit rfl Try.underlying24 zs5 (by decide) rfl rfl rfl) rfl rfl rfl ?_
  rintro _ H2 ⟨rfl, n2⟩
  have z2 := n2.2.1
  have o0 := o0.trans n2.1
  have obC := obC.trans ((n2.1).b (by omega))
  have b2 := n2.2.2
  have wb : Own 1 (EInt .u8) 5 #[] (H.size + 2) H2 _ ([] : List Int) := Own.litN (n := 1) (m := 0) (l := []) n2 (by omega) rfl (by unfold maxLen; omega) rfl (by simp [nth])
  refine KL.op (R.move rfl rfl) rfl rfl rfl ?_
  have lt3 := wb.lt
  refine KL.opM (M.append rfl Try.underlying24 inf5 rfl (by decide) rfl rfl wb (by exact (hs.old (oC.then obC (by omega)))) (fun _ _ h _ => h) (by omega) (by simp; omega) (by unfold maxLen; simp; omega)) rfl rfl rfl ?_
  rintro v1 H3 ⟨w3, g3⟩
  try dsimp only at g3
  have ob3 := g3.oldB wb (by omega)
  have o0 := o0.then ob3 (by omega)
  have z3 := ob3.1
  have obC := obC.trans (ob3.mono (by omega))
  have wb := w3
  refine KL.opM (M.lit rfl Try.underlying24 zs5 (by decide) rfl rfl rfl) rfl rfl rfl ?_
  rintro _ H4 ⟨rfl, n4⟩
  have z4 := n4.2.1
  have o0 := o0.trans n4.1
  have obC := obC.trans ((n4.1).b (by omega))
  have wb := wb.old n4.1
  have b4 := n4.2.2
  have sn : Sl 1 (EInt .u8) H4 _ [128] := Sl.lits n4 rfl (by simp) (by intro x hx; simp only [List.mem_singleton] at hx; subst hx; first | (dsimp only [InR]; omega) | exact Sha.u8_range _)
  have lt5 := wb.lt
  refine KL.opM (M.append rfl Try.underlying24 inf5 rfl (by decide) rfl rfl wb (by exact sn) (fun _ _ h _ => h) (by omega) (by simp; omega) (by unfold maxLen; simp; omega)) rfl rfl rfl ?_
  rintro v2 H5 ⟨w5, g5⟩
  try dsimp only at g5
  have ob5 := g5.oldB wb (by omega)
  have o0 := o0.then ob5 (by omega)
  have z5 := ob5.1
  have obC := obC.trans (ob5.mono (by omega))
  have wb := w5
  refine KL.op (R.assign rfl rfl) rfl rfl rfl ?_
  refine KL.nil ?_
  refine KQ.seq ?_
  refine KC.seq ?_
  refine KC.block ?_
  refine KC.loopD (κ := Nat × Value) [30, 31, 32, 33, 34, 35, 36, 5] (fun k => [(5, k.2)]) (fun k Hl => k.1 ≤ Sha.zs m.length ∧ Own 1 (EInt .u8) 5 #[] (H.size + 2) Hl k.2 (m ++ (128 :: List.replicate k.1 0)) ∧ OldB (H.size + 2) H1 Hl) (fun k => Sha.zs m.length - k.1) (0, v2) ?_ ?_ ?_
  · exact (Sub.cons rfl (Ext.sub (Ext.refl _ _)))
  · exact ⟨Nat.zero_le _, by simpa using wb, obC⟩
  · rintro ⟨k, vb⟩ H6 ⟨hk, wb, obC⟩
    dsimp only
    dsimp only at hk wb
    have o0 := oC.then obC (by omega)
    have hel : (m ++ (128 :: List.replicate k (0 : Int))).length = m.length + k + 1 := by simp; omega
    have zC := obC.1
    refine KC.seq ?_
    refine KC.seq ?_
    refine KC.region ?_
    refine KL.op (R.move rfl rfl) rfl rfl rfl ?_
    refine KL.op (R.lenO rfl Try.underlying24 rfl wb) rfl rfl rfl ?_
    refine KL.op (R.rem rfl rfl rfl (by omega) (by omega)) rfl rfl rfl ?_
    refine KL.op (R.neq rfl rfl rfl) rfl rfl rfl ?_
    refine KL.nil ?_
    refine KQ.seq ?_
    refine KC.iteL rfl ?_ ?_
    · intro hc33
      try simp only [decide_eq_true_eq, decide_eq_false_iff_not, Bool.not_eq_true', Bool.not_eq_false', Bool.and_eq_true, Bool.or_eq_false_iff] at hc33
      refine KC.skip ?_
      refine KQ.seq ?_
      refine KC.block ?_
      refine KC.region ?_
      refine KL.op (R.move rfl rfl) rfl rfl rfl ?_
      refine KL.opM (M.lit rfl Try.underlying24 zs5 (by decide) rfl rfl rfl) rfl rfl rfl ?_
      rintro _ H7 ⟨rfl, n7⟩
      have z7 := n7.2.1
      have o0 := o0.trans n7.1
      have wb := wb.old n7.1
      have obC := obC.trans ((n7.1).b (by omega))
      have b7 := n7.2.2
      have sn : Sl 1 (EInt .u8) H7 _ [0] := Sl.lits n7 rfl (by simp) (by intro x hx; simp only [List.mem_singleton] at hx; subst hx; first | (dsimp only [InR]; omega) | exact Sha.u8_range _)
      have lt8 := wb.lt
      refine KL.opM (M.append rfl Try.underlying24 inf5 rfl (by decide) rfl rfl wb (by exact sn) (fun _ _ h _ => h) (by omega) (by simp; omega) (by unfold maxLen; simp; omega)) rfl rfl rfl ?_
      rintro vn H8 ⟨w8, g8⟩
      try dsimp only at g8
      have ob8 := g8.oldB wb (by omega)
      have o0 := o0.then ob8 (by omega)
      have z8 := ob8.1
      have obC := obC.trans (ob8.mono (by omega))
      have wb := w8
      refine KL.op (R.assign rfl rfl) rfl rfl rfl ?_
      refine KL.nil ?_
      refine KQ.normBlock ?_
      refine KQ.again ((k + 1, vn)) ?_ ?_ ?_
      · exact (Sub.cons rfl (Ext.sub (by repeat (first | exact Ext.refl _ _ | refine Ext.put rfl ?_ | refine Ext.drop rfl ?_))))
      · show Sha.zs m.length - (k + 1) < Sha.zs m.length - k; omega
      · exact ⟨by show k + 1 ≤ _; omega, by dsimp only; rw [List.replicate_succ', ← List.cons_append, ← List.append_assoc]; exact wb, obC⟩
    · intro hc33
      try simp only [decide_eq_true_eq, decide_eq_false_iff_not, Bool.not_eq_true', Bool.not_eq_false', Bool.and_eq_true, Bool.or_eq_false_iff] at hc33
      have ek : k = Sha.zs m.length := (by omega)
      subst ek
      refine KC.exit ?_
      refine KQ.exitThen ?_
      refine KQ.exitThen ?_
      refine KQ.hit ?_
      refine KQ.seq ?_
      refine KC.seq ?_
      refine KC.region ?_
      refine KL.op (R.move rfl rfl) rfl rfl rfl ?_
      refine KL.op ((by first | exact R.lenS rfl Try.underlying24 rfl (by first | assumption) | exact R.len (ty := 0) rfl Try.underlying24 rfl)) rfl rfl rfl ?_
      refine KL.op (R.convI rfl Try.underlying3 Try.underlying36 rfl (by dsimp only [InR]; omega)) rfl rfl rfl ?_
      refine KL.op (R.mul rfl rfl rfl (by dsimp only [InR]; omega)) rfl rfl rfl ?_
      refine KL.op (R.assign rfl rfl) rfl rfl rfl ?_
      refine KL.nil ?_
      refine KQ.seq ?_
      refine KC.seq ?_
      refine KC.seq ?_
      refine KC.region ?_
      refine KL.op (R.assign rfl rfl) rfl rfl rfl ?_
      refine KL.nil ?_
      refine KQ.seq ?_
      refine KC.block ?_
      refine KC.loopD (κ := Nat × Value) [41, 42, 45, 46, 47, 48, 49, 50, 51, 52, 5, 43, 44, 7] (fun k => [(7, .int .i64 (56 - 8 * (k.1 : Nat))), (5, k.2)]) (fun k Hl => k.1 ≤ 8 ∧ Own 1 (EInt .u8) 5 #[] (H.size + 2) Hl k.2 (m ++ (128 :: List.replicate (Sha.zs m.length) 0) ++ (Sha.lenb (8 * m.length)).take k.1) ∧ OldB (H.size + 2) H1 Hl) (fun k => 8 - k.1) (0, vb) ?_ ?_ ?_
      · exact (Sub.cons rfl (Sub.cons rfl (Ext.sub (Ext.refl _ _))))
      · exact ⟨Nat.zero_le _, by simpa using wb, obC⟩
      · rintro ⟨k, vb⟩ H9 ⟨hk, wb, obC⟩
        dsimp only
        dsimp only at hk wb
        have o0 := oC.then obC (by omega)
        have hel : (m ++ (128 :: List.replicate (Sha.zs m.length) (0 : Int)) ++ (Sha.lenb (8 * m.length)).take k).length = m.length + Sha.zs m.length + 1 + min k 8 := by simp [Sha.lenb]; omega
        have zC := obC.1
        refine KC.seq ?_
        refine KC.seq ?_
        refine KC.region ?_
        refine KL.op (R.move rfl rfl) rfl rfl rfl ?_
        refine KL.op (R.geq rfl rfl rfl) rfl rfl rfl ?_
        refine KL.nil ?_
        refine KQ.seq ?_
        refine KC.iteL rfl ?_ ?_
        · intro hc42
          try simp only [decide_eq_true_eq, decide_eq_false_iff_not, Bool.not_eq_true', Bool.not_eq_false', Bool.and_eq_true, Bool.or_eq_false_iff] at hc42
          refine KC.skip ?_
          refine KQ.seq ?_
          refine KC.seq ?_
          refine KC.block ?_
          refine KC.region ?_
          refine KL.op (R.move rfl rfl) rfl rfl rfl ?_
          refine KL.op (R.move rfl rfl) rfl rfl rfl ?_
          refine KL.op (R.move rfl rfl) rfl rfl rfl ?_
          refine KL.op ((R.convI rfl Try.underlying3 Try.underlying52 rfl (by dsimp only [InR]; omega)).val (congrArg (Value.int .u64) (show 56 - 8 * (k : Int) = 8 * (7 - (k : Int)) by omega))) rfl rfl rfl ?_
          refine KL.op (R.shr rfl rfl rfl (by omega)) rfl rfl rfl ?_
          refine KL.op (R.convW rfl Try.underlying36 Try.underlying5 rfl) rfl rfl rfl ?_
          refine KL.opM (M.lit rfl Try.underlying24 zs5 (by decide) rfl rfl rfl) rfl rfl rfl ?_
          rintro _ H10 ⟨rfl, n10⟩
          have z10 := n10.2.1
          have o0 := o0.trans n10.1
          have wb := wb.old n10.1
          have obC := obC.trans ((n10.1).b (by omega))
          have b10 := n10.2.2
          have sn : Sl 1 (EInt .u8) H10 _ [Sha.u8 (8 * (m.length : Int) / 2 ^ (min (8 * (7 - (k : Int))).toNat 64))] := Sl.lits n10 rfl (by simp) (by intro x hx; simp only [List.mem_singleton] at hx; subst hx; first | (dsimp only [InR]; omega) | exact Sha.u8_range _)
          have lt11 := wb.lt
          refine KL.opM (M.append rfl Try.underlying24 inf5 rfl (by decide) rfl rfl wb (by exact sn) (fun _ _ h _ => h) (by omega) (by simp; omega) (by unfold maxLen; simp; omega)) rfl rfl rfl ?_
          rintro vn H11 ⟨w11, g11⟩
          try dsimp only at g11
          have ob11 := g11.oldB wb (by omega)
          have o0 := o0.then ob11 (by omega)
          have z11 := ob11.1
          have obC := obC.trans (ob11.mono (by omega))
          have wb := w11
          refine KL.op (R.assign rfl rfl) rfl rfl rfl ?_
          refine KL.nil ?_
          refine KQ.normBlock ?_
          refine KQ.seq ?_
          refine KC.region ?_
          refine KL.op (R.move rfl rfl) rfl rfl rfl ?_
          refine KL.op ((R.sub rfl rfl rfl (by dsimp only [InR]; omega)).val (congrArg (Value.int .i64) (show (56 - 8 * (k : Int)) - 8 = 56 - 8 * ((k + 1 : Nat) : Int) by omega))) rfl rfl rfl ?_
          refine KL.op (R.assign rfl rfl) rfl rfl rfl ?_
          refine KL.nil ?_
          refine KQ.again ((k + 1, vn)) ?_ ?_ ?_
          · exact (Sub.cons rfl (Sub.cons rfl (Ext.sub (by repeat (first | exact Ext.refl _ _ | refine Ext.put rfl ?_ | refine Ext.drop rfl ?_)))))
          · show 8 - (k + 1) < 8 - k; omega
          · exact ⟨by show k + 1 ≤ _; omega, by dsimp only; rw [Sha.lenb_at _ k (by omega), ← List.append_assoc]; exact wb, obC⟩
        · intro hc42
          try simp only [decide_eq_true_eq, decide_eq_false_iff_not, Bool.not_eq_true', Bool.not_eq_false', Bool.and_eq_true, Bool.or_eq_false_iff] at hc42
          have ek : k = 8 := (by omega)
          subst ek
          obtain ⟨bb, ebb⟩ : ∃ x, x = m ++ Sha.pad m.length := ⟨_, rfl⟩
          have hpl : (Sha.pad m.length).length = Sha.zs m.length + 9 := by simp [Sha.pad, Sha.lenb]
          have hbl : bb.length = m.length + Sha.zs m.length + 9 := by rw [ebb, List.length_append, hpl]; omega
          have hb64 := Sha.pad_length m.length
          have wb : Own 1 (EInt .u8) 5 #[] (H.size + 2) H9 vb (bb) := by rw [ebb]; unfold Sha.pad; simpa [Sha.lenb] using wb
          have wh := whC.oldB obC (.inr (by show H.size < _; omega))
          have wk := wkC.oldB obC (.inr (by show H.size + 1 < _; omega))
          have wbE := wb
          have wkE := wk
          have oE := o0
          have frE : Fr H.size (.slice none 0 0) H9 H9 := Fr.refl _ _ _
          have hvb := wbE.lt
          have hbR := (wbE.sl (emptyOld _) (by omega)).int_range
          have zE := o0.1
          have zE2 := obC.1
          refine KC.exit ?_
          refine KQ.exitThen ?_
          refine KQ.exitThen ?_
          refine KQ.hit ?_
          refine KQ.seq ?_
          refine KC.seq ?_
          refine KC.seq ?_
          refine KC.region ?_
          refine KL.op (R.assign rfl rfl) rfl rfl rfl ?_
          refine KL.nil ?_
          refine KQ.seq ?_
          refine KC.block ?_
          refine KC.loopD (κ := Nat) [53, 54, 55, 56, 59, 9, 10, 60, 61, 64, 65, 11, 66, 67, 70, 71, 72, 73, 74, 75, 76, 77, 78, 79, 80, 81, 82, 83, 84, 85, 86, 87, 88, 68, 69, 89, 90, 91, 92, 93, 94, 95, 96, 97, 98, 12, 13, 99, 100, 101, 102, 103, 104, 105, 106, 107, 108, 109, 110, 111, 112, 113, 114, 115, 116, 117, 118, 119, 120, 121, 122, 123, 124, 125, 126, 127, 128, 129, 130, 62, 63, 131, 132, 133, 14, 15, 134, 135, 138, 139, 140, 141, 142, 143, 144, 145, 146, 147, 148, 149, 150, 151, 152, 153, 154, 155, 156, 157, 158, 159, 160, 161, 162, 163, 164, 165, 166, 167, 168, 169, 170, 171, 172, 173, 174, 175, 176, 177, 178, 179, 180, 181, 182, 16, 183, 184, 185, 186, 187, 188, 189, 190, 191, 192, 193, 194, 195, 196, 197, 198, 199, 200, 201, 202, 203, 204, 205, 206, 207, 208, 209, 210, 211, 212, 213, 214, 215, 216, 217, 218, 219, 220, 17, 221, 222, 223, 224, 225, 226, 227, 228, 229, 230, 231, 232, 233, 234, 235, 236, 237, 238, 239, 240, 241, 242, 243, 244, 245, 246, 247, 136, 137, 18, 248, 249, 252, 253, 254, 255, 256, 257, 258, 259, 260, 261, 262, 263, 250, 251, 57, 58, 8] (fun k => [(8, .int .i64 ((64 * k : Nat) : Int))]) (fun k Hl => 64 * k ≤ bb.length ∧ Own 1 (EInt .u32) 46 #[] H.size Hl (.slice (some ⟨H.size, 0, none⟩) 8 8) (Sha.hs bb k) ∧ Fr H.size (.slice none 0 0) H9 Hl) (fun k => bb.length - 64 * k) 0 ?_ ?_ ?_
          · exact (Sub.cons rfl (Ext.sub (Ext.refl _ _)))
          · exact ⟨by omega, wh, frE⟩
          · rintro k H12 ⟨hk, wh, frE⟩
            have o0 := oE.frB frE (Nat.le_refl _)
            have zF := frE.1
            have wk := wkE.frNe frE (.inr (by show H.size + 1 ≠ _; omega))
            have wb := wbE.frNe frE (hvb.imp id (fun h => by omega))
            obtain ⟨blk, eblk⟩ : ∃ x, x = (bb.drop (64 * k)).take 64 := ⟨_, rfl⟩
            have hh8 := Sha.hs_length bb k
            have hcG : ∀ i, i < 64 → blk.getD i default = bb.getD (64 * k + i) default := fun i hi => by rw [eblk]; exact Sha.chunk_getD hi
            refine KC.seq ?_
            refine KC.seq ?_
            refine KC.region ?_
            refine KL.op (R.move rfl rfl) rfl rfl rfl ?_
            refine KL.op (R.move rfl rfl) rfl rfl rfl ?_
            refine KL.op (R.lenO rfl Try.underlying24 rfl wb) rfl rfl rfl ?_
            refine KL.op (R.lss rfl rfl rfl) rfl rfl rfl ?_
            refine KL.nil ?_
            refine KQ.seq ?_
            refine KC.iteL rfl ?_ ?_
            · intro hc56
              try simp only [decide_eq_true_eq, decide_eq_false_iff_not, Bool.not_eq_true', Bool.not_eq_false', Bool.and_eq_true, Bool.or_eq_false_iff] at hc56
              have hb8 : ∀ x ∈ blk, Sha.R8 x := fun x hx => hbR x (List.mem_of_mem_drop (List.mem_of_mem_take (by rw [← eblk]; exact hx)))
              have hbkl : blk.length = 64 := by rw [eblk, List.length_take, List.length_drop]; omega
              refine KC.skip ?_
              refine KQ.seq ?_
              refine KC.seq ?_
              refine KC.block ?_
              refine KC.seq ?_
              refine KC.region ?_
              have wh0 := wh
              have wk0 := wk
              have wb0 := wb
              have frW := frE
              have oW := o0
              have zW := o0.1
              refine KL.opM (M.make rfl Try.underlying59 inf46 rfl rfl rfl (by omega) (by omega) (by omega) (by omega)) rfl rfl rfl ?_
              rintro _ H13 ⟨rfl, n13⟩
              have z13 := n13.2.1
              have o0 := o0.trans n13.1
              have b13 := n13.2.2
              have ww := Own.made (E := EInt .u32) (H0 := #[]) (B := Array.size H12) (x := 0) n13 (Nat.le_refl _) (by unfold maxLen; decide) ⟨rfl, by dsimp only [InR]; omega⟩
              have ww : Own 1 (EInt .u32) 46 #[] (Array.size H12) H13 (.slice (some ⟨Array.size H12, 0, none⟩) (64 : Int).toNat (64 : Int).toNat) (Sha.ws blk 0 ++ List.replicate (64 - 0) 0) := ww
              have obW : OldB (Array.size H12) H12 H13 := n13.1.b (Nat.le_refl _)
              have hvW : vblock (.slice (some ⟨Array.size H12, 0, none⟩) (64 : Int).toNat (64 : Int).toNat) = Array.size H12 := rfl
              refine KL.op (R.assign rfl rfl) rfl rfl rfl ?_
              refine KL.nil ?_
              refine KQ.seq ?_
              refine KC.seq ?_
              refine KC.seq ?_
              refine KC.region ?_
              refine KL.op (R.assign rfl rfl) rfl rfl rfl ?_
              refine KL.nil ?_
              refine KQ.seq ?_
              refine KC.block ?_
              refine KC.loopD (κ := Nat) [60, 61, 64, 65, 11, 66, 67, 70, 71, 72, 73, 74, 75, 76, 77, 78, 79, 80, 81, 82, 83, 84, 85, 86, 87, 88, 68, 69, 89, 90, 91, 92, 93, 94, 95, 96, 97, 98, 12, 13, 99, 100, 101, 102, 103, 104, 105, 106, 107, 108, 109, 110, 111, 112, 113, 114, 115, 116, 117, 118, 119, 120, 121, 122, 123, 124, 125, 126, 127, 128, 129, 130, 62, 63, 10] (fun t => [(10, .int .i64 (t : Nat))]) (fun t Hl => t ≤ 64 ∧ Own 1 (EInt .u32) 46 #[] (Array.size H12) Hl (.slice (some ⟨Array.size H12, 0, none⟩) (64 : Int).toNat (64 : Int).toNat) (Sha.ws blk t ++ List.replicate (64 - t) 0) ∧ OldB (Array.size H12) H12 Hl) (fun t => 64 - t) 0 ?_ ?_ ?_
              · exact (Sub.cons rfl (Ext.sub (Ext.refl _ _)))
              · exact ⟨by omega, ww, obW⟩
              · rintro t H14 ⟨ht, ww, obW⟩
                have o0 := oW.then obW (by omega)
                have zOW := obW.1
                have wb := wb0.oldB obW (wb0.lt.imp id (fun h => h.2))
                have wk := wk0.oldB obW (.inr (by show H.size + 1 < _; omega))
                have wh := wh0.oldB obW (.inr (by show H.size < _; omega))
                have hwl := Sha.wpad_length blk (k := t) ht
                refine KC.seq ?_
                refine KC.seq ?_
                refine KC.region ?_
                refine KL.op (R.move rfl rfl) rfl rfl rfl ?_
                refine KL.op (R.lss rfl rfl rfl) rfl rfl rfl ?_
                refine KL.nil ?_
                refine KQ.seq ?_
                refine KC.iteL rfl ?_ ?_
                · intro hc61
                  try simp only [decide_eq_true_eq, decide_eq_false_iff_not, Bool.not_eq_true', Bool.not_eq_false', Bool.and_eq_true, Bool.or_eq_false_iff] at hc61
                  refine KC.skip ?_
                  refine KQ.seq ?_
                  refine KC.seq ?_
                  refine KC.block ?_
                  refine KC.seq ?_
                  refine KC.seq ?_
                  refine KC.region ?_
                  refine KL.op (R.move rfl rfl) rfl rfl rfl ?_
                  refine KL.op (R.lss rfl rfl rfl) rfl rfl rfl ?_
                  refine KL.nil ?_
                  refine KQ.seq ?_
                  refine KC.iteL rfl ?_ ?_
                  · intro hc65
                    try simp only [decide_eq_true_eq, decide_eq_false_iff_not, Bool.not_eq_true', Bool.not_eq_false', Bool.and_eq_true, Bool.or_eq_false_iff] at hc65
                    refine KC.seq ?_
                    refine KC.seq ?_
                    refine KC.region ?_
                    refine KL.op (R.assign rfl rfl) rfl rfl rfl ?_
                    refine KL.nil ?_
                    refine KQ.seq ?_
                    refine KC.block ?_
                    refine KC.loopD (κ := Nat) [66, 67, 70, 71, 72, 73, 74, 75, 76, 77, 78, 79, 80, 81, 82, 83, 84, 85, 86, 87, 88, 68, 69, 11] (fun i => [(11, .int .i64 (i : Nat))]) (fun i Hl => i ≤ 4 ∧ Own 1 (EInt .u32) 46 #[] (Array.size H12) Hl (.slice (some ⟨Array.size H12, 0, none⟩) (64 : Int).toNat (64 : Int).toNat) ((Sha.ws blk t ++ List.replicate (64 - t) 0).set t (Sha.pw blk t i)) ∧ OldB (Array.size H12) H12 Hl) (fun i => 4 - i) 0 ?_ ?_ ?_
                    · exact (Sub.cons rfl (Ext.sub (Ext.refl _ _)))
                    · exact ⟨by omega, by have e := Sha.wpad_zero (b := blk) (t := t) (by omega); rw [e]; exact ww, obW⟩
                    · rintro i H15 ⟨hi, ww, obW⟩
                      have o0 := oW.then obW (by omega)
                      have zOW := obW.1
                      have wb := wb0.oldB obW (wb0.lt.imp id (fun h => h.2))
                      have wk := wk0.oldB obW (.inr (by show H.size + 1 < _; omega))
                      have wh := wh0.oldB obW (.inr (by show H.size < _; omega))
                      have hsl : ((Sha.ws blk t ++ List.replicate (64 - t) 0).set t (Sha.pw blk t i)).length = 64 := by rw [List.length_set, hwl]
                      refine KC.seq ?_
                      refine KC.seq ?_
                      refine KC.region ?_
                      refine KL.op (R.move rfl rfl) rfl rfl rfl ?_
                      refine KL.op (R.lss rfl rfl rfl) rfl rfl rfl ?_
                      refine KL.nil ?_
                      refine KQ.seq ?_
                      refine KC.iteL rfl ?_ ?_
                      · intro hc67
                        try simp only [decide_eq_true_eq, decide_eq_false_iff_not, Bool.not_eq_true', Bool.not_eq_false', Bool.and_eq_true, Bool.or_eq_false_iff] at hc67
                        refine KC.skip ?_
                        refine KQ.seq ?_
                        refine KC.seq ?_
                        refine KC.block ?_
                        have hbyte := (wb.int (64 * k + (4 * t + i)) (by omega)).2
                        dsimp only [InR] at hbyte
                        refine KC.text (clOf [(5, 1), (15, 1), (19, 2)]) (fun _ _ => True) (by kernel_rfl) (by kernel_rfl) (fun _ => trivial) ?_
                        refine KP.op rfl (fun Hg hg => R.move rfl rfl) rfl rfl rfl ?_
                        refine KP.op rfl (fun Hg hg => R.move rfl rfl) rfl rfl rfl ?_
                        refine KP.op rfl (fun Hg hg => R.move rfl rfl) rfl rfl rfl ?_
                        refine KP.op rfl (fun Hg hg => R.move rfl rfl) rfl rfl rfl ?_
                        refine KP.op rfl (fun Hg hg => R.indexO1 (j := t) rfl Try.underlying59 sz46 rfl rfl ww (by first | rfl | omega) (by omega)) rfl rfl rfl ?_
                        refine KP.now rfl (R.load rfl Try.underlying46 rfl rfl ((ww.int (t) (by omega)).1)) rfl rfl rfl ?_
                        refine KP.op rfl (fun Hg hg => R.mul rfl rfl rfl (by have := Sha.pw_range hb8 (t := t) (i := i) (by omega) (by omega); rw [Sha.set_self (by omega)]; dsimp only [InR]; omega)) rfl rfl rfl ?_
                        refine KP.op rfl (fun Hg hg => R.move rfl rfl) rfl rfl rfl ?_
                        refine KP.op rfl (fun Hg hg => R.move rfl rfl) rfl rfl rfl ?_
                        refine KP.op rfl (fun Hg hg => R.move rfl rfl) rfl rfl rfl ?_
                        refine KP.op rfl (fun Hg hg => R.mul rfl rfl rfl (by dsimp only [InR]; omega)) rfl rfl rfl ?_
                        refine KP.op rfl (fun Hg hg => R.add rfl rfl rfl (by dsimp only [InR]; omega)) rfl rfl rfl ?_
                        refine KP.op rfl (fun Hg hg => R.move rfl rfl) rfl rfl rfl ?_
                        refine KP.op rfl (fun Hg hg => R.add rfl rfl rfl (by dsimp only [InR]; omega)) rfl rfl rfl ?_
                        refine KP.op rfl (fun Hg hg => R.indexO1 (j := 64 * k + (4 * t + i)) rfl Try.underlying24 sz5 rfl rfl wb (by first | rfl | omega) (by omega)) rfl rfl rfl ?_
                        refine KP.now rfl (R.load rfl Try.underlying5 rfl rfl ((wb.int (64 * k + (4 * t + i)) (by omega)).1)) rfl rfl rfl ?_
                        refine KP.op rfl (fun Hg hg => R.convI rfl Try.underlying5 Try.underlying46 rfl (by have := hbyte; dsimp only [InR]; omega)) rfl rfl rfl ?_
                        refine KP.op rfl (fun Hg hg => (R.add rfl rfl rfl (by have := Sha.pw_range hb8 (t := t) (i := i) (by omega) (by omega); have := hbyte; rw [Sha.set_self (by omega)]; dsimp only [InR]; omega)).val (congrArg (Value.int .u32) (show 256 * ((Sha.ws blk t ++ List.replicate (64 - t) 0).set t (Sha.pw blk t i)).getD t default + bb.getD (64 * k + (4 * t + i)) default = Sha.pw blk t (i + 1) by rw [Sha.set_self (by omega), Sha.pw, hcG (4 * t + i) (by omega)]))) rfl rfl rfl ?_
                        refine KP.op rfl (fun Hg hg => R.indexO1 (j := t) rfl Try.underlying59 sz46 rfl rfl ww (by first | rfl | omega) (by omega)) rfl rfl rfl ?_
                        refine KP.opS rfl (S.own1 rfl sz46 rfl rfl rfl rfl ww (by omega) ⟨rfl, Sha.pw_inr hb8 (by omega) (by omega)⟩) rfl rfl (fun _ _ _ _ _ => trivial) ?_
                        rintro H16 ⟨u16, w16⟩
                        have o0 := o0.upd u16 (by omega)
                        have zu16 := u16.1
                        have obW := obW.trans (OldB.upd u16 (by omega))
                        have ww := w16
                        refine KP.nil ?_
                        refine KQ.normBlock ?_
                        refine KQ.seq ?_
                        refine KC.region ?_
                        refine KL.op (R.move rfl rfl) rfl rfl rfl ?_
                        refine KL.op (R.add rfl rfl rfl (by dsimp only [InR]; omega)) rfl rfl rfl ?_
                        refine KL.op (R.assign rfl rfl) rfl rfl rfl ?_
                        refine KL.nil ?_
                        refine KQ.again (i + 1) ?_ ?_ ?_
                        · exact (Sub.cons rfl (Ext.sub (by repeat (first | exact Ext.refl _ _ | refine Ext.put rfl ?_ | refine Ext.drop rfl ?_))))
                        · omega
                        · exact ⟨by omega, by rw [← Sha.set_set (x := Sha.pw blk t i)]; exact ww, obW⟩
                      · intro hc67
                        try simp only [decide_eq_true_eq, decide_eq_false_iff_not, Bool.not_eq_true', Bool.not_eq_false', Bool.and_eq_true, Bool.or_eq_false_iff] at hc67
                        have ei : i = 4 := (by omega)
                        subst ei
                        rw [Sha.pw_four] at ww
                        have hx : Sha.wd blk t = Sha.nw blk (Sha.ws blk t) t := (Sha.nw_lo (by omega)).symm
                        refine KC.exit ?_
                        refine KQ.exitThen ?_
                        refine KQ.exitThen ?_
                        refine KQ.hit ?_
                        refine KQ.seq ?_
                        refine KC.exit ?_
                        refine KQ.exitThen ?_
                        refine KQ.hit ?_
                        refine KQ.seq ?_
                        refine KC.region ?_
                        refine KL.op (R.move rfl rfl) rfl rfl rfl ?_
                        refine KL.op (R.add rfl rfl rfl (by dsimp only [InR]; omega)) rfl rfl rfl ?_
                        refine KL.op (R.assign rfl rfl) rfl rfl rfl ?_
                        refine KL.nil ?_
                        refine KQ.again (t + 1) ?_ ?_ ?_
                        · exact (Sub.cons rfl (Ext.sub (by repeat (first | exact Ext.refl _ _ | refine Ext.put rfl ?_ | refine Ext.drop rfl ?_))))
                        · omega
                        · exact ⟨by omega, by rw [← Sha.wpad_set (b := blk) (k := t) (by omega) hx]; exact ww, obW⟩
                  · intro hc65
                    try simp only [decide_eq_true_eq, decide_eq_false_iff_not, Bool.not_eq_true', Bool.not_eq_false', Bool.and_eq_true, Bool.or_eq_false_iff] at hc65
                    refine KC.skip ?_
                    refine KQ.seq ?_
                    refine KC.seq ?_
                    refine KC.quiet (by kernel_rfl) (by kernel_rfl) ?_
                    refine KD.op (R.move rfl rfl) rfl rfl rfl ?_
                    refine KD.op (R.move rfl rfl) rfl rfl rfl ?_
                    refine KD.op (R.sub rfl rfl rfl (by dsimp only [InR]; omega)) rfl rfl rfl ?_
                    refine KD.op (R.indexO1 (j := t - 15) rfl Try.underlying59 sz46 rfl rfl ww (by first | rfl | omega) (by omega)) rfl rfl rfl ?_
                    refine KD.op ((R.load rfl Try.underlying46 rfl rfl ((ww.int (t - 15) (by omega)).1)).val (congrArg (Value.int .u32) (Sha.wpad_getD (by omega)))) rfl rfl rfl ?_
                    refine KD.op (R.move rfl rfl) rfl rfl rfl ?_
                    refine KD.op (R.move rfl rfl) rfl rfl rfl ?_
                    refine KD.op (R.sub rfl rfl rfl (by dsimp only [InR]; omega)) rfl rfl rfl ?_
                    refine KD.op (R.indexO1 (j := t - 2) rfl Try.underlying59 sz46 rfl rfl ww (by first | rfl | omega) (by omega)) rfl rfl rfl ?_
                    refine KD.op ((R.load rfl Try.underlying46 rfl rfl ((ww.int (t - 2) (by omega)).1)).val (congrArg (Value.int .u32) (Sha.wpad_getD (by omega)))) rfl rfl rfl ?_
                    refine KD.op (R.assign rfl rfl) rfl rfl rfl ?_
                    refine KD.op (R.assign rfl rfl) rfl rfl rfl ?_
                    refine KD.nil ?_
                    refine KQ.seq ?_
                    have cw0 : ∀ i, i < t → cellH H14 ((vbase (.slice (some ⟨Array.size H12, 0, none⟩) (64 : Int).toNat (64 : Int).toNat)).add i) = some (.int .u32 ((Sha.ws blk t).getD i default)) := fun i hi => by rw [← Sha.wpad_getD hi]; exact (ww.int i (by omega)).1
                    refine KC.text (clOf [(8, 2), (10, 2), (23, 2), (25, 2), (32, 2)]) (fun _ Hc => ∀ i, i < t → cellH Hc ((vbase (.slice (some ⟨Array.size H12, 0, none⟩) (64 : Int).toNat (64 : Int).toNat)).add i) = some (.int .u32 ((Sha.ws blk t).getD i default))) (by kernel_rfl) (by kernel_rfl) (fun _ => cw0) ?_
                    refine KP.op rfl (fun Hg hg => R.move rfl rfl) rfl rfl rfl ?_
                    refine KP.op rfl (fun Hg hg => R.move rfl rfl) rfl rfl rfl ?_
                    refine KP.op rfl (fun Hg hg => R.move rfl rfl) rfl rfl rfl ?_
                    refine KP.op rfl (fun Hg hg => R.move rfl rfl) rfl rfl rfl ?_
                    refine KP.op rfl (fun Hg hg => R.sub rfl rfl rfl (by dsimp only [InR]; omega)) rfl rfl rfl ?_
                    refine KP.op rfl (fun Hg hg => R.indexO1 (j := t - 16) rfl Try.underlying59 sz46 rfl rfl ww (by first | rfl | omega) (by omega)) rfl rfl rfl ?_
                    refine KP.op rfl (fun Hg hg => R.load rfl Try.underlying46 rfl rfl (hg _ (by omega))) rfl rfl rfl ?_
                    refine KP.op rfl (fun Hg hg => R.move rfl rfl) rfl rfl rfl ?_
                    refine KP.call rfl rfl rfl rfl rfl Try.call22 rfl rfl rfl (turned_any _ 7 (by omega)) (fun _ _ h => h.2 ▸ fun _ _ _ => cw0) ?_
                    rintro _ _ ⟨rfl, rfl⟩
                    refine KP.op rfl (fun Hg hg => R.move rfl rfl) rfl rfl rfl ?_
                    refine KP.call rfl rfl rfl rfl rfl Try.call22 rfl rfl rfl (turned_any _ 18 (by omega)) (fun _ _ h => h.2 ▸ fun _ _ _ => cw0) ?_
                    rintro _ _ ⟨rfl, rfl⟩
                    refine KP.op rfl (fun Hg hg => R.bits rfl rfl rfl rfl) rfl rfl rfl ?_
                    refine KP.op rfl (fun Hg hg => R.move rfl rfl) rfl rfl rfl ?_
                    refine KP.op rfl (fun Hg hg => R.shr rfl rfl rfl (by omega)) rfl rfl rfl ?_
                    refine KP.op rfl (fun Hg hg => R.bits rfl rfl rfl rfl) rfl rfl rfl ?_
                    refine KP.op rfl (fun Hg hg => R.addW rfl rfl rfl) rfl rfl rfl ?_
                    refine KP.op rfl (fun Hg hg => R.move rfl rfl) rfl rfl rfl ?_
                    refine KP.op rfl (fun Hg hg => R.move rfl rfl) rfl rfl rfl ?_
                    refine KP.op rfl (fun Hg hg => R.sub rfl rfl rfl (by dsimp only [InR]; omega)) rfl rfl rfl ?_
                    refine KP.op rfl (fun Hg hg => R.indexO1 (j := t - 7) rfl Try.underlying59 sz46 rfl rfl ww (by first | rfl | omega) (by omega)) rfl rfl rfl ?_
                    refine KP.op rfl (fun Hg hg => R.load rfl Try.underlying46 rfl rfl (hg _ (by omega))) rfl rfl rfl ?_
                    refine KP.op rfl (fun Hg hg => R.addW rfl rfl rfl) rfl rfl rfl ?_
                    refine KP.op rfl (fun Hg hg => R.move rfl rfl) rfl rfl rfl ?_
                    refine KP.call rfl rfl rfl rfl rfl Try.call22 rfl rfl rfl (turned_any _ 17 (by omega)) (fun _ _ h => h.2 ▸ fun _ _ _ => cw0) ?_
                    rintro _ _ ⟨rfl, rfl⟩
                    refine KP.op rfl (fun Hg hg => R.move rfl rfl) rfl rfl rfl ?_
                    refine KP.call rfl rfl rfl rfl rfl Try.call22 rfl rfl rfl (turned_any _ 19 (by omega)) (fun _ _ h => h.2 ▸ fun _ _ _ => cw0) ?_
                    rintro _ _ ⟨rfl, rfl⟩
                    refine KP.op rfl (fun Hg hg => R.bits rfl rfl rfl rfl) rfl rfl rfl ?_
                    refine KP.op rfl (fun Hg hg => R.move rfl rfl) rfl rfl rfl ?_
                    refine KP.op rfl (fun Hg hg => R.shr rfl rfl rfl (by omega)) rfl rfl rfl ?_
                    refine KP.op rfl (fun Hg hg => R.bits rfl rfl rfl rfl) rfl rfl rfl ?_
                    refine KP.op rfl (fun Hg hg => R.addW rfl rfl rfl) rfl rfl rfl ?_
                    refine KP.op rfl (fun Hg hg => R.indexO1 (j := t) rfl Try.underlying59 sz46 rfl rfl ww (by first | rfl | omega) (by omega)) rfl rfl rfl ?_
                    refine KP.opS rfl (S.own1 rfl sz46 rfl rfl rfl rfl ww (by omega) ⟨rfl, Sha.W_range _⟩) rfl rfl (fun _ h _ _ _ i hi => by have h2 := (h.2.int i (by rw [List.length_set]; omega)).1; rw [Sha.set_getD (by omega), Sha.wpad_getD hi] at h2; exact h2) ?_
                    rintro H17 ⟨u17, w17⟩
                    have o0 := o0.upd u17 (by omega)
                    have zu17 := u17.1
                    have obW := obW.trans (OldB.upd u17 (by omega))
                    have ww := w17
                    have hx := (Sha.nw_hi (b := blk) (w := Sha.ws blk t) (k := t) (by omega)).symm
                    refine KP.nil ?_
                    refine KQ.normBlock ?_
                    refine KQ.seq ?_
                    refine KC.region ?_
                    refine KL.op (R.move rfl rfl) rfl rfl rfl ?_
                    refine KL.op (R.add rfl rfl rfl (by dsimp only [InR]; omega)) rfl rfl rfl ?_
                    refine KL.op (R.assign rfl rfl) rfl rfl rfl ?_
                    refine KL.nil ?_
                    refine KQ.again (t + 1) ?_ ?_ ?_
                    · exact (Sub.cons rfl (Ext.sub (by repeat (first | exact Ext.refl _ _ | refine Ext.put rfl ?_ | refine Ext.drop rfl ?_))))
                    · omega
                    · exact ⟨by omega, by rw [← Sha.wpad_set (b := blk) (k := t) (by omega) hx]; exact ww, obW⟩
                · intro hc61
                  try simp only [decide_eq_true_eq, decide_eq_false_iff_not, Bool.not_eq_true', Bool.not_eq_false', Bool.and_eq_true, Bool.or_eq_false_iff] at hc61
                  have et : t = 64 := (by omega)
                  subst et
                  rw [show Sha.ws blk 64 ++ List.replicate (64 - 64) 0 = Sha.ws blk 64 by simp] at ww
                  have hwl := Sha.ws_length blk 64
                  have rn := trivial
                  refine KC.exit ?_
                  refine KQ.exitThen ?_
                  refine KQ.exitThen ?_
                  refine KQ.hit ?_
                  refine KQ.seq ?_
                  refine KC.seq ?_
                  refine KC.region ?_
                  have zV0 := o0.1
                  have wwV := ww
                  have obWV := obW
                  refine KL.opM (M.lit rfl Try.underlying59 zs46 (by decide) rfl rfl rfl) rfl rfl rfl ?_
                  rintro _ H18 ⟨rfl, n18⟩
                  have z18 := n18.2.1
                  have o0 := o0.trans n18.1
                  have ww := ww.old n18.1
                  have obW := obW.trans ((n18.1).b (by omega))
                  have b18 := n18.2.2
                  have rv : Own 1 (EInt .u32) 46 #[] (Array.size H14) H18 _ ([] : List Int) := Own.litN (n := 1) (m := 0) (l := []) n18 (Nat.le_refl _) rfl (by unfold maxLen; omega) rfl (by simp [nth])
                  have oV : Old H14 H18 := n18.1
                  refine KL.op (R.move rfl rfl) rfl rfl rfl ?_
                  have lt19 := rv.lt
                  refine KL.opM (M.append rfl Try.underlying59 inf46 rfl (by decide) rfl rfl rv (by exact ((wh.old oV).sl (emptyOld _) (by omega))) (fun _ _ h _ => h) (by omega) (by simp; omega) (by unfold maxLen; simp; omega)) rfl rfl rfl ?_
                  rintro vv H19 ⟨w19, g19⟩
                  try dsimp only at g19
                  have ob19 := g19.oldB rv (by omega)
                  have o0 := o0.then ob19 (by omega)
                  have z19 := ob19.1
                  have oV := oV.then ob19 (by omega)
                  have rv := w19
                  have hlv := rv.lt
                  have hrv : Sl 1 (EInt .u32) H19 vv (Sha.hs bb k) := by simpa using rv.sl (emptyOld _) (by omega)
                  have hnv : vv ≠ .slice none 0 0 := by
                    intro e
                    obtain ⟨a, c2, hv2, h2, _⟩ := rv.val
                    rw [e] at hv2
                    injection hv2 with _ h3 _
                    simp [hh8] at h3
                  have hlv := hlv.resolve_left hnv
                  have zV := oV.1
                  refine KL.op (R.assign rfl rfl) rfl rfl rfl ?_
                  refine KL.nil ?_
                  refine KQ.seq ?_
                  refine KC.seq ?_
                  refine KC.seq ?_
                  refine KC.region ?_
                  refine KL.op (R.assign rfl rfl) rfl rfl rfl ?_
                  refine KL.nil ?_
                  refine KQ.seq ?_
                  refine KC.block ?_
                  refine KC.loopD (κ := Nat × Value) [134, 135, 138, 139, 140, 141, 142, 143, 144, 145, 146, 147, 148, 149, 150, 151, 152, 153, 154, 155, 156, 157, 158, 159, 160, 161, 162, 163, 164, 165, 166, 167, 168, 169, 170, 171, 172, 173, 174, 175, 176, 177, 178, 179, 180, 181, 182, 16, 183, 184, 185, 186, 187, 188, 189, 190, 191, 192, 193, 194, 195, 196, 197, 198, 199, 200, 201, 202, 203, 204, 205, 206, 207, 208, 209, 210, 211, 212, 213, 214, 215, 216, 217, 218, 219, 220, 17, 221, 222, 223, 224, 225, 226, 227, 228, 229, 230, 231, 232, 233, 234, 235, 236, 237, 238, 239, 240, 241, 242, 243, 244, 245, 246, 247, 14, 136, 137, 15] (fun i => [(15, .int .i64 (i.1 : Nat)), (14, i.2)]) (fun i Hl => i.1 ≤ 64 ∧ Sl 1 (EInt .u32) Hl i.2 (Sha.rnds blk (Sha.hs bb k) i.1) ∧ Old H19 Hl ∧ H.size < vblock i.2 ∧ vblock i.2 < Hl.size) (fun i => 64 - i.1) (0, vv) ?_ ?_ ?_
                  · exact (Sub.cons rfl (Sub.cons rfl (Ext.sub (Ext.refl _ _))))
                  · exact ⟨by omega, hrv, Old.refl _, by dsimp only; omega, hlv.2⟩
                  · rintro ⟨i, vv⟩ H20 ⟨hi, hrv, oR, hv1, hv2⟩
                    dsimp only
                    dsimp only at hi hrv hv1 hv2
                    have o0 := o0.trans oR
                    have zR := oR.1
                    have hrl := Sha.rnds_length (b := blk) hh8 i
                    have hg4 := (hrv.int 4 (by omega)).2
                    dsimp only [InR] at hg4
                    refine KC.seq ?_
                    refine KC.seq ?_
                    refine KC.region ?_
                    refine KL.op (R.move rfl rfl) rfl rfl rfl ?_
                    refine KL.op (R.lss rfl rfl rfl) rfl rfl rfl ?_
                    refine KL.nil ?_
                    refine KQ.seq ?_
                    refine KC.iteL rfl ?_ ?_
                    · intro hc135
                      try simp only [decide_eq_true_eq, decide_eq_false_iff_not, Bool.not_eq_true', Bool.not_eq_false', Bool.and_eq_true, Bool.or_eq_false_iff] at hc135
                      have hkl := Sha.K_length
                      refine KC.skip ?_
                      refine KQ.seq ?_
                      refine KC.seq ?_
                      refine KC.block ?_
                      refine KC.seq ?_
                      refine KC.quiet (by kernel_rfl) (by kernel_rfl) ?_
                      refine KD.op (R.move rfl rfl) rfl rfl rfl ?_
                      refine KD.op (R.index1 (j := 7) rfl Try.underlying59 sz46 rfl rfl hrv (by first | rfl | omega) (by omega)) rfl rfl rfl ?_
                      refine KD.op (R.load rfl Try.underlying46 rfl rfl ((hrv.int 7 (by omega)).1)) rfl rfl rfl ?_
                      refine KD.op (R.move rfl rfl) rfl rfl rfl ?_
                      refine KD.op (R.index1 (j := 4) rfl Try.underlying59 sz46 rfl rfl hrv (by first | rfl | omega) (by omega)) rfl rfl rfl ?_
                      refine KD.op (R.load rfl Try.underlying46 rfl rfl ((hrv.int 4 (by omega)).1)) rfl rfl rfl ?_
                      refine KD.call rfl rfl rfl rfl Try.call22 rfl rfl rfl (turned_any _ 6 (by omega)) ?_
                      refine KD.op (R.move rfl rfl) rfl rfl rfl ?_
                      refine KD.op (R.index1 (j := 4) rfl Try.underlying59 sz46 rfl rfl hrv (by first | rfl | omega) (by omega)) rfl rfl rfl ?_
                      refine KD.op (R.load rfl Try.underlying46 rfl rfl ((hrv.int 4 (by omega)).1)) rfl rfl rfl ?_
                      refine KD.call rfl rfl rfl rfl Try.call22 rfl rfl rfl (turned_any _ 11 (by omega)) ?_
                      refine KD.op (R.bits rfl rfl rfl rfl) rfl rfl rfl ?_
                      refine KD.op (R.move rfl rfl) rfl rfl rfl ?_
                      refine KD.op (R.index1 (j := 4) rfl Try.underlying59 sz46 rfl rfl hrv (by first | rfl | omega) (by omega)) rfl rfl rfl ?_
                      refine KD.op (R.load rfl Try.underlying46 rfl rfl ((hrv.int 4 (by omega)).1)) rfl rfl rfl ?_
                      refine KD.call rfl rfl rfl rfl Try.call22 rfl rfl rfl (turned_any _ 25 (by omega)) ?_
                      refine KD.op (R.bits rfl rfl rfl rfl) rfl rfl rfl ?_
                      refine KD.op (R.addW rfl rfl rfl) rfl rfl rfl ?_
                      refine KD.op (R.move rfl rfl) rfl rfl rfl ?_
                      refine KD.op (R.index1 (j := 4) rfl Try.underlying59 sz46 rfl rfl hrv (by first | rfl | omega) (by omega)) rfl rfl rfl ?_
                      refine KD.op (R.load rfl Try.underlying46 rfl rfl ((hrv.int 4 (by omega)).1)) rfl rfl rfl ?_
                      refine KD.op (R.move rfl rfl) rfl rfl rfl ?_
                      refine KD.op (R.index1 (j := 5) rfl Try.underlying59 sz46 rfl rfl hrv (by first | rfl | omega) (by omega)) rfl rfl rfl ?_
                      refine KD.op (R.load rfl Try.underlying46 rfl rfl ((hrv.int 5 (by omega)).1)) rfl rfl rfl ?_
                      refine KD.op (R.bits rfl rfl rfl rfl) rfl rfl rfl ?_
                      refine KD.op (R.move rfl rfl) rfl rfl rfl ?_
                      refine KD.op (R.index1 (j := 4) rfl Try.underlying59 sz46 rfl rfl hrv (by first | rfl | omega) (by omega)) rfl rfl rfl ?_
                      refine KD.op (R.load rfl Try.underlying46 rfl rfl ((hrv.int 4 (by omega)).1)) rfl rfl rfl ?_
                      refine KD.op (R.sub rfl rfl rfl (by dsimp only [InR]; omega)) rfl rfl rfl ?_
                      refine KD.op (R.move rfl rfl) rfl rfl rfl ?_
                      refine KD.op (R.index1 (j := 6) rfl Try.underlying59 sz46 rfl rfl hrv (by first | rfl | omega) (by omega)) rfl rfl rfl ?_
                      refine KD.op (R.load rfl Try.underlying46 rfl rfl ((hrv.int 6 (by omega)).1)) rfl rfl rfl ?_
                      refine KD.op (R.bits rfl rfl rfl rfl) rfl rfl rfl ?_
                      refine KD.op (R.bits rfl rfl rfl rfl) rfl rfl rfl ?_
                      refine KD.op (R.addW rfl rfl rfl) rfl rfl rfl ?_
                      refine KD.op (R.move rfl rfl) rfl rfl rfl ?_
                      refine KD.op (R.move rfl rfl) rfl rfl rfl ?_
                      refine KD.op (R.indexO1 (j := i) rfl Try.underlying59 sz46 rfl rfl (wk.old (oV.trans oR)) (by first | rfl | omega) (by rw [Sha.K_length]; omega)) rfl rfl rfl ?_
                      refine KD.op (R.load rfl Try.underlying46 rfl rfl (((wk.old (oV.trans oR)).int (i) (by rw [Sha.K_length]; omega)).1)) rfl rfl rfl ?_
                      refine KD.op (R.addW rfl rfl rfl) rfl rfl rfl ?_
                      refine KD.op (R.move rfl rfl) rfl rfl rfl ?_
                      refine KD.op (R.move rfl rfl) rfl rfl rfl ?_
                      refine KD.op (R.indexO1 (j := i) rfl Try.underlying59 sz46 rfl rfl (wwV.old (oV.trans oR)) (by first | rfl | omega) (by omega)) rfl rfl rfl ?_
                      refine KD.op (R.load rfl Try.underlying46 rfl rfl (((wwV.old (oV.trans oR)).int (i) (by omega)).1)) rfl rfl rfl ?_
                      refine KD.op ((R.addW rfl rfl rfl).val (congrArg (Value.int .u32) (Sha.rnd_sum (Sha.rnds blk (Sha.hs bb k) i) _ _))) rfl rfl rfl ?_
                      refine KD.op (R.assign rfl rfl) rfl rfl rfl ?_
                      refine KD.nil ?_
                      refine KQ.seq ?_
                      refine KC.seq ?_
                      refine KC.quiet (by kernel_rfl) (by kernel_rfl) ?_
                      refine KD.op (R.move rfl rfl) rfl rfl rfl ?_
                      refine KD.op (R.index1 (j := 0) rfl Try.underlying59 sz46 rfl rfl hrv (by first | rfl | omega) (by omega)) rfl rfl rfl ?_
                      refine KD.op (R.load rfl Try.underlying46 rfl rfl ((hrv.int 0 (by omega)).1)) rfl rfl rfl ?_
                      refine KD.call rfl rfl rfl rfl Try.call22 rfl rfl rfl (turned_any _ 2 (by omega)) ?_
                      refine KD.op (R.move rfl rfl) rfl rfl rfl ?_
                      refine KD.op (R.index1 (j := 0) rfl Try.underlying59 sz46 rfl rfl hrv (by first | rfl | omega) (by omega)) rfl rfl rfl ?_
                      refine KD.op (R.load rfl Try.underlying46 rfl rfl ((hrv.int 0 (by omega)).1)) rfl rfl rfl ?_
                      refine KD.call rfl rfl rfl rfl Try.call22 rfl rfl rfl (turned_any _ 13 (by omega)) ?_
                      refine KD.op (R.bits rfl rfl rfl rfl) rfl rfl rfl ?_
                      refine KD.op (R.move rfl rfl) rfl rfl rfl ?_
                      refine KD.op (R.index1 (j := 0) rfl Try.underlying59 sz46 rfl rfl hrv (by first | rfl | omega) (by omega)) rfl rfl rfl ?_
                      refine KD.op (R.load rfl Try.underlying46 rfl rfl ((hrv.int 0 (by omega)).1)) rfl rfl rfl ?_
                      refine KD.call rfl rfl rfl rfl Try.call22 rfl rfl rfl (turned_any _ 22 (by omega)) ?_
                      refine KD.op (R.bits rfl rfl rfl rfl) rfl rfl rfl ?_
                      refine KD.op (R.move rfl rfl) rfl rfl rfl ?_
                      refine KD.op (R.index1 (j := 0) rfl Try.underlying59 sz46 rfl rfl hrv (by first | rfl | omega) (by omega)) rfl rfl rfl ?_
                      refine KD.op (R.load rfl Try.underlying46 rfl rfl ((hrv.int 0 (by omega)).1)) rfl rfl rfl ?_
                      refine KD.op (R.move rfl rfl) rfl rfl rfl ?_
                      refine KD.op (R.index1 (j := 1) rfl Try.underlying59 sz46 rfl rfl hrv (by first | rfl | omega) (by omega)) rfl rfl rfl ?_
                      refine KD.op (R.load rfl Try.underlying46 rfl rfl ((hrv.int 1 (by omega)).1)) rfl rfl rfl ?_
                      refine KD.op (R.bits rfl rfl rfl rfl) rfl rfl rfl ?_
                      refine KD.op (R.move rfl rfl) rfl rfl rfl ?_
                      refine KD.op (R.index1 (j := 0) rfl Try.underlying59 sz46 rfl rfl hrv (by first | rfl | omega) (by omega)) rfl rfl rfl ?_
                      refine KD.op (R.load rfl Try.underlying46 rfl rfl ((hrv.int 0 (by omega)).1)) rfl rfl rfl ?_
                      refine KD.op (R.move rfl rfl) rfl rfl rfl ?_
                      refine KD.op (R.index1 (j := 2) rfl Try.underlying59 sz46 rfl rfl hrv (by first | rfl | omega) (by omega)) rfl rfl rfl ?_
                      refine KD.op (R.load rfl Try.underlying46 rfl rfl ((hrv.int 2 (by omega)).1)) rfl rfl rfl ?_
                      refine KD.op (R.bits rfl rfl rfl rfl) rfl rfl rfl ?_
                      refine KD.op (R.bits rfl rfl rfl rfl) rfl rfl rfl ?_
                      refine KD.op (R.move rfl rfl) rfl rfl rfl ?_
                      refine KD.op (R.index1 (j := 1) rfl Try.underlying59 sz46 rfl rfl hrv (by first | rfl | omega) (by omega)) rfl rfl rfl ?_
                      refine KD.op (R.load rfl Try.underlying46 rfl rfl ((hrv.int 1 (by omega)).1)) rfl rfl rfl ?_
                      refine KD.op (R.move rfl rfl) rfl rfl rfl ?_
                      refine KD.op (R.index1 (j := 2) rfl Try.underlying59 sz46 rfl rfl hrv (by first | rfl | omega) (by omega)) rfl rfl rfl ?_
                      refine KD.op (R.load rfl Try.underlying46 rfl rfl ((hrv.int 2 (by omega)).1)) rfl rfl rfl ?_
                      refine KD.op (R.bits rfl rfl rfl rfl) rfl rfl rfl ?_
                      refine KD.op (R.bits rfl rfl rfl rfl) rfl rfl rfl ?_
                      refine KD.op (R.addW rfl rfl rfl) rfl rfl rfl ?_
                      refine KD.op (R.assign rfl rfl) rfl rfl rfl ?_
                      refine KD.nil ?_
                      refine KQ.seq ?_
                      refine KC.text (clOf [(5, 1), (8, 1), (11, 1), (14, 1), (19, 1), (22, 1), (25, 1), (26, 2)]) (fun _ _ => True) (by kernel_rfl) (by kernel_rfl) (fun _ => trivial) ?_
                      refine KP.op rfl (fun Hg hg => R.move rfl rfl) rfl rfl rfl ?_
                      refine KP.op rfl (fun Hg hg => R.move rfl rfl) rfl rfl rfl ?_
                      refine KP.op rfl (fun Hg hg => R.addW rfl rfl rfl) rfl rfl rfl ?_
                      refine KP.op rfl (fun Hg hg => R.move rfl rfl) rfl rfl rfl ?_
                      refine KP.op rfl (fun Hg hg => R.index1 (j := 0) rfl Try.underlying59 sz46 rfl rfl hrv (by first | rfl | omega) (by omega)) rfl rfl rfl ?_
                      refine KP.now rfl (R.load rfl Try.underlying46 rfl rfl ((hrv.int 0 (by omega)).1)) rfl rfl rfl ?_
                      refine KP.op rfl (fun Hg hg => R.move rfl rfl) rfl rfl rfl ?_
                      refine KP.op rfl (fun Hg hg => R.index1 (j := 1) rfl Try.underlying59 sz46 rfl rfl hrv (by first | rfl | omega) (by omega)) rfl rfl rfl ?_
                      refine KP.now rfl (R.load rfl Try.underlying46 rfl rfl ((hrv.int 1 (by omega)).1)) rfl rfl rfl ?_
                      refine KP.op rfl (fun Hg hg => R.move rfl rfl) rfl rfl rfl ?_
                      refine KP.op rfl (fun Hg hg => R.index1 (j := 2) rfl Try.underlying59 sz46 rfl rfl hrv (by first | rfl | omega) (by omega)) rfl rfl rfl ?_
                      refine KP.now rfl (R.load rfl Try.underlying46 rfl rfl ((hrv.int 2 (by omega)).1)) rfl rfl rfl ?_
                      refine KP.op rfl (fun Hg hg => R.move rfl rfl) rfl rfl rfl ?_
                      refine KP.op rfl (fun Hg hg => R.index1 (j := 3) rfl Try.underlying59 sz46 rfl rfl hrv (by first | rfl | omega) (by omega)) rfl rfl rfl ?_
                      refine KP.now rfl (R.load rfl Try.underlying46 rfl rfl ((hrv.int 3 (by omega)).1)) rfl rfl rfl ?_
                      refine KP.op rfl (fun Hg hg => R.move rfl rfl) rfl rfl rfl ?_
                      refine KP.op rfl (fun Hg hg => R.addW rfl rfl rfl) rfl rfl rfl ?_
                      refine KP.op rfl (fun Hg hg => R.move rfl rfl) rfl rfl rfl ?_
                      refine KP.op rfl (fun Hg hg => R.index1 (j := 4) rfl Try.underlying59 sz46 rfl rfl hrv (by first | rfl | omega) (by omega)) rfl rfl rfl ?_
                      refine KP.now rfl (R.load rfl Try.underlying46 rfl rfl ((hrv.int 4 (by omega)).1)) rfl rfl rfl ?_
                      refine KP.op rfl (fun Hg hg => R.move rfl rfl) rfl rfl rfl ?_
                      refine KP.op rfl (fun Hg hg => R.index1 (j := 5) rfl Try.underlying59 sz46 rfl rfl hrv (by first | rfl | omega) (by omega)) rfl rfl rfl ?_
                      refine KP.now rfl (R.load rfl Try.underlying46 rfl rfl ((hrv.int 5 (by omega)).1)) rfl rfl rfl ?_
                      refine KP.op rfl (fun Hg hg => R.move rfl rfl) rfl rfl rfl ?_
                      refine KP.op rfl (fun Hg hg => R.index1 (j := 6) rfl Try.underlying59 sz46 rfl rfl hrv (by first | rfl | omega) (by omega)) rfl rfl rfl ?_
                      refine KP.now rfl (R.load rfl Try.underlying46 rfl rfl ((hrv.int 6 (by omega)).1)) rfl rfl rfl ?_
                      refine KP.opM rfl (M.lit rfl Try.underlying59 zs46 (by decide) rfl rfl rfl) rfl rfl rfl (fun _ _ _ _ _ _ => trivial) ?_
                      rintro _ H21 ⟨rfl, n21⟩
                      have z21 := n21.2.1
                      have o0 := o0.trans n21.1
                      have oR := oR.trans n21.1
                      have b21 := n21.2.2
                      have hnew : Sl 1 (EInt .u32) H21 _ (Sha.rnds blk (Sha.hs bb k) (i + 1)) := Sl.lits (l := Sha.rnds blk (Sha.hs bb k) (i + 1)) n21 rfl (by rw [Sha.rnds_length hh8]; omega) (fun x hx => Sha.rnds_range (Sha.hs_range bb k) hh8 (i + 1) x hx)
                      have hb1 : H.size < Array.size H20 := by omega
                      have hb2 : Array.size H20 < Array.size H21 := by omega
                      refine KP.op rfl (fun Hg hg => R.assign rfl rfl) rfl rfl rfl ?_
                      refine KP.nil ?_
                      refine KQ.normBlock ?_
                      refine KQ.seq ?_
                      refine KC.region ?_
                      refine KL.op (R.move rfl rfl) rfl rfl rfl ?_
                      refine KL.op (R.add rfl rfl rfl (by dsimp only [InR]; omega)) rfl rfl rfl ?_
                      refine KL.op (R.assign rfl rfl) rfl rfl rfl ?_
                      refine KL.nil ?_
                      refine KQ.again ((i + 1, .slice (some ⟨Array.size H20, 0, none⟩) 8 8)) ?_ ?_ ?_
                      · exact (Sub.cons rfl (Sub.cons rfl (Ext.sub (by repeat (first | exact Ext.refl _ _ | refine Ext.put rfl ?_ | refine Ext.drop rfl ?_)))))
                      · show 64 - (i + 1) < 64 - i; omega
                      · exact ⟨by show i + 1 ≤ _; omega, hnew, oR, hb1, hb2⟩
                    · intro hc135
                      try simp only [decide_eq_true_eq, decide_eq_false_iff_not, Bool.not_eq_true', Bool.not_eq_false', Bool.and_eq_true, Bool.or_eq_false_iff] at hc135
                      have ei : i = 64 := (by omega)
                      subst ei
                      have whP := wh.old ((oV).trans oR)
                      refine KC.exit ?_
                      refine KQ.exitThen ?_
                      refine KQ.exitThen ?_
                      refine KQ.hit ?_
                      refine KQ.seq ?_
                      refine KC.seq ?_
                      refine KC.region ?_
                      refine KL.op (R.assign rfl rfl) rfl rfl rfl ?_
                      refine KL.nil ?_
                      refine KQ.seq ?_
                      refine KC.block ?_
                      refine KC.loopD (κ := Nat) [248, 249, 252, 253, 254, 255, 256, 257, 258, 259, 260, 261, 262, 263, 250, 251, 18] (fun i => [(18, .int .i64 (i : Nat))]) (fun i Hl => i ≤ 8 ∧ Own 1 (EInt .u32) 46 #[] H.size Hl (.slice (some ⟨H.size, 0, none⟩) 8 8) (Sha.part (Sha.hs bb k) (Sha.rnds blk (Sha.hs bb k) 64) i) ∧ Fr H.size (.slice none 0 0) H20 Hl) (fun i => 8 - i) 0 ?_ ?_ ?_
                      · exact (Sub.cons rfl (Ext.sub (Ext.refl _ _)))
                      · exact ⟨by omega, by rw [Sha.part_zero hh8]; exact whP, Fr.refl _ _ _⟩
                      · rintro i H22 ⟨hi, wh, frP⟩
                        have zP := frP.1
                        have hpl := Sha.part_length (Sha.hs bb k) (Sha.rnds blk (Sha.hs bb k) 64) i
                        have hrvP := hrv.keepI (.inr (frP.2 _ hv2 (by omega) (.inl rfl)))
                        have hrl := Sha.rnds_length (b := blk) hh8 64
                        have o0 := o0.frB frP (Nat.le_refl _)
                        refine KC.seq ?_
                        refine KC.seq ?_
                        refine KC.region ?_
                        refine KL.op (R.move rfl rfl) rfl rfl rfl ?_
                        refine KL.op (R.lss rfl rfl rfl) rfl rfl rfl ?_
                        refine KL.nil ?_
                        refine KQ.seq ?_
                        refine KC.iteL rfl ?_ ?_
                        · intro hc249
                          try simp only [decide_eq_true_eq, decide_eq_false_iff_not, Bool.not_eq_true', Bool.not_eq_false', Bool.and_eq_true, Bool.or_eq_false_iff] at hc249
                          refine KC.skip ?_
                          refine KQ.seq ?_
                          refine KC.seq ?_
                          refine KC.block ?_
                          refine KC.text (clOf [(5, 1), (9, 1), (12, 2)]) (fun _ _ => True) (by kernel_rfl) (by kernel_rfl) (fun _ => trivial) ?_
                          refine KP.op rfl (fun Hg hg => R.move rfl rfl) rfl rfl rfl ?_
                          refine KP.op rfl (fun Hg hg => R.move rfl rfl) rfl rfl rfl ?_
                          refine KP.op rfl (fun Hg hg => R.move rfl rfl) rfl rfl rfl ?_
                          refine KP.op rfl (fun Hg hg => R.move rfl rfl) rfl rfl rfl ?_
                          refine KP.op rfl (fun Hg hg => R.indexO1 (j := i) rfl Try.underlying59 sz46 rfl rfl wh (by first | rfl | omega) (by omega)) rfl rfl rfl ?_
                          refine KP.now rfl (R.load rfl Try.underlying46 rfl rfl ((wh.int (i) (by omega)).1)) rfl rfl rfl ?_
                          refine KP.op rfl (fun Hg hg => R.move rfl rfl) rfl rfl rfl ?_
                          refine KP.op rfl (fun Hg hg => R.move rfl rfl) rfl rfl rfl ?_
                          refine KP.op rfl (fun Hg hg => R.index1 (j := i) rfl Try.underlying59 sz46 rfl rfl hrvP rfl (by omega)) rfl rfl rfl ?_
                          refine KP.now rfl (R.load rfl Try.underlying46 rfl rfl ((hrvP.int i (by omega)).1)) rfl rfl rfl ?_
                          refine KP.op rfl (fun Hg hg => R.addW rfl rfl rfl) rfl rfl rfl ?_
                          refine KP.op rfl (fun Hg hg => R.indexO1 (j := i) rfl Try.underlying59 sz46 rfl rfl wh (by first | rfl | omega) (by omega)) rfl rfl rfl ?_
                          refine KP.opS rfl (S.own1 rfl sz46 rfl rfl rfl rfl wh (by omega) ⟨rfl, Sha.W_range _⟩) rfl rfl (fun _ _ _ _ _ => trivial) ?_
                          rintro H23 ⟨u23, w23⟩
                          have o0 := o0.upd u23 (by omega)
                          have zu23 := u23.1
                          have frP := (by first | exact frP.upd u23 | exact frP.updN u23 (by omega))
                          have wh := w23
                          refine KP.nil ?_
                          refine KQ.normBlock ?_
                          refine KQ.seq ?_
                          refine KC.region ?_
                          refine KL.op (R.move rfl rfl) rfl rfl rfl ?_
                          refine KL.op (R.add rfl rfl rfl (by dsimp only [InR]; omega)) rfl rfl rfl ?_
                          refine KL.op (R.assign rfl rfl) rfl rfl rfl ?_
                          refine KL.nil ?_
                          refine KQ.again (i + 1) ?_ ?_ ?_
                          · exact (Sub.cons rfl (Ext.sub (by repeat (first | exact Ext.refl _ _ | refine Ext.put rfl ?_ | refine Ext.drop rfl ?_))))
                          · omega
                          · exact ⟨by omega, by rw [← Sha.part_set (by omega)]; exact wh, frP⟩
                        · intro hc249
                          try simp only [decide_eq_true_eq, decide_eq_false_iff_not, Bool.not_eq_true', Bool.not_eq_false', Bool.and_eq_true, Bool.or_eq_false_iff] at hc249
                          have ei : i = 8 := (by omega)
                          subst ei
                          have frE : Fr H.size (.slice none 0 0) H9 H22 := (frW.old2 obWV oV oR (by omega)).transN frP
                          refine KC.exit ?_
                          refine KQ.exitThen ?_
                          refine KQ.exitThen ?_
                          refine KQ.hit ?_
                          refine KQ.normBlock ?_
                          refine KQ.seq ?_
                          refine KC.region ?_
                          refine KL.op (R.move rfl rfl) rfl rfl rfl ?_
                          refine KL.op (R.add rfl rfl rfl (by dsimp only [InR]; omega)) rfl rfl rfl ?_
                          refine KL.op (R.assign rfl rfl) rfl rfl rfl ?_
                          refine KL.nil ?_
                          refine KQ.again (k + 1) ?_ ?_ ?_
                          · exact (Sub.cons rfl (Ext.sub (by repeat (first | exact Ext.refl _ _ | refine Ext.put rfl ?_ | refine Ext.drop rfl ?_))))
                          · omega
                          · exact ⟨by omega, by rw [Sha.hs, ← eblk, ← Sha.part_all]; exact wh, frE⟩
            · intro hc56
              try simp only [decide_eq_true_eq, decide_eq_false_iff_not, Bool.not_eq_true', Bool.not_eq_false', Bool.and_eq_true, Bool.or_eq_false_iff] at hc56
              have ek : 64 * k = bb.length := (by omega)
              refine KC.exit ?_
              refine KQ.exitThen ?_
              refine KQ.exitThen ?_
              refine KQ.hit ?_
              refine KQ.seq ?_
              refine KC.seq ?_
              have oO := o0
              have zOO := o0.1
              have whO := wh
              refine KC.region ?_
              refine KL.op (R.assign rfl rfl) rfl rfl rfl ?_
              refine KL.nil ?_
              refine KQ.seq ?_
              refine KC.seq ?_
              refine KC.seq ?_
              refine KC.region ?_
              refine KL.op (R.assign rfl rfl) rfl rfl rfl ?_
              refine KL.nil ?_
              refine KQ.seq ?_
              refine KC.block ?_
              refine KC.loopD (κ := Nat × Value) [264, 265, 268, 269, 270, 271, 272, 273, 274, 275, 276, 277, 278, 279, 280, 281, 282, 283, 284, 285, 286, 287, 288, 289, 290, 291, 292, 293, 19, 266, 267, 20] (fun i => [(20, .int .i64 (i.1 : Nat)), (19, i.2)]) (fun i Hl => i.1 ≤ 8 ∧ Own 1 (EInt .u8) 5 #[] (Array.size H12) Hl i.2 (((Sha.hs bb k).take i.1).flatMap Sha.bs4) ∧ OldB (Array.size H12) H12 Hl) (fun i => 8 - i.1) (0, .slice none 0 0) ?_ ?_ ?_
              · exact (Sub.cons rfl (Sub.cons rfl (Ext.sub (Ext.refl _ _))))
              · exact ⟨by omega, Own.nil _ _ _ _ _ _, OldB.refl _ _⟩
              · rintro ⟨i, vo⟩ H24 ⟨hi, wo, obO⟩
                dsimp only
                dsimp only at hi wo
                have zO := obO.1
                have o0 := oO.then obO zOO
                have hsh := whO.oldB obO (.inr (by show H.size < _; have := whO.lt.resolve_left (by simp); exact this.2))
                have hfl := Sha.flat_length ((Sha.hs bb k).take i)
                rw [List.length_take] at hfl
                refine KC.seq ?_
                refine KC.seq ?_
                refine KC.region ?_
                refine KL.op (R.move rfl rfl) rfl rfl rfl ?_
                refine KL.op (R.lss rfl rfl rfl) rfl rfl rfl ?_
                refine KL.nil ?_
                refine KQ.seq ?_
                refine KC.iteL rfl ?_ ?_
                · intro hc265
                  try simp only [decide_eq_true_eq, decide_eq_false_iff_not, Bool.not_eq_true', Bool.not_eq_false', Bool.and_eq_true, Bool.or_eq_false_iff] at hc265
                  have hsh0 := 0
                  refine KC.skip ?_
                  refine KQ.seq ?_
                  refine KC.seq ?_
                  refine KC.block ?_
                  refine KC.text (clOf [(4, 1), (10, 1), (16, 1), (22, 1), (24, 2), (25, 2)]) (fun _ _ => True) (by kernel_rfl) (by kernel_rfl) (fun _ => trivial) ?_
                  refine KP.op rfl (fun Hg hg => R.move rfl rfl) rfl rfl rfl ?_
                  refine KP.op rfl (fun Hg hg => R.move rfl rfl) rfl rfl rfl ?_
                  refine KP.op rfl (fun Hg hg => R.move rfl rfl) rfl rfl rfl ?_
                  refine KP.op rfl (fun Hg hg => R.indexO1 (j := i) rfl Try.underlying59 sz46 rfl rfl hsh (by first | rfl | omega) (by omega)) rfl rfl rfl ?_
                  refine KP.now rfl (R.load rfl Try.underlying46 rfl rfl ((hsh.int (i) (by omega)).1)) rfl rfl rfl ?_
                  refine KP.op rfl (fun Hg hg => R.shr rfl rfl rfl (by omega)) rfl rfl rfl ?_
                  refine KP.op rfl (fun Hg hg => R.convW rfl Try.underlying46 Try.underlying5 rfl) rfl rfl rfl ?_
                  refine KP.op rfl (fun Hg hg => R.move rfl rfl) rfl rfl rfl ?_
                  refine KP.op rfl (fun Hg hg => R.move rfl rfl) rfl rfl rfl ?_
                  refine KP.op rfl (fun Hg hg => R.indexO1 (j := i) rfl Try.underlying59 sz46 rfl rfl hsh (by first | rfl | omega) (by omega)) rfl rfl rfl ?_
                  refine KP.now rfl (R.load rfl Try.underlying46 rfl rfl ((hsh.int (i) (by omega)).1)) rfl rfl rfl ?_
                  refine KP.op rfl (fun Hg hg => R.shr rfl rfl rfl (by omega)) rfl rfl rfl ?_
                  refine KP.op rfl (fun Hg hg => R.convW rfl Try.underlying46 Try.underlying5 rfl) rfl rfl rfl ?_
                  refine KP.op rfl (fun Hg hg => R.move rfl rfl) rfl rfl rfl ?_
                  refine KP.op rfl (fun Hg hg => R.move rfl rfl) rfl rfl rfl ?_
                  refine KP.op rfl (fun Hg hg => R.indexO1 (j := i) rfl Try.underlying59 sz46 rfl rfl hsh (by first | rfl | omega) (by omega)) rfl rfl rfl ?_
                  refine KP.now rfl (R.load rfl Try.underlying46 rfl rfl ((hsh.int (i) (by omega)).1)) rfl rfl rfl ?_
                  refine KP.op rfl (fun Hg hg => R.shr rfl rfl rfl (by omega)) rfl rfl rfl ?_
                  refine KP.op rfl (fun Hg hg => R.convW rfl Try.underlying46 Try.underlying5 rfl) rfl rfl rfl ?_
                  refine KP.op rfl (fun Hg hg => R.move rfl rfl) rfl rfl rfl ?_
                  refine KP.op rfl (fun Hg hg => R.move rfl rfl) rfl rfl rfl ?_
                  refine KP.op rfl (fun Hg hg => R.indexO1 (j := i) rfl Try.underlying59 sz46 rfl rfl hsh (by first | rfl | omega) (by omega)) rfl rfl rfl ?_
                  refine KP.now rfl (R.load rfl Try.underlying46 rfl rfl ((hsh.int (i) (by omega)).1)) rfl rfl rfl ?_
                  refine KP.op rfl (fun Hg hg => R.convW rfl Try.underlying46 Try.underlying5 rfl) rfl rfl rfl ?_
                  refine KP.opM rfl (M.lit rfl Try.underlying24 zs5 (by decide) rfl rfl rfl) rfl rfl rfl (fun _ _ _ _ _ _ => trivial) ?_
                  rintro _ H25 ⟨rfl, n25⟩
                  have z25 := n25.2.1
                  have o0 := o0.trans n25.1
                  have wo := wo.old n25.1
                  have obO := obO.trans ((n25.1).b (by omega))
                  have b25 := n25.2.2
                  have sn : Sl 1 (EInt .u8) H25 _ (Sha.bs4 ((Sha.hs bb k).getD i default)) := Sl.lits (l := Sha.bs4 ((Sha.hs bb k).getD i default)) n25 rfl (by simp [Sha.bs4]) (by intro x hx; simp only [Sha.bs4, List.mem_cons, List.not_mem_nil, or_false] at hx; rcases hx with rfl | rfl | rfl | rfl <;> exact Sha.u8_range _)
                  have lt26 := wo.lt
                  refine KP.opM rfl (M.append rfl Try.underlying24 inf5 rfl (by decide) rfl rfl wo (by exact sn) (fun _ _ h _ => h) (by omega) (by rw [hfl, show (Sha.bs4 ((Sha.hs bb k).getD i default)).length = 4 from rfl]; omega) (by unfold maxLen; rw [hfl, show (Sha.bs4 ((Sha.hs bb k).getD i default)).length = 4 from rfl]; omega)) rfl rfl rfl (fun _ _ _ _ _ _ => trivial) ?_
                  rintro vn H26 ⟨w26, g26⟩
                  try dsimp only at g26
                  have ob26 := g26.oldB wo (by omega)
                  have o0 := o0.then ob26 (by omega)
                  have z26 := ob26.1
                  have obO := obO.trans (ob26.mono (by omega))
                  have wo := w26
                  refine KP.op rfl (fun Hg hg => R.assign rfl rfl) rfl rfl rfl ?_
                  refine KP.nil ?_
                  refine KQ.normBlock ?_
                  refine KQ.seq ?_
                  refine KC.region ?_
                  refine KL.op (R.move rfl rfl) rfl rfl rfl ?_
                  refine KL.op (R.add rfl rfl rfl (by dsimp only [InR]; omega)) rfl rfl rfl ?_
                  refine KL.op (R.assign rfl rfl) rfl rfl rfl ?_
                  refine KL.nil ?_
                  refine KQ.again ((i + 1, vn)) ?_ ?_ ?_
                  · exact (Sub.cons rfl (Sub.cons rfl (Ext.sub (by repeat (first | exact Ext.refl _ _ | refine Ext.put rfl ?_ | refine Ext.drop rfl ?_)))))
                  · show 8 - (i + 1) < 8 - i; omega
                  · exact ⟨by show i + 1 ≤ _; omega, by dsimp only; rw [Sha.take_flat_succ (by omega)]; exact wo, obO⟩
                · intro hc265
                  try simp only [decide_eq_true_eq, decide_eq_false_iff_not, Bool.not_eq_true', Bool.not_eq_false', Bool.and_eq_true, Bool.or_eq_false_iff] at hc265
                  have ei : i = 8 := (by omega)
                  subst ei
                  rw [List.take_of_length_le (by omega)] at wo
                  refine KC.exit ?_
                  refine KQ.exitThen ?_
                  refine KQ.exitThen ?_
                  refine KQ.hit ?_
                  refine KQ.seq ?_
                  refine KC.seq ?_
                  refine KC.region ?_
                  refine KL.op (R.move rfl rfl) rfl rfl rfl ?_
                  refine KL.op (R.assign rfl rfl) rfl rfl rfl ?_
                  refine KL.nil ?_
                  refine KQ.seq ?_
                  refine KC.ret ?_
                  refine KQ.ofRet ?_
                  refine KQ.fin1 Try.results17 rfl ?_
                  have hd : Sha.digest m = (Sha.hs bb k).flatMap Sha.bs4 := by
                    unfold Sha.digest Sha.st; rw [← ebb, show bb.length / 64 = k by omega]
                  rw [hd]
                  exact ⟨wo.weak (by omega), o0⟩

end Go.Proofs.Ytgpbdimccbimnaa
