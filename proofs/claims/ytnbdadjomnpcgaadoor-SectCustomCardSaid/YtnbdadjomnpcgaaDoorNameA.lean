/- The library tells whether bytes are a text. No condition but that its tables are laid. -/
import Derived.Test.YtnbdadjomnpcgaaDoorUtfP
import Derived.Test.YtnbdadjomnpcgaaDoorKArr
import Derived.Test.YtnbdadjomnpcgaaDoorKAny
namespace Go.Proofs.YtnbdadjomnpcgaaDoor
open Go Go.RowKit
set_option linter.unusedVariables false
set_option linter.unusedSimpArgs false
set_option linter.unnecessarySimpa false

/-- the library's two tables, as they are laid -/
structure TabU (H : Heap) : Prop where
  first : ∀ c : Nat, c < 256 → cellH H ⟨0, c, none⟩ = some (.int .u8 (Lib.firstT c : Nat))
  lo : ∀ i : Nat, i < 16 → cellH H ⟨1, i * 2, none⟩ = some (.int .u8 (Lib.accLo i : Nat))
  hi : ∀ i : Nat, i < 16 → cellH H ⟨1, i * 2 + 1, none⟩ = some (.int .u8 (Lib.accHi i : Nat))
theorem TabU.old {H H' : Heap} (h : TabU H) (o : Old H H') : TabU H' := ⟨fun c hc => o.cell (h.first c hc), fun i hi => o.cell (h.lo i hi), fun i hi => o.cell (h.hi i hi)⟩
theorem TabU.at {H : Heap} (h : TabU H) {c : Int} (r : InR .u8 c) : cellH H ((⟨0, 0, none⟩ : Addr).add (c.toNat * 1)) = some (.int .u8 (Utf.ft c : Nat)) := by
  dsimp only [InR] at r
  rw [add1, Nat.zero_add]; exact h.first _ (by omega)
theorem TabU.acc {H : Heap} (h : TabU H) {c : Int} (hc : Utf.ft c / 16 < 16) : CellsH H ((⟨1, 0, none⟩ : Addr).add (Utf.ft c / 16 * 2)) [.int .u8 (Utf.lo c), .int .u8 (Utf.hi c)] := by
  have e : ∀ k, (⟨1, 0, none⟩ : Addr).add k = ⟨1, k, none⟩ := fun k => by unfold Addr.add; split <;> simp_all
  have e2 : ∀ j k, (⟨1, j, none⟩ : Addr).add k = ⟨1, j + k, none⟩ := fun j k => by unfold Addr.add; split <;> simp_all
  intro i v hv
  rw [e, e2]
  match i, hv with
  | 0, hv => cases hv; exact h.lo _ hc
  | 1, hv => cases hv; exact h.hi _ hc

set_option maxRecDepth 100000 in
set_option maxHeartbeats 4000000 in
theorem word_any {H : Heap} (v : Value) (l : List Int) (hs : Sl 1 (EInt .u8) H v l) (h8 : 8 ≤ l.length) : Ct Tryd.prog 39 [v] H (fun u H' => u = .int .u64 (Utf.wd8 l) ∧ H = H') := by
  refine Ct.mk Tryd.func39 rfl Tryd.ntmps39 rfl ?_
  intro W0 hW0
  have o0 : Old H H := Old.refl H
  have q0 := (hs.int 0 (by omega)).2
  have q1 := (hs.int 1 (by omega)).2
  have q2 := (hs.int 2 (by omega)).2
  have q3 := (hs.int 3 (by omega)).2
  have q4 := (hs.int 4 (by omega)).2
  have q5 := (hs.int 5 (by omega)).2
  have q6 := (hs.int 6 (by omega)).2
  have q7 := (hs.int 7 (by omega)).2
  have p0 := q0
  dsimp only [InR] at p0
  have p1 := q1
  dsimp only [InR] at p1
  have p2 := q2
  dsimp only [InR] at p2
  have p3 := q3
  dsimp only [InR] at p3
  have p4 := q4
  dsimp only [InR] at p4
  have p5 := q5
  dsimp only [InR] at p5
  have p6 := q6
  dsimp only [InR] at p6
  have p7 := q7
  dsimp only [InR] at p7
  refine KC.seq ?_
  refine KC.region ?_
  refine KL.op (R.assign rfl rfl) rfl rfl rfl ?_
  refine KL.nil ?_
  refine KQ.seq ?_
  refine KC.seq ?_
  refine KC.condF rfl ?_
  refine KC.skip ?_
  refine KQ.seq ?_
  refine KC.seq ?_
  refine KC.quiet (by kernel_rfl) (by kernel_rfl) ?_
  refine KD.op (R.move rfl rfl) rfl rfl rfl ?_
  refine KD.op (R.index1 (j := 0) rfl Tryd.underlying22 sz5 rfl rfl hs rfl (by omega)) rfl rfl rfl ?_
  refine KD.op (R.load rfl Tryd.underlying5 rfl rfl ((hs.int 0 (by omega)).1)) rfl rfl rfl ?_
  refine KD.op (R.convI rfl Tryd.underlying5 Tryd.underlying43 rfl (by dsimp only [InR]; omega)) rfl rfl rfl ?_
  refine KD.op (R.move rfl rfl) rfl rfl rfl ?_
  refine KD.op (R.index1 (j := 1) rfl Tryd.underlying22 sz5 rfl rfl hs rfl (by omega)) rfl rfl rfl ?_
  refine KD.op (R.load rfl Tryd.underlying5 rfl rfl ((hs.int 1 (by omega)).1)) rfl rfl rfl ?_
  refine KD.op (R.convI rfl Tryd.underlying5 Tryd.underlying43 rfl (by dsimp only [InR]; omega)) rfl rfl rfl ?_
  refine KD.op (R.shl rfl rfl rfl (by omega)) rfl rfl rfl ?_
  refine KD.op (R.bits rfl rfl rfl rfl) rfl rfl rfl ?_
  refine KD.op (R.move rfl rfl) rfl rfl rfl ?_
  refine KD.op (R.index1 (j := 2) rfl Tryd.underlying22 sz5 rfl rfl hs rfl (by omega)) rfl rfl rfl ?_
  refine KD.op (R.load rfl Tryd.underlying5 rfl rfl ((hs.int 2 (by omega)).1)) rfl rfl rfl ?_
  refine KD.op (R.convI rfl Tryd.underlying5 Tryd.underlying43 rfl (by dsimp only [InR]; omega)) rfl rfl rfl ?_
  refine KD.op (R.shl rfl rfl rfl (by omega)) rfl rfl rfl ?_
  refine KD.op (R.bits rfl rfl rfl rfl) rfl rfl rfl ?_
  refine KD.op (R.move rfl rfl) rfl rfl rfl ?_
  refine KD.op (R.index1 (j := 3) rfl Tryd.underlying22 sz5 rfl rfl hs rfl (by omega)) rfl rfl rfl ?_
  refine KD.op (R.load rfl Tryd.underlying5 rfl rfl ((hs.int 3 (by omega)).1)) rfl rfl rfl ?_
  refine KD.op (R.convI rfl Tryd.underlying5 Tryd.underlying43 rfl (by dsimp only [InR]; omega)) rfl rfl rfl ?_
  refine KD.op (R.shl rfl rfl rfl (by omega)) rfl rfl rfl ?_
  refine KD.op (R.bits rfl rfl rfl rfl) rfl rfl rfl ?_
  refine KD.op (R.move rfl rfl) rfl rfl rfl ?_
  refine KD.op (R.index1 (j := 4) rfl Tryd.underlying22 sz5 rfl rfl hs rfl (by omega)) rfl rfl rfl ?_
  refine KD.op (R.load rfl Tryd.underlying5 rfl rfl ((hs.int 4 (by omega)).1)) rfl rfl rfl ?_
  refine KD.op (R.convI rfl Tryd.underlying5 Tryd.underlying43 rfl (by dsimp only [InR]; omega)) rfl rfl rfl ?_
  refine KD.op (R.shl rfl rfl rfl (by omega)) rfl rfl rfl ?_
  refine KD.op (R.bits rfl rfl rfl rfl) rfl rfl rfl ?_
  refine KD.op (R.move rfl rfl) rfl rfl rfl ?_
  refine KD.op (R.index1 (j := 5) rfl Tryd.underlying22 sz5 rfl rfl hs rfl (by omega)) rfl rfl rfl ?_
  refine KD.op (R.load rfl Tryd.underlying5 rfl rfl ((hs.int 5 (by omega)).1)) rfl rfl rfl ?_
  refine KD.op (R.convI rfl Tryd.underlying5 Tryd.underlying43 rfl (by dsimp only [InR]; omega)) rfl rfl rfl ?_
  refine KD.op (R.shl rfl rfl rfl (by omega)) rfl rfl rfl ?_
  refine KD.op (R.bits rfl rfl rfl rfl) rfl rfl rfl ?_
  refine KD.op (R.move rfl rfl) rfl rfl rfl ?_
  refine KD.op (R.index1 (j := 6) rfl Tryd.underlying22 sz5 rfl rfl hs rfl (by omega)) rfl rfl rfl ?_
  refine KD.op (R.load rfl Tryd.underlying5 rfl rfl ((hs.int 6 (by omega)).1)) rfl rfl rfl ?_
  refine KD.op (R.convI rfl Tryd.underlying5 Tryd.underlying43 rfl (by dsimp only [InR]; omega)) rfl rfl rfl ?_
  refine KD.op (R.shl rfl rfl rfl (by omega)) rfl rfl rfl ?_
  refine KD.op (R.bits rfl rfl rfl rfl) rfl rfl rfl ?_
  refine KD.op (R.move rfl rfl) rfl rfl rfl ?_
  refine KD.op (R.index1 (j := 7) rfl Tryd.underlying22 sz5 rfl rfl hs rfl (by omega)) rfl rfl rfl ?_
  refine KD.op (R.load rfl Tryd.underlying5 rfl rfl ((hs.int 7 (by omega)).1)) rfl rfl rfl ?_
  refine KD.op (R.convI rfl Tryd.underlying5 Tryd.underlying43 rfl (by dsimp only [InR]; omega)) rfl rfl rfl ?_
  refine KD.op (R.shl rfl rfl rfl (by omega)) rfl rfl rfl ?_
  refine KD.op ((R.bits rfl rfl rfl rfl).val (congrArg (Value.int .u64) ((Utf.word_or q0 q1 q2 q3 q4 q5 q6 q7).trans (Utf.wd8_eq l).symm))) rfl rfl rfl ?_
  refine KD.op (R.assign rfl rfl) rfl rfl rfl ?_
  refine KD.nil ?_
  refine KQ.seq ?_
  refine KC.ret ?_
  refine KQ.ofRet ?_
  refine KQ.fin1 Tryd.results39 rfl ?_
  exact ⟨rfl, rfl⟩


namespace Utf
theorem asc16 {l : List Int} (h : ∀ i, i < 8 → l.getD i default < 128) (k : ∀ i, i < 8 → (l.drop 8).getD i default < 128) : ∀ i, i < 16 → l.getD i default < 128 := by
  intro i hi
  by_cases h8 : i < 8
  · exact h i h8
  · have := k (i - 8) (by omega)
    rw [getD_drop, show 8 + (i - 8) = i by omega] at this; exact this
theorem asc32 {l : List Int} (h : ∀ i, i < 8 → l.getD i default < 128) (k : ∀ i, i < 8 → (l.drop 8).getD i default < 128) (p : ∀ i, i < 8 → (l.drop 16).getD i default < 128) (q : ∀ i, i < 8 → (l.drop 24).getD i default < 128) : ∀ i, i < 32 → l.getD i default < 128 := by
  intro i hi
  by_cases h16 : i < 16
  · exact asc16 h k i h16
  · by_cases h24 : i < 24
    · have := p (i - 16) (by omega)
      rw [getD_drop, show 16 + (i - 16) = i by omega] at this; exact this
    · have := q (i - 24) (by omega)
      rw [getD_drop, show 24 + (i - 24) = i by omega] at this; exact this
end Utf

set_option maxRecDepth 100000 in
set_option maxHeartbeats 4000000 in
theorem utf8Valid_any {H : Heap} (v : Value) (l : List Int) (hs : Sl 1 (EInt .u8) H v l) (hT : TabU H) : Ct Tryd.prog 31 [v] H (fun u H' => u = .bool (Utf.valid l) ∧ Old H H') := by
  refine Ct.mk Tryd.func31 rfl Tryd.ntmps31 rfl ?_
  intro W0 hW0
  have o0 : Old H H := Old.refl H
  refine KC.seq ?_
  refine KC.region ?_
  refine KL.op (R.assign rfl rfl) rfl rfl rfl ?_
  refine KL.nil ?_
  refine KQ.seq ?_
  refine KC.seq ?_
  refine KC.region ?_
  refine KL.op (R.move rfl rfl) rfl rfl rfl ?_
  refine KL.op (R.move rfl rfl) rfl rfl rfl ?_
  refine KL.op ((by first | exact R.lenS rfl Tryd.underlying22 rfl (by first | exact hs | assumption) | exact R.len (ty := 0) rfl Tryd.underlying22 rfl)) rfl rfl rfl ?_
  refine KL.op (R.move rfl rfl) rfl rfl rfl ?_
  refine KL.op ((by first | exact R.lenS rfl Tryd.underlying22 rfl (by first | exact hs | assumption) | exact R.len (ty := 0) rfl Tryd.underlying22 rfl)) rfl rfl rfl ?_
  refine KL.op (R.slice3 rfl Tryd.underlying22 sz5 rfl hs bnd.no rfl rfl rfl rfl (Nat.zero_le _) (Nat.le_refl _)) rfl rfl rfl ?_
  have s0 : Sl 1 (EInt .u8) H (sub3 1 v 0 l.length l.length) l := by
    have := hs.sub3 (lo := 0) (hi := l.length) (by omega) (by omega)
    simpa using this
  refine KL.op (R.assign rfl rfl) rfl rfl rfl ?_
  refine KL.nil ?_
  refine KQ.seq ?_
  refine KC.seq ?_
  refine KC.block ?_
  refine KC.loopD (κ := Value × List Int) [13, 14, 15, 16, 17, 18, 3, 19, 20, 21, 22, 0, 23, 24, 25, 26, 27, 28, 29, 30, 31, 32, 33, 34, 35, 36, 37, 38, 39, 40, 41, 42, 43, 44, 45, 46, 47, 48, 49, 50, 51, 52, 53, 54, 55, 56, 57, 58, 59, 60, 61, 62, 63, 64, 65, 66, 67, 68, 69, 70, 71, 72, 73, 74, 4, 75, 76, 77, 5, 78, 79, 80, 81, 6, 82, 84, 83, 85, 86, 87, 88, 89, 90, 91, 92, 93, 94, 95, 96, 97, 98, 99, 100, 101, 102, 103, 2, 104, 105, 107, 106, 108, 109, 110, 111, 112, 113, 114, 115, 116, 117, 118, 119, 120, 121, 122, 123, 124, 125, 126, 127, 128, 129, 130, 131, 132, 133, 134, 135, 136, 137, 138, 139, 140, 142, 141, 143, 144, 145, 146, 147, 148, 149, 150, 151, 152, 153, 154, 155, 156, 157, 158, 159, 160, 161, 162, 163, 164, 165, 166, 167, 168, 169, 170, 171, 172, 173, 174, 175, 176, 177, 178, 179, 180, 181, 182, 183, 184, 185, 186, 187] (fun k => [(0, k.1)]) (fun k Hl => Sl 1 (EInt .u8) Hl k.1 k.2 ∧ Utf.valid k.2 = Utf.valid l ∧ k.2.length ≤ l.length ∧ Old H Hl) (fun k => k.2.length) (sub3 1 v 0 l.length l.length, l) ?_ ?_ ?_
  · exact (Sub.cons rfl (Ext.sub (Ext.refl _ _)))
  · exact ⟨s0, rfl, Nat.le_refl _, o0⟩
  · rintro ⟨va, m⟩ H1 ⟨sa, hv, hle, o0⟩
    have zl_H1 := o0.1
    dsimp only at sa hv hle
    have hTa := hT.old o0
    have sa0 := sa
    have ox : Old H1 H1 := Old.refl _
    refine KC.seq ?_
    refine KC.seq ?_
    refine KC.region ?_
    refine KL.op (R.move rfl rfl) rfl rfl rfl ?_
    refine KL.op ((by first | exact R.lenS rfl Tryd.underlying22 rfl (by first | exact sa | assumption) | exact R.len (ty := 0) rfl Tryd.underlying22 rfl)) rfl rfl rfl ?_
    refine KL.op (R.gtr rfl rfl rfl) rfl rfl rfl ?_
    refine KL.nil ?_
    refine KQ.seq ?_
    refine KC.iteL rfl ?_ ?_
    · intro hc15
      try simp only [decide_eq_true_eq, decide_eq_false_iff_not, Bool.not_eq_true', Bool.not_eq_false', Bool.and_eq_true, Bool.or_eq_false_iff] at hc15
      refine KC.skip ?_
      refine KQ.seq ?_
      refine KC.block ?_
      refine KC.seq ?_
      refine KC.region ?_
      refine KL.op (R.move rfl rfl) rfl rfl rfl ?_
      refine KL.op (R.index1 (j := 0) rfl Tryd.underlying22 sz5 rfl rfl sa rfl (by omega)) rfl rfl rfl ?_
      refine KL.op (R.load rfl Tryd.underlying5 rfl rfl ((sa.int 0 (by omega)).1)) rfl rfl rfl ?_
      refine KL.op (R.assign rfl rfl) rfl rfl rfl ?_
      refine KL.nil ?_
      refine KQ.seq ?_
      refine KC.seq ?_
      refine KC.seq ?_
      refine KC.region ?_
      refine KL.op (R.move rfl rfl) rfl rfl rfl ?_
      refine KL.op (R.lss rfl rfl rfl) rfl rfl rfl ?_
      refine KL.nil ?_
      refine KQ.seq ?_
      refine KC.iteL rfl ?_ ?_
      · intro hc20
        try simp only [decide_eq_true_eq, decide_eq_false_iff_not, Bool.not_eq_true', Bool.not_eq_false', Bool.and_eq_true, Bool.or_eq_false_iff] at hc20
        have q0 := (sa.int 0 (by omega)).2
        refine KC.seq ?_
        refine KC.region ?_
        refine KL.op (R.move rfl rfl) rfl rfl rfl ?_
        refine KL.op (R.slice rfl Tryd.underlying22 sz5 rfl sa (bnd.mk (r := 1) rfl rfl) bnd.no (by first | omega | (simp only [List.length_drop] at *; omega)) (Nat.le_refl _)) rfl rfl rfl ?_
        have s1 : Sl 1 (EInt .u8) H1 (subV 1 (va) 1 (m).length) ((m).drop 1) := sa.tail (by first | omega | (simp only [List.length_drop] at *; omega))
        have vs1 : Utf.valid ((m).drop 1) = Utf.valid l := (Utf.ok1 (by omega) hc20).trans hv
        have sn := s1
        have vn := vs1
        refine KL.op (R.assign rfl rfl) rfl rfl rfl ?_
        refine KL.nil ?_
        refine KQ.seq ?_
        refine KC.seq ?_
        refine KC.seq ?_
        refine KC.region ?_
        refine KL.op (R.move rfl rfl) rfl rfl rfl ?_
        refine KL.op ((by first | exact R.lenS rfl Tryd.underlying22 rfl (by first | exact sa | exact s1 | assumption) | exact R.len (ty := 0) rfl Tryd.underlying22 rfl)) rfl rfl rfl ?_
        refine KL.op (R.gtr rfl rfl rfl) rfl rfl rfl ?_
        refine KL.op (R.move rfl rfl) rfl rfl rfl ?_
        refine KL.case (d := 26) rfl ?_ ?_
        · intro hg26
          try simp only [decide_eq_true_eq, decide_eq_false_iff_not, Bool.not_eq_true', Bool.not_eq_false', Bool.and_eq_true, Bool.or_eq_false_iff] at hg26
          refine KL.op (R.move rfl rfl) rfl rfl rfl ?_
          refine KL.call rfl rfl rfl rfl Tryd.call39 rfl rfl rfl (word_any _ _ s1 (by first | omega | (simp only [List.length_drop] at *; omega))) ?_
          rintro _ _ ⟨rfl, rfl⟩
          refine KL.op (R.bits rfl rfl rfl rfl) rfl rfl rfl ?_
          refine KL.op (R.eql rfl rfl rfl) rfl rfl rfl ?_
          refine KL.op (R.pick rfl rfl rfl) rfl rfl rfl ?_
          refine KL.nil ?_
          refine KQ.seq ?_
          refine KC.iteL rfl ?_ ?_
          · intro hc31
            try simp only [decide_eq_true_eq, decide_eq_false_iff_not, Bool.not_eq_true', Bool.not_eq_false', Bool.and_eq_true, Bool.or_eq_false_iff] at hc31
            have a1 := Utf.asc1 (s1.r8 (by first | omega | (simp only [List.length_drop] at *; omega))) (by assumption)
            refine KC.seq ?_
            refine KC.region ?_
            refine KL.op (R.move rfl rfl) rfl rfl rfl ?_
            refine KL.op (R.slice rfl Tryd.underlying22 sz5 rfl s1 (bnd.mk (r := 8) rfl rfl) bnd.no (by first | omega | (simp only [List.length_drop] at *; omega)) (Nat.le_refl _)) rfl rfl rfl ?_
            have s2 : Sl 1 (EInt .u8) H1 (subV 1 (subV 1 (va) 1 (m).length) 8 ((m).drop 1).length) (((m).drop 1).drop 8) := s1.tail (by first | omega | (simp only [List.length_drop] at *; omega))
            have vs2 : Utf.valid (((m).drop 1).drop 8) = Utf.valid l := (Utf.okAsc (by first | omega | (simp only [List.length_drop] at *; omega)) a1).trans vs1
            have sn := s2
            have vn := vs2
            refine KL.op (R.assign rfl rfl) rfl rfl rfl ?_
            refine KL.nil ?_
            refine KQ.seq ?_
            refine KC.seq ?_
            refine KC.quiet (by kernel_rfl) (by kernel_rfl) ?_
            refine KD.op (R.move rfl rfl) rfl rfl rfl ?_
            refine KD.op ((by first | exact R.lenS rfl Tryd.underlying22 rfl (by first | exact sa | exact s1 | exact s2 | assumption) | exact R.len (ty := 0) rfl Tryd.underlying22 rfl)) rfl rfl rfl ?_
            refine KD.op (R.gtr rfl rfl rfl) rfl rfl rfl ?_
            refine KD.op (R.move rfl rfl) rfl rfl rfl ?_
            refine KD.case (d := 37) rfl ?_ ?_
            · intro hg37
              try simp only [decide_eq_true_eq, decide_eq_false_iff_not, Bool.not_eq_true', Bool.not_eq_false', Bool.and_eq_true, Bool.or_eq_false_iff] at hg37
              refine KD.op (R.move rfl rfl) rfl rfl rfl ?_
              refine KD.call rfl rfl rfl rfl Tryd.call39 rfl rfl rfl (word_any _ _ s2 (by first | omega | (simp only [List.length_drop] at *; omega))) ?_
              refine KD.op (R.move rfl rfl) rfl rfl rfl ?_
              refine KD.op (R.slice rfl Tryd.underlying22 sz5 rfl s2 (bnd.mk (r := 8) rfl rfl) bnd.no (by first | omega | (simp only [List.length_drop] at *; omega)) (Nat.le_refl _)) rfl rfl rfl ?_
              have s2b : Sl 1 (EInt .u8) H1 (subV 1 (subV 1 (subV 1 (va) 1 (m).length) 8 ((m).drop 1).length) 8 (((m).drop 1).drop 8).length) ((((m).drop 1).drop 8).drop 8) := s2.tail (by first | omega | (simp only [List.length_drop] at *; omega))
              refine KD.call rfl rfl rfl rfl Tryd.call39 rfl rfl rfl (word_any _ _ s2b (by first | omega | (simp only [List.length_drop] at *; omega))) ?_
              refine KD.op (R.bits rfl rfl rfl rfl) rfl rfl rfl ?_
              refine KD.op (R.bits rfl rfl rfl rfl) rfl rfl rfl ?_
              refine KD.op (R.eql rfl rfl rfl) rfl rfl rfl ?_
              refine KD.op (R.pick rfl rfl rfl) rfl rfl rfl ?_
              refine KD.nil ?_
              refine KQ.seq ?_
              refine KC.iteL rfl ?_ ?_
              · intro hc46
                try simp only [decide_eq_true_eq, decide_eq_false_iff_not, Bool.not_eq_true', Bool.not_eq_false', Bool.and_eq_true, Bool.or_eq_false_iff] at hc46
                have a2 := Utf.asc2 (s2.r8 (by first | omega | (simp only [List.length_drop] at *; omega))) (s2b.r8 (by first | omega | (simp only [List.length_drop] at *; omega))) (by assumption)
                refine KC.seq ?_
                refine KC.region ?_
                refine KL.op (R.move rfl rfl) rfl rfl rfl ?_
                refine KL.op (R.slice rfl Tryd.underlying22 sz5 rfl s2 (bnd.mk (r := 16) rfl rfl) bnd.no (by first | omega | (simp only [List.length_drop] at *; omega)) (Nat.le_refl _)) rfl rfl rfl ?_
                have s3 : Sl 1 (EInt .u8) H1 (subV 1 (subV 1 (subV 1 (va) 1 (m).length) 8 ((m).drop 1).length) 16 (((m).drop 1).drop 8).length) ((((m).drop 1).drop 8).drop 16) := s2.tail (by first | omega | (simp only [List.length_drop] at *; omega))
                have vs3 : Utf.valid ((((m).drop 1).drop 8).drop 16) = Utf.valid l := (Utf.okAsc (by first | omega | (simp only [List.length_drop] at *; omega)) (Utf.asc16 a2.1 a2.2)).trans vs2
                have sn := s3
                have vn := vs3
                refine KL.op (R.assign rfl rfl) rfl rfl rfl ?_
                refine KL.nil ?_
                refine KQ.seq ?_
                refine KC.block ?_
                refine KC.loopD (κ := Value × List Int) [49, 50, 51, 52, 53, 54, 55, 56, 57, 58, 59, 60, 61, 62, 63, 64, 65, 66, 67, 68, 69, 70, 71, 0] (fun k => [(0, k.1)]) (fun k Hl => H1 = Hl ∧ Sl 1 (EInt .u8) Hl k.1 k.2 ∧ Utf.valid k.2 = Utf.valid l ∧ k.2.length < m.length) (fun k => k.2.length) (subV 1 (subV 1 (subV 1 (va) 1 (m).length) 8 ((m).drop 1).length) 16 (((m).drop 1).drop 8).length, (((m).drop 1).drop 8).drop 16) ?_ ?_ ?_
                · exact (Sub.cons rfl (Ext.sub (Ext.refl _ _)))
                · exact ⟨rfl, sn, vn, (by first | omega | (simp only [List.length_drop] at *; omega))⟩
                · rintro ⟨vb, mb⟩ H2 ⟨rfl, sb, hvb, hlb⟩
                  dsimp only at sb hvb hlb
                  have sn := sb
                  have vn := hvb
                  refine KC.seq ?_
                  refine KC.seq ?_
                  refine KC.quiet (by kernel_rfl) (by kernel_rfl) ?_
                  refine KD.op (R.move rfl rfl) rfl rfl rfl ?_
                  refine KD.op ((by first | exact R.lenS rfl Tryd.underlying22 rfl (by first | exact sa | exact sb | assumption) | exact R.len (ty := 0) rfl Tryd.underlying22 rfl)) rfl rfl rfl ?_
                  refine KD.op (R.gtr rfl rfl rfl) rfl rfl rfl ?_
                  refine KD.op (R.move rfl rfl) rfl rfl rfl ?_
                  refine KD.case (d := 52) rfl ?_ ?_
                  · intro hg52
                    try simp only [decide_eq_true_eq, decide_eq_false_iff_not, Bool.not_eq_true', Bool.not_eq_false', Bool.and_eq_true, Bool.or_eq_false_iff] at hg52
                    refine KD.op (R.move rfl rfl) rfl rfl rfl ?_
                    refine KD.call rfl rfl rfl rfl Tryd.call39 rfl rfl rfl (word_any _ _ sb (by first | omega | (simp only [List.length_drop] at *; omega))) ?_
                    refine KD.op (R.move rfl rfl) rfl rfl rfl ?_
                    refine KD.op (R.slice rfl Tryd.underlying22 sz5 rfl sb (bnd.mk (r := 8) rfl rfl) bnd.no (by first | omega | (simp only [List.length_drop] at *; omega)) (Nat.le_refl _)) rfl rfl rfl ?_
                    have sb1 : Sl 1 (EInt .u8) H1 (subV 1 (vb) 8 (mb).length) ((mb).drop 8) := sb.tail (by first | omega | (simp only [List.length_drop] at *; omega))
                    refine KD.call rfl rfl rfl rfl Tryd.call39 rfl rfl rfl (word_any _ _ sb1 (by first | omega | (simp only [List.length_drop] at *; omega))) ?_
                    refine KD.op (R.bits rfl rfl rfl rfl) rfl rfl rfl ?_
                    refine KD.op (R.move rfl rfl) rfl rfl rfl ?_
                    refine KD.op (R.slice rfl Tryd.underlying22 sz5 rfl sb (bnd.mk (r := 16) rfl rfl) bnd.no (by first | omega | (simp only [List.length_drop] at *; omega)) (Nat.le_refl _)) rfl rfl rfl ?_
                    have sb2 : Sl 1 (EInt .u8) H1 (subV 1 (vb) 16 (mb).length) ((mb).drop 16) := sb.tail (by first | omega | (simp only [List.length_drop] at *; omega))
                    refine KD.call rfl rfl rfl rfl Tryd.call39 rfl rfl rfl (word_any _ _ sb2 (by first | omega | (simp only [List.length_drop] at *; omega))) ?_
                    refine KD.op (R.move rfl rfl) rfl rfl rfl ?_
                    refine KD.op (R.slice rfl Tryd.underlying22 sz5 rfl sb (bnd.mk (r := 24) rfl rfl) bnd.no (by first | omega | (simp only [List.length_drop] at *; omega)) (Nat.le_refl _)) rfl rfl rfl ?_
                    have sb3 : Sl 1 (EInt .u8) H1 (subV 1 (vb) 24 (mb).length) ((mb).drop 24) := sb.tail (by first | omega | (simp only [List.length_drop] at *; omega))
                    refine KD.call rfl rfl rfl rfl Tryd.call39 rfl rfl rfl (word_any _ _ sb3 (by first | omega | (simp only [List.length_drop] at *; omega))) ?_
                    refine KD.op (R.bits rfl rfl rfl rfl) rfl rfl rfl ?_
                    refine KD.op (R.bits rfl rfl rfl rfl) rfl rfl rfl ?_
                    refine KD.op (R.bits rfl rfl rfl rfl) rfl rfl rfl ?_
                    refine KD.op (R.eql rfl rfl rfl) rfl rfl rfl ?_
                    refine KD.op (R.pick rfl rfl rfl) rfl rfl rfl ?_
                    refine KD.nil ?_
                    refine KQ.seq ?_
                    refine KC.iteL rfl ?_ ?_
                    · intro hc69
                      try simp only [decide_eq_true_eq, decide_eq_false_iff_not, Bool.not_eq_true', Bool.not_eq_false', Bool.and_eq_true, Bool.or_eq_false_iff] at hc69
                      have a4 := Utf.asc4 (sb.r8 (by first | omega | (simp only [List.length_drop] at *; omega))) (sb1.r8 (by first | omega | (simp only [List.length_drop] at *; omega))) (sb2.r8 (by first | omega | (simp only [List.length_drop] at *; omega))) (sb3.r8 (by first | omega | (simp only [List.length_drop] at *; omega))) (by assumption)
                      refine KC.skip ?_
                      refine KQ.seq ?_
                      refine KC.block ?_
                      refine KC.region ?_
                      refine KL.op (R.move rfl rfl) rfl rfl rfl ?_
                      refine KL.op (R.slice rfl Tryd.underlying22 sz5 rfl sb (bnd.mk (r := 32) rfl rfl) bnd.no (by first | omega | (simp only [List.length_drop] at *; omega)) (Nat.le_refl _)) rfl rfl rfl ?_
                      have s32 : Sl 1 (EInt .u8) H1 (subV 1 (vb) 32 (mb).length) ((mb).drop 32) := sb.tail (by first | omega | (simp only [List.length_drop] at *; omega))
                      have vs32 : Utf.valid ((mb).drop 32) = Utf.valid l := (Utf.okAsc (by first | omega | (simp only [List.length_drop] at *; omega)) (Utf.asc32 a4.1.1 a4.1.2 a4.2.1 a4.2.2)).trans hvb
                      have sn := s32
                      have vn := vs32
                      refine KL.op (R.assign rfl rfl) rfl rfl rfl ?_
                      refine KL.nil ?_
                      refine KQ.normBlock ?_
                      refine KQ.again ((subV 1 (vb) 32 (mb).length, (mb).drop 32)) ?_ ?_ ?_
                      · exact (Sub.cons rfl (Ext.sub (by repeat (first | exact Ext.refl _ _ | refine Ext.put rfl ?_ | refine Ext.drop rfl ?_))))
                      · show _ < _; first | omega | (simp only [List.length_drop] at *; omega)
                      · exact ⟨rfl, sn, vn, (by first | omega | (simp only [List.length_drop] at *; omega))⟩
                    · intro hc69
                      try simp only [decide_eq_true_eq, decide_eq_false_iff_not, Bool.not_eq_true', Bool.not_eq_false', Bool.and_eq_true, Bool.or_eq_false_iff] at hc69
                      refine KC.exit ?_
                      refine KQ.exitThen ?_
                      refine KQ.exitThen ?_
                      refine KQ.hit ?_
                      refine KQ.seq ?_
                      refine KC.exit ?_
                      refine KQ.exitThen ?_
                      refine KQ.hit ?_
                      refine KQ.again ((vb, mb)) ?_ ?_ ?_
                      · exact (Sub.cons rfl (Ext.sub (by repeat (first | exact Ext.refl _ _ | refine Ext.put rfl ?_ | refine Ext.drop rfl ?_))))
                      · show _ < _; first | omega | (simp only [List.length_drop] at *; omega)
                      · exact ⟨sn, vn, by show _ ≤ _; first | omega | (simp only [List.length_drop] at *; omega), o0⟩
                  · intro hg52
                    try simp only [decide_eq_true_eq, decide_eq_false_iff_not, Bool.not_eq_true', Bool.not_eq_false', Bool.and_eq_true, Bool.or_eq_false_iff] at hg52
                    refine KD.skip rfl rfl rfl ?_
                    refine KD.skip rfl rfl rfl ?_
                    refine KD.skip rfl rfl rfl ?_
                    refine KD.skip rfl rfl rfl ?_
                    refine KD.skip rfl rfl rfl ?_
                    refine KD.skip rfl rfl rfl ?_
                    refine KD.skip rfl rfl rfl ?_
                    refine KD.skip rfl rfl rfl ?_
                    refine KD.skip rfl rfl rfl ?_
                    refine KD.skip rfl rfl rfl ?_
                    refine KD.skip rfl rfl rfl ?_
                    refine KD.skip rfl rfl rfl ?_
                    refine KD.skip rfl rfl rfl ?_
                    refine KD.skip rfl rfl rfl ?_
                    refine KD.skip rfl rfl rfl ?_
                    refine KD.skip rfl rfl rfl ?_
                    refine KD.op (R.pick rfl rfl rfl) rfl rfl rfl ?_
                    refine KD.nil ?_
                    refine KQ.seq ?_
                    refine KC.condF rfl ?_
                    refine KC.exit ?_
                    refine KQ.exitThen ?_
                    refine KQ.exitThen ?_
                    refine KQ.hit ?_
                    refine KQ.seq ?_
                    refine KC.exit ?_
                    refine KQ.exitThen ?_
                    refine KQ.hit ?_
                    refine KQ.again ((vb, mb)) ?_ ?_ ?_
                    · exact (Sub.cons rfl (Ext.sub (by repeat (first | exact Ext.refl _ _ | refine Ext.put rfl ?_ | refine Ext.drop rfl ?_))))
                    · show _ < _; first | omega | (simp only [List.length_drop] at *; omega)
                    · exact ⟨sn, vn, by show _ ≤ _; first | omega | (simp only [List.length_drop] at *; omega), o0⟩
              · intro hc46
                try simp only [decide_eq_true_eq, decide_eq_false_iff_not, Bool.not_eq_true', Bool.not_eq_false', Bool.and_eq_true, Bool.or_eq_false_iff] at hc46
                refine KC.skip ?_
                refine KQ.seq ?_
                refine KC.exit ?_
                refine KQ.exitThen ?_
                refine KQ.hit ?_
                refine KQ.again ((subV 1 (subV 1 (va) 1 (m).length) 8 ((m).drop 1).length, ((m).drop 1).drop 8)) ?_ ?_ ?_
                · exact (Sub.cons rfl (Ext.sub (by repeat (first | exact Ext.refl _ _ | refine Ext.put rfl ?_ | refine Ext.drop rfl ?_))))
                · show _ < _; first | omega | (simp only [List.length_drop] at *; omega)
                · exact ⟨sn, vn, by show _ ≤ _; first | omega | (simp only [List.length_drop] at *; omega), o0⟩
            · intro hg37
              try simp only [decide_eq_true_eq, decide_eq_false_iff_not, Bool.not_eq_true', Bool.not_eq_false', Bool.and_eq_true, Bool.or_eq_false_iff] at hg37
              refine KD.skip rfl rfl rfl ?_
              refine KD.skip rfl rfl rfl ?_
              refine KD.skip rfl rfl rfl ?_
              refine KD.skip rfl rfl rfl ?_
              refine KD.skip rfl rfl rfl ?_
              refine KD.skip rfl rfl rfl ?_
              refine KD.skip rfl rfl rfl ?_
              refine KD.skip rfl rfl rfl ?_
              refine KD.op (R.pick rfl rfl rfl) rfl rfl rfl ?_
              refine KD.nil ?_
              refine KQ.seq ?_
              refine KC.condF rfl ?_
              refine KC.skip ?_
              refine KQ.seq ?_
              refine KC.exit ?_
              refine KQ.exitThen ?_
              refine KQ.hit ?_
              refine KQ.again ((subV 1 (subV 1 (va) 1 (m).length) 8 ((m).drop 1).length, ((m).drop 1).drop 8)) ?_ ?_ ?_
              · exact (Sub.cons rfl (Ext.sub (by repeat (first | exact Ext.refl _ _ | refine Ext.put rfl ?_ | refine Ext.drop rfl ?_))))
              · show _ < _; first | omega | (simp only [List.length_drop] at *; omega)
              · exact ⟨sn, vn, by show _ ≤ _; first | omega | (simp only [List.length_drop] at *; omega), o0⟩
          · intro hc31
            try simp only [decide_eq_true_eq, decide_eq_false_iff_not, Bool.not_eq_true', Bool.not_eq_false', Bool.and_eq_true, Bool.or_eq_false_iff] at hc31
            refine KC.skip ?_
            refine KQ.seq ?_
            refine KC.exit ?_
            refine KQ.exitThen ?_
            refine KQ.hit ?_
            refine KQ.again ((subV 1 (va) 1 (m).length, (m).drop 1)) ?_ ?_ ?_
            · exact (Sub.cons rfl (Ext.sub (by repeat (first | exact Ext.refl _ _ | refine Ext.put rfl ?_ | refine Ext.drop rfl ?_))))
            · show _ < _; first | omega | (simp only [List.length_drop] at *; omega)
            · exact ⟨sn, vn, by show _ ≤ _; first | omega | (simp only [List.length_drop] at *; omega), o0⟩
        · intro hg26
          try simp only [decide_eq_true_eq, decide_eq_false_iff_not, Bool.not_eq_true', Bool.not_eq_false', Bool.and_eq_true, Bool.or_eq_false_iff] at hg26
          refine KL.skip rfl rfl rfl ?_
          refine KL.skip rfl rfl rfl ?_
          refine KL.skip rfl rfl rfl ?_
          refine KL.skip rfl rfl rfl ?_
          refine KL.op (R.pick rfl rfl rfl) rfl rfl rfl ?_
          refine KL.nil ?_
          refine KQ.seq ?_
          refine KC.condF rfl ?_
          refine KC.skip ?_
          refine KQ.seq ?_
          refine KC.exit ?_
          refine KQ.exitThen ?_
          refine KQ.hit ?_
          refine KQ.again ((subV 1 (va) 1 (m).length, (m).drop 1)) ?_ ?_ ?_
          · exact (Sub.cons rfl (Ext.sub (by repeat (first | exact Ext.refl _ _ | refine Ext.put rfl ?_ | refine Ext.drop rfl ?_))))
          · show _ < _; first | omega | (simp only [List.length_drop] at *; omega)
          · exact ⟨sn, vn, by show _ ≤ _; first | omega | (simp only [List.length_drop] at *; omega), o0⟩
      · intro hc20
        try simp only [decide_eq_true_eq, decide_eq_false_iff_not, Bool.not_eq_true', Bool.not_eq_false', Bool.and_eq_true, Bool.or_eq_false_iff] at hc20
        have q0 := (sa.int 0 (by omega)).2
        have ha := Utf.ftk q0 hc20
        have hb := Utf.ftc q0
        have q1 := q0
        dsimp only [InR] at q1
        refine KC.skip ?_
        refine KQ.seq ?_
        refine KC.seq ?_
        refine KC.region ?_
        refine KL.op (R.move rfl rfl) rfl rfl rfl ?_
        refine KL.op (R.indexAddrArr (j := (m.getD 0 default).toNat) rfl Tryd.underlying72 sz5 rfl rfl (by omega) (by omega)) rfl rfl rfl ?_
        refine KL.op (R.load rfl Tryd.underlying5 rfl rfl (hTa.at q0)) rfl rfl rfl ?_
        refine KL.op (R.assign rfl rfl) rfl rfl rfl ?_
        refine KL.nil ?_
        refine KQ.seq ?_
        refine KC.seq ?_
        refine KC.region ?_
        refine KL.op (R.move rfl rfl) rfl rfl rfl ?_
        refine KL.op ((R.bits rfl rfl rfl rfl).val (congrArg (Value.int .u8) hb.2)) rfl rfl rfl ?_
        refine KL.op (R.convI rfl Tryd.underlying5 Tryd.underlying3 rfl (by dsimp only [InR]; omega)) rfl rfl rfl ?_
        refine KL.op (R.assign rfl rfl) rfl rfl rfl ?_
        refine KL.nil ?_
        refine KQ.seq ?_
        refine KC.seq ?_
        refine KC.region ?_
        refine KL.op (R.move rfl rfl) rfl rfl rfl ?_
        refine KL.op ((R.shr rfl rfl rfl (by omega)).val (congrArg (Value.int .u8) (Utf.shr4 _))) rfl rfl rfl ?_
        refine KL.op (R.indexAddrArr (j := Utf.ft (m.getD 0 default) / 16) rfl Tryd.underlying75 sz74 rfl rfl rfl ha.2) rfl rfl rfl ?_
        refine KL.op (R.loadAgg rfl Tryd.underlying74 rfl sz74 rfl (hTa.acc ha.2) rfl) rfl rfl rfl ?_
        refine KL.opM (M.alloc (cs := [.int .u8 0, .int .u8 0]) rfl zr74 rfl) rfl rfl rfl ?_
        rintro _ H3 ⟨rfl, n3⟩
        have z3 := n3.2.1
        have o0 := o0.trans n3.1
        have sa := sa.old n3.1
        have ox := ox.trans n3.1
        have b3 := n3.2.2
        have ba := b3
        refine KL.opS (S.storeAgg (us := [.int .u8 (Utf.lo (m.getD 0 default)), .int .u8 (Utf.hi (m.getD 0 default))]) rfl sz74 rfl rfl (rfl) (by simp [Value.oneCell']) ba (by simp)) rfl rfl ?_
        rintro H4 ⟨u4, b4⟩
        have o0 := o0.upd u4 (by omega)
        have zu4 := u4.1
        have ox := ox.upd u4 (by omega)
        have ba := b4
        have sa := sa0.old ox
        refine KL.nil ?_
        refine KQ.seq ?_
        refine KC.seq ?_
        refine KC.region ?_
        refine KL.op (R.move rfl rfl) rfl rfl rfl ?_
        refine KL.nil ?_
        refine KQ.seq ?_
        refine KC.block ?_
        refine KC.seq ?_
        refine KC.region ?_
        refine KL.op (R.eql rfl rfl rfl) rfl rfl rfl ?_
        refine KL.op (R.assign rfl rfl) rfl rfl rfl ?_
        refine KL.nil ?_
        refine KQ.seq ?_
        refine KC.iteL rfl ?_ ?_
        · intro hc83
          try simp only [decide_eq_true_eq, decide_eq_false_iff_not, Bool.not_eq_true', Bool.not_eq_false', Bool.and_eq_true, Bool.or_eq_false_iff] at hc83
          refine KC.seq ?_
          refine KC.seq ?_
          refine KC.quiet (by kernel_rfl) (by kernel_rfl) ?_
          refine KD.op (R.move rfl rfl) rfl rfl rfl ?_
          refine KD.op ((by first | exact R.lenS rfl Tryd.underlying22 rfl (by first | exact sa | assumption) | exact R.len (ty := 0) rfl Tryd.underlying22 rfl)) rfl rfl rfl ?_
          refine KD.op (R.lss rfl rfl rfl) rfl rfl rfl ?_
          refine KD.op (R.move rfl rfl) rfl rfl rfl ?_
          refine KD.case (d := 88) rfl ?_ ?_
          · intro hg88
            try simp only [decide_eq_true_eq, decide_eq_false_iff_not, Bool.not_eq_true', Bool.not_eq_false', Bool.and_eq_true, Bool.or_eq_false_iff] at hg88
            refine KD.skip rfl rfl rfl ?_
            refine KD.skip rfl rfl rfl ?_
            refine KD.skip rfl rfl rfl ?_
            refine KD.skip rfl rfl rfl ?_
            refine KD.skip rfl rfl rfl ?_
            refine KD.skip rfl rfl rfl ?_
            refine KD.op (R.pick rfl rfl rfl) rfl rfl rfl ?_
            refine KD.op (R.move rfl rfl) rfl rfl rfl ?_
            refine KD.skip rfl rfl rfl ?_
            refine KD.skip rfl rfl rfl ?_
            refine KD.skip rfl rfl rfl ?_
            refine KD.skip rfl rfl rfl ?_
            refine KD.skip rfl rfl rfl ?_
            refine KD.skip rfl rfl rfl ?_
            refine KD.op (R.pick rfl rfl rfl) rfl rfl rfl ?_
            refine KD.nil ?_
            refine KQ.seq ?_
            refine KC.condT rfl ?_
            refine KC.seq ?_
            refine KC.region ?_
            refine KL.op (R.assign rfl rfl) rfl rfl rfl ?_
            refine KL.nil ?_
            refine KQ.seq ?_
            refine KC.ret ?_
            refine KQ.retThen ?_
            refine KQ.retBlock ?_
            refine KQ.retBlock ?_
            refine KQ.retThen ?_
            refine KQ.retBlock ?_
            refine KQ.retThen ?_
            refine KQ.ofRet ?_
            refine KQ.fin1 Tryd.results31 rfl ?_
            first
              | exact ⟨congrArg Value.bool (show true = Utf.valid l by rw [← hv]; exact (Utf.valid_nil (by omega)).symm), o0⟩
              | exact ⟨congrArg Value.bool (show false = Utf.valid l by rw [← hv]; exact (Utf.bad2 (by omega) hc20 (by omega) (by omega)).symm), o0⟩
              | exact ⟨congrArg Value.bool (show false = Utf.valid l by rw [← hv]; exact (Utf.bad3 (by omega) hc20 (by omega) (by omega)).symm), o0⟩
              | exact ⟨congrArg Value.bool (show false = Utf.valid l by rw [← hv]; exact (Utf.bad4 (by omega) hc20 (by omega) (by omega)).symm), o0⟩
              | exact ⟨congrArg Value.bool (show false = Utf.valid l by rw [← hv]; exact (Utf.bad1 (by omega) hc20 (by omega)).symm), o0⟩
          · intro hg88
            try simp only [decide_eq_true_eq, decide_eq_false_iff_not, Bool.not_eq_true', Bool.not_eq_false', Bool.and_eq_true, Bool.or_eq_false_iff] at hg88
            refine KD.op (R.move rfl rfl) rfl rfl rfl ?_
            refine KD.op (R.index1 (j := 1) rfl Tryd.underlying22 sz5 rfl rfl sa rfl (by omega)) rfl rfl rfl ?_
            refine KD.op (R.load rfl Tryd.underlying5 rfl rfl ((sa.int 1 (by omega)).1)) rfl rfl rfl ?_
            refine KD.op ((by first | exact R.fieldAddr rfl Tryd.underlying74 rfl rfl sz5 rfl | exact R.fieldAddrP rfl Tryd.underlying74 rfl rfl sz5 rfl)) rfl rfl rfl ?_
            refine KD.op (R.load rfl Tryd.underlying5 rfl rfl (by first | exact cell_of ba rfl | assumption)) rfl rfl rfl ?_
            refine KD.op (R.lss rfl rfl rfl) rfl rfl rfl ?_
            refine KD.op (R.pick rfl rfl rfl) rfl rfl rfl ?_
            refine KD.op (R.move rfl rfl) rfl rfl rfl ?_
            refine KD.case (d := 96) rfl ?_ ?_
            · intro hg96
              try simp only [decide_eq_true_eq, decide_eq_false_iff_not, Bool.not_eq_true', Bool.not_eq_false', Bool.and_eq_true, Bool.or_eq_false_iff] at hg96
              refine KD.skip rfl rfl rfl ?_
              refine KD.skip rfl rfl rfl ?_
              refine KD.skip rfl rfl rfl ?_
              refine KD.skip rfl rfl rfl ?_
              refine KD.skip rfl rfl rfl ?_
              refine KD.skip rfl rfl rfl ?_
              refine KD.op (R.pick rfl rfl rfl) rfl rfl rfl ?_
              refine KD.nil ?_
              refine KQ.seq ?_
              refine KC.condT rfl ?_
              refine KC.seq ?_
              refine KC.region ?_
              refine KL.op (R.assign rfl rfl) rfl rfl rfl ?_
              refine KL.nil ?_
              refine KQ.seq ?_
              refine KC.ret ?_
              refine KQ.retThen ?_
              refine KQ.retBlock ?_
              refine KQ.retBlock ?_
              refine KQ.retThen ?_
              refine KQ.retBlock ?_
              refine KQ.retThen ?_
              refine KQ.ofRet ?_
              refine KQ.fin1 Tryd.results31 rfl ?_
              first
                | exact ⟨congrArg Value.bool (show true = Utf.valid l by rw [← hv]; exact (Utf.valid_nil (by omega)).symm), o0⟩
                | exact ⟨congrArg Value.bool (show false = Utf.valid l by rw [← hv]; exact (Utf.bad2 (by omega) hc20 (by omega) (by omega)).symm), o0⟩
                | exact ⟨congrArg Value.bool (show false = Utf.valid l by rw [← hv]; exact (Utf.bad3 (by omega) hc20 (by omega) (by omega)).symm), o0⟩
                | exact ⟨congrArg Value.bool (show false = Utf.valid l by rw [← hv]; exact (Utf.bad4 (by omega) hc20 (by omega) (by omega)).symm), o0⟩
                | exact ⟨congrArg Value.bool (show false = Utf.valid l by rw [← hv]; exact (Utf.bad1 (by omega) hc20 (by omega)).symm), o0⟩
            · intro hg96
              try simp only [decide_eq_true_eq, decide_eq_false_iff_not, Bool.not_eq_true', Bool.not_eq_false', Bool.and_eq_true, Bool.or_eq_false_iff] at hg96
              refine KD.op ((by first | exact R.fieldAddr rfl Tryd.underlying74 rfl rfl sz5 rfl | exact R.fieldAddrP rfl Tryd.underlying74 rfl rfl sz5 rfl)) rfl rfl rfl ?_
              refine KD.op (R.load rfl Tryd.underlying5 rfl rfl (by first | exact cell_of ba rfl | assumption)) rfl rfl rfl ?_
              refine KD.op (R.move rfl rfl) rfl rfl rfl ?_
              refine KD.op (R.index1 (j := 1) rfl Tryd.underlying22 sz5 rfl rfl sa rfl (by omega)) rfl rfl rfl ?_
              refine KD.op (R.load rfl Tryd.underlying5 rfl rfl ((sa.int 1 (by omega)).1)) rfl rfl rfl ?_
              refine KD.op (R.lss rfl rfl rfl) rfl rfl rfl ?_
              refine KD.op (R.pick rfl rfl rfl) rfl rfl rfl ?_
              refine KD.nil ?_
              refine KQ.seq ?_
              refine KC.iteL rfl ?_ ?_
              · intro hc103
                try simp only [decide_eq_true_eq, decide_eq_false_iff_not, Bool.not_eq_true', Bool.not_eq_false', Bool.and_eq_true, Bool.or_eq_false_iff] at hc103
                refine KC.seq ?_
                refine KC.region ?_
                refine KL.op (R.assign rfl rfl) rfl rfl rfl ?_
                refine KL.nil ?_
                refine KQ.seq ?_
                refine KC.ret ?_
                refine KQ.retThen ?_
                refine KQ.retBlock ?_
                refine KQ.retBlock ?_
                refine KQ.retThen ?_
                refine KQ.retBlock ?_
                refine KQ.retThen ?_
                refine KQ.ofRet ?_
                refine KQ.fin1 Tryd.results31 rfl ?_
                first
                  | exact ⟨congrArg Value.bool (show true = Utf.valid l by rw [← hv]; exact (Utf.valid_nil (by omega)).symm), o0⟩
                  | exact ⟨congrArg Value.bool (show false = Utf.valid l by rw [← hv]; exact (Utf.bad2 (by omega) hc20 (by omega) (by omega)).symm), o0⟩
                  | exact ⟨congrArg Value.bool (show false = Utf.valid l by rw [← hv]; exact (Utf.bad3 (by omega) hc20 (by omega) (by omega)).symm), o0⟩
                  | exact ⟨congrArg Value.bool (show false = Utf.valid l by rw [← hv]; exact (Utf.bad4 (by omega) hc20 (by omega) (by omega)).symm), o0⟩
                  | exact ⟨congrArg Value.bool (show false = Utf.valid l by rw [← hv]; exact (Utf.bad1 (by omega) hc20 (by omega)).symm), o0⟩
              · intro hc103
                try simp only [decide_eq_true_eq, decide_eq_false_iff_not, Bool.not_eq_true', Bool.not_eq_false', Bool.and_eq_true, Bool.or_eq_false_iff] at hc103
                refine KC.skip ?_
                refine KQ.seq ?_
                refine KC.region ?_
                refine KL.op (R.move rfl rfl) rfl rfl rfl ?_
                refine KL.op (R.slice rfl Tryd.underlying22 sz5 rfl sa (bnd.mk (r := 2) rfl rfl) bnd.no (by first | omega | (simp only [List.length_drop] at *; omega)) (Nat.le_refl _)) rfl rfl rfl ?_
                have sc : Sl 1 (EInt .u8) H4 (subV 1 (va) 2 (m).length) ((m).drop 2) := sa.tail (by first | omega | (simp only [List.length_drop] at *; omega))
                have vsc : Utf.valid ((m).drop 2) = Utf.valid l := (Utf.good2 (by omega) hc20 (by omega) (by omega)).trans hv
                have sn := sc
                have vn := vsc
                refine KL.op (R.assign rfl rfl) rfl rfl rfl ?_
                refine KL.nil ?_
                refine KQ.normBlock ?_
                refine KQ.normBlock ?_
                refine KQ.again ((subV 1 (va) 2 (m).length, (m).drop 2)) ?_ ?_ ?_
                · exact (Sub.cons rfl (Ext.sub (by repeat (first | exact Ext.refl _ _ | refine Ext.put rfl ?_ | refine Ext.drop rfl ?_))))
                · show _ < _; first | omega | (simp only [List.length_drop] at *; omega)
                · exact ⟨sn, vn, by show _ ≤ _; first | omega | (simp only [List.length_drop] at *; omega), o0⟩
        · intro hc83
          try simp only [decide_eq_true_eq, decide_eq_false_iff_not, Bool.not_eq_true', Bool.not_eq_false', Bool.and_eq_true, Bool.or_eq_false_iff] at hc83
          refine KC.seq ?_
          refine KC.region ?_
          refine KL.op (R.eql rfl rfl rfl) rfl rfl rfl ?_
          refine KL.op (R.assign rfl rfl) rfl rfl rfl ?_
          refine KL.nil ?_
          refine KQ.seq ?_
          refine KC.iteL rfl ?_ ?_
          · intro hc106
            try simp only [decide_eq_true_eq, decide_eq_false_iff_not, Bool.not_eq_true', Bool.not_eq_false', Bool.and_eq_true, Bool.or_eq_false_iff] at hc106
            refine KC.seq ?_
            refine KC.seq ?_
            refine KC.quiet (by kernel_rfl) (by kernel_rfl) ?_
            refine KD.op (R.move rfl rfl) rfl rfl rfl ?_
            refine KD.op ((by first | exact R.lenS rfl Tryd.underlying22 rfl (by first | exact sa | assumption) | exact R.len (ty := 0) rfl Tryd.underlying22 rfl)) rfl rfl rfl ?_
            refine KD.op (R.lss rfl rfl rfl) rfl rfl rfl ?_
            refine KD.op (R.move rfl rfl) rfl rfl rfl ?_
            refine KD.case (d := 111) rfl ?_ ?_
            · intro hg111
              try simp only [decide_eq_true_eq, decide_eq_false_iff_not, Bool.not_eq_true', Bool.not_eq_false', Bool.and_eq_true, Bool.or_eq_false_iff] at hg111
              refine KD.skip rfl rfl rfl ?_
              refine KD.skip rfl rfl rfl ?_
              refine KD.skip rfl rfl rfl ?_
              refine KD.skip rfl rfl rfl ?_
              refine KD.skip rfl rfl rfl ?_
              refine KD.skip rfl rfl rfl ?_
              refine KD.op (R.pick rfl rfl rfl) rfl rfl rfl ?_
              refine KD.op (R.move rfl rfl) rfl rfl rfl ?_
              refine KD.skip rfl rfl rfl ?_
              refine KD.skip rfl rfl rfl ?_
              refine KD.skip rfl rfl rfl ?_
              refine KD.skip rfl rfl rfl ?_
              refine KD.skip rfl rfl rfl ?_
              refine KD.skip rfl rfl rfl ?_
              refine KD.op (R.pick rfl rfl rfl) rfl rfl rfl ?_
              refine KD.op (R.move rfl rfl) rfl rfl rfl ?_
              refine KD.skip rfl rfl rfl ?_
              refine KD.skip rfl rfl rfl ?_
              refine KD.skip rfl rfl rfl ?_
              refine KD.skip rfl rfl rfl ?_
              refine KD.op (R.pick rfl rfl rfl) rfl rfl rfl ?_
              refine KD.op (R.move rfl rfl) rfl rfl rfl ?_
              refine KD.skip rfl rfl rfl ?_
              refine KD.skip rfl rfl rfl ?_
              refine KD.skip rfl rfl rfl ?_
              refine KD.skip rfl rfl rfl ?_
              refine KD.op (R.pick rfl rfl rfl) rfl rfl rfl ?_
              refine KD.nil ?_
              refine KQ.seq ?_
              refine KC.condT rfl ?_
              refine KC.seq ?_
              refine KC.region ?_
              refine KL.op (R.assign rfl rfl) rfl rfl rfl ?_
              refine KL.nil ?_
              refine KQ.seq ?_
              refine KC.ret ?_
              refine KQ.retThen ?_
              refine KQ.retBlock ?_
              refine KQ.retBlock ?_
              refine KQ.retThen ?_
              refine KQ.retBlock ?_
              refine KQ.retThen ?_
              refine KQ.ofRet ?_
              refine KQ.fin1 Tryd.results31 rfl ?_
              first
                | exact ⟨congrArg Value.bool (show true = Utf.valid l by rw [← hv]; exact (Utf.valid_nil (by omega)).symm), o0⟩
                | exact ⟨congrArg Value.bool (show false = Utf.valid l by rw [← hv]; exact (Utf.bad2 (by omega) hc20 (by omega) (by omega)).symm), o0⟩
                | exact ⟨congrArg Value.bool (show false = Utf.valid l by rw [← hv]; exact (Utf.bad3 (by omega) hc20 (by omega) (by omega)).symm), o0⟩
                | exact ⟨congrArg Value.bool (show false = Utf.valid l by rw [← hv]; exact (Utf.bad4 (by omega) hc20 (by omega) (by omega)).symm), o0⟩
                | exact ⟨congrArg Value.bool (show false = Utf.valid l by rw [← hv]; exact (Utf.bad1 (by omega) hc20 (by omega)).symm), o0⟩
            · intro hg111
              try simp only [decide_eq_true_eq, decide_eq_false_iff_not, Bool.not_eq_true', Bool.not_eq_false', Bool.and_eq_true, Bool.or_eq_false_iff] at hg111
              refine KD.op (R.move rfl rfl) rfl rfl rfl ?_
              refine KD.op (R.index1 (j := 1) rfl Tryd.underlying22 sz5 rfl rfl sa rfl (by omega)) rfl rfl rfl ?_
              refine KD.op (R.load rfl Tryd.underlying5 rfl rfl ((sa.int 1 (by omega)).1)) rfl rfl rfl ?_
              refine KD.op ((by first | exact R.fieldAddr rfl Tryd.underlying74 rfl rfl sz5 rfl | exact R.fieldAddrP rfl Tryd.underlying74 rfl rfl sz5 rfl)) rfl rfl rfl ?_
              refine KD.op (R.load rfl Tryd.underlying5 rfl rfl (by first | exact cell_of ba rfl | assumption)) rfl rfl rfl ?_
              refine KD.op (R.lss rfl rfl rfl) rfl rfl rfl ?_
              refine KD.op (R.pick rfl rfl rfl) rfl rfl rfl ?_
              refine KD.op (R.move rfl rfl) rfl rfl rfl ?_
              refine KD.case (d := 119) rfl ?_ ?_
              · intro hg119
                try simp only [decide_eq_true_eq, decide_eq_false_iff_not, Bool.not_eq_true', Bool.not_eq_false', Bool.and_eq_true, Bool.or_eq_false_iff] at hg119
                refine KD.skip rfl rfl rfl ?_
                refine KD.skip rfl rfl rfl ?_
                refine KD.skip rfl rfl rfl ?_
                refine KD.skip rfl rfl rfl ?_
                refine KD.skip rfl rfl rfl ?_
                refine KD.skip rfl rfl rfl ?_
                refine KD.op (R.pick rfl rfl rfl) rfl rfl rfl ?_
                refine KD.op (R.move rfl rfl) rfl rfl rfl ?_
                refine KD.skip rfl rfl rfl ?_
                refine KD.skip rfl rfl rfl ?_
                refine KD.skip rfl rfl rfl ?_
                refine KD.skip rfl rfl rfl ?_
                refine KD.op (R.pick rfl rfl rfl) rfl rfl rfl ?_
                refine KD.op (R.move rfl rfl) rfl rfl rfl ?_
                refine KD.skip rfl rfl rfl ?_
                refine KD.skip rfl rfl rfl ?_
                refine KD.skip rfl rfl rfl ?_
                refine KD.skip rfl rfl rfl ?_
                refine KD.op (R.pick rfl rfl rfl) rfl rfl rfl ?_
                refine KD.nil ?_
                refine KQ.seq ?_
                refine KC.condT rfl ?_
                refine KC.seq ?_
                refine KC.region ?_
                refine KL.op (R.assign rfl rfl) rfl rfl rfl ?_
                refine KL.nil ?_
                refine KQ.seq ?_
                refine KC.ret ?_
                refine KQ.retThen ?_
                refine KQ.retBlock ?_
                refine KQ.retBlock ?_
                refine KQ.retThen ?_
                refine KQ.retBlock ?_
                refine KQ.retThen ?_
                refine KQ.ofRet ?_
                refine KQ.fin1 Tryd.results31 rfl ?_
                first
                  | exact ⟨congrArg Value.bool (show true = Utf.valid l by rw [← hv]; exact (Utf.valid_nil (by omega)).symm), o0⟩
                  | exact ⟨congrArg Value.bool (show false = Utf.valid l by rw [← hv]; exact (Utf.bad2 (by omega) hc20 (by omega) (by omega)).symm), o0⟩
                  | exact ⟨congrArg Value.bool (show false = Utf.valid l by rw [← hv]; exact (Utf.bad3 (by omega) hc20 (by omega) (by omega)).symm), o0⟩
                  | exact ⟨congrArg Value.bool (show false = Utf.valid l by rw [← hv]; exact (Utf.bad4 (by omega) hc20 (by omega) (by omega)).symm), o0⟩
                  | exact ⟨congrArg Value.bool (show false = Utf.valid l by rw [← hv]; exact (Utf.bad1 (by omega) hc20 (by omega)).symm), o0⟩
              · intro hg119
                try simp only [decide_eq_true_eq, decide_eq_false_iff_not, Bool.not_eq_true', Bool.not_eq_false', Bool.and_eq_true, Bool.or_eq_false_iff] at hg119
                refine KD.op ((by first | exact R.fieldAddr rfl Tryd.underlying74 rfl rfl sz5 rfl | exact R.fieldAddrP rfl Tryd.underlying74 rfl rfl sz5 rfl)) rfl rfl rfl ?_
                refine KD.op (R.load rfl Tryd.underlying5 rfl rfl (by first | exact cell_of ba rfl | assumption)) rfl rfl rfl ?_
                refine KD.op (R.move rfl rfl) rfl rfl rfl ?_
                refine KD.op (R.index1 (j := 1) rfl Tryd.underlying22 sz5 rfl rfl sa rfl (by omega)) rfl rfl rfl ?_
                refine KD.op (R.load rfl Tryd.underlying5 rfl rfl ((sa.int 1 (by omega)).1)) rfl rfl rfl ?_
                refine KD.op (R.lss rfl rfl rfl) rfl rfl rfl ?_
                refine KD.op (R.pick rfl rfl rfl) rfl rfl rfl ?_
                refine KD.op (R.move rfl rfl) rfl rfl rfl ?_
                refine KD.case (d := 127) rfl ?_ ?_
                · intro hg127
                  try simp only [decide_eq_true_eq, decide_eq_false_iff_not, Bool.not_eq_true', Bool.not_eq_false', Bool.and_eq_true, Bool.or_eq_false_iff] at hg127
                  refine KD.skip rfl rfl rfl ?_
                  refine KD.skip rfl rfl rfl ?_
                  refine KD.skip rfl rfl rfl ?_
                  refine KD.skip rfl rfl rfl ?_
                  refine KD.op (R.pick rfl rfl rfl) rfl rfl rfl ?_
                  refine KD.op (R.move rfl rfl) rfl rfl rfl ?_
                  refine KD.skip rfl rfl rfl ?_
                  refine KD.skip rfl rfl rfl ?_
                  refine KD.skip rfl rfl rfl ?_
                  refine KD.skip rfl rfl rfl ?_
                  refine KD.op (R.pick rfl rfl rfl) rfl rfl rfl ?_
                  refine KD.nil ?_
                  refine KQ.seq ?_
                  refine KC.condT rfl ?_
                  refine KC.seq ?_
                  refine KC.region ?_
                  refine KL.op (R.assign rfl rfl) rfl rfl rfl ?_
                  refine KL.nil ?_
                  refine KQ.seq ?_
                  refine KC.ret ?_
                  refine KQ.retThen ?_
                  refine KQ.retBlock ?_
                  refine KQ.retBlock ?_
                  refine KQ.retThen ?_
                  refine KQ.retBlock ?_
                  refine KQ.retThen ?_
                  refine KQ.ofRet ?_
                  refine KQ.fin1 Tryd.results31 rfl ?_
                  first
                    | exact ⟨congrArg Value.bool (show true = Utf.valid l by rw [← hv]; exact (Utf.valid_nil (by omega)).symm), o0⟩
                    | exact ⟨congrArg Value.bool (show false = Utf.valid l by rw [← hv]; exact (Utf.bad2 (by omega) hc20 (by omega) (by omega)).symm), o0⟩
                    | exact ⟨congrArg Value.bool (show false = Utf.valid l by rw [← hv]; exact (Utf.bad3 (by omega) hc20 (by omega) (by omega)).symm), o0⟩
                    | exact ⟨congrArg Value.bool (show false = Utf.valid l by rw [← hv]; exact (Utf.bad4 (by omega) hc20 (by omega) (by omega)).symm), o0⟩
                    | exact ⟨congrArg Value.bool (show false = Utf.valid l by rw [← hv]; exact (Utf.bad1 (by omega) hc20 (by omega)).symm), o0⟩
                · intro hg127
                  try simp only [decide_eq_true_eq, decide_eq_false_iff_not, Bool.not_eq_true', Bool.not_eq_false', Bool.and_eq_true, Bool.or_eq_false_iff] at hg127
                  refine KD.op (R.move rfl rfl) rfl rfl rfl ?_
                  refine KD.op (R.index1 (j := 2) rfl Tryd.underlying22 sz5 rfl rfl sa rfl (by omega)) rfl rfl rfl ?_
                  refine KD.op (R.load rfl Tryd.underlying5 rfl rfl ((sa.int 2 (by omega)).1)) rfl rfl rfl ?_
                  refine KD.op (R.lss rfl rfl rfl) rfl rfl rfl ?_
                  refine KD.op (R.pick rfl rfl rfl) rfl rfl rfl ?_
                  refine KD.op (R.move rfl rfl) rfl rfl rfl ?_
                  refine KD.case (d := 133) rfl ?_ ?_
                  · intro hg133
                    try simp only [decide_eq_true_eq, decide_eq_false_iff_not, Bool.not_eq_true', Bool.not_eq_false', Bool.and_eq_true, Bool.or_eq_false_iff] at hg133
                    refine KD.skip rfl rfl rfl ?_
                    refine KD.skip rfl rfl rfl ?_
                    refine KD.skip rfl rfl rfl ?_
                    refine KD.skip rfl rfl rfl ?_
                    refine KD.op (R.pick rfl rfl rfl) rfl rfl rfl ?_
                    refine KD.nil ?_
                    refine KQ.seq ?_
                    refine KC.condT rfl ?_
                    refine KC.seq ?_
                    refine KC.region ?_
                    refine KL.op (R.assign rfl rfl) rfl rfl rfl ?_
                    refine KL.nil ?_
                    refine KQ.seq ?_
                    refine KC.ret ?_
                    refine KQ.retThen ?_
                    refine KQ.retBlock ?_
                    refine KQ.retBlock ?_
                    refine KQ.retThen ?_
                    refine KQ.retBlock ?_
                    refine KQ.retThen ?_
                    refine KQ.ofRet ?_
                    refine KQ.fin1 Tryd.results31 rfl ?_
                    first
                      | exact ⟨congrArg Value.bool (show true = Utf.valid l by rw [← hv]; exact (Utf.valid_nil (by omega)).symm), o0⟩
                      | exact ⟨congrArg Value.bool (show false = Utf.valid l by rw [← hv]; exact (Utf.bad2 (by omega) hc20 (by omega) (by omega)).symm), o0⟩
                      | exact ⟨congrArg Value.bool (show false = Utf.valid l by rw [← hv]; exact (Utf.bad3 (by omega) hc20 (by omega) (by omega)).symm), o0⟩
                      | exact ⟨congrArg Value.bool (show false = Utf.valid l by rw [← hv]; exact (Utf.bad4 (by omega) hc20 (by omega) (by omega)).symm), o0⟩
                      | exact ⟨congrArg Value.bool (show false = Utf.valid l by rw [← hv]; exact (Utf.bad1 (by omega) hc20 (by omega)).symm), o0⟩
                  · intro hg133
                    try simp only [decide_eq_true_eq, decide_eq_false_iff_not, Bool.not_eq_true', Bool.not_eq_false', Bool.and_eq_true, Bool.or_eq_false_iff] at hg133
                    refine KD.op (R.move rfl rfl) rfl rfl rfl ?_
                    refine KD.op (R.index1 (j := 2) rfl Tryd.underlying22 sz5 rfl rfl sa rfl (by omega)) rfl rfl rfl ?_
                    refine KD.op (R.load rfl Tryd.underlying5 rfl rfl ((sa.int 2 (by omega)).1)) rfl rfl rfl ?_
                    refine KD.op (R.lss rfl rfl rfl) rfl rfl rfl ?_
                    refine KD.op (R.pick rfl rfl rfl) rfl rfl rfl ?_
                    refine KD.nil ?_
                    refine KQ.seq ?_
                    refine KC.iteL rfl ?_ ?_
                    · intro hc138
                      try simp only [decide_eq_true_eq, decide_eq_false_iff_not, Bool.not_eq_true', Bool.not_eq_false', Bool.and_eq_true, Bool.or_eq_false_iff] at hc138
                      refine KC.seq ?_
                      refine KC.region ?_
                      refine KL.op (R.assign rfl rfl) rfl rfl rfl ?_
                      refine KL.nil ?_
                      refine KQ.seq ?_
                      refine KC.ret ?_
                      refine KQ.retThen ?_
                      refine KQ.retBlock ?_
                      refine KQ.retBlock ?_
                      refine KQ.retThen ?_
                      refine KQ.retBlock ?_
                      refine KQ.retThen ?_
                      refine KQ.ofRet ?_
                      refine KQ.fin1 Tryd.results31 rfl ?_
                      first
                        | exact ⟨congrArg Value.bool (show true = Utf.valid l by rw [← hv]; exact (Utf.valid_nil (by omega)).symm), o0⟩
                        | exact ⟨congrArg Value.bool (show false = Utf.valid l by rw [← hv]; exact (Utf.bad2 (by omega) hc20 (by omega) (by omega)).symm), o0⟩
                        | exact ⟨congrArg Value.bool (show false = Utf.valid l by rw [← hv]; exact (Utf.bad3 (by omega) hc20 (by omega) (by omega)).symm), o0⟩
                        | exact ⟨congrArg Value.bool (show false = Utf.valid l by rw [← hv]; exact (Utf.bad4 (by omega) hc20 (by omega) (by omega)).symm), o0⟩
                        | exact ⟨congrArg Value.bool (show false = Utf.valid l by rw [← hv]; exact (Utf.bad1 (by omega) hc20 (by omega)).symm), o0⟩
                    · intro hc138
                      try simp only [decide_eq_true_eq, decide_eq_false_iff_not, Bool.not_eq_true', Bool.not_eq_false', Bool.and_eq_true, Bool.or_eq_false_iff] at hc138
                      refine KC.skip ?_
                      refine KQ.seq ?_
                      refine KC.region ?_
                      refine KL.op (R.move rfl rfl) rfl rfl rfl ?_
                      refine KL.op (R.slice rfl Tryd.underlying22 sz5 rfl sa (bnd.mk (r := 3) rfl rfl) bnd.no (by first | omega | (simp only [List.length_drop] at *; omega)) (Nat.le_refl _)) rfl rfl rfl ?_
                      have sc : Sl 1 (EInt .u8) H4 (subV 1 (va) 3 (m).length) ((m).drop 3) := sa.tail (by first | omega | (simp only [List.length_drop] at *; omega))
                      have vsc : Utf.valid ((m).drop 3) = Utf.valid l := (Utf.good3 (by omega) hc20 (by omega) (by omega)).trans hv
                      have sn := sc
                      have vn := vsc
                      refine KL.op (R.assign rfl rfl) rfl rfl rfl ?_
                      refine KL.nil ?_
                      refine KQ.normBlock ?_
                      refine KQ.normBlock ?_
                      refine KQ.again ((subV 1 (va) 3 (m).length, (m).drop 3)) ?_ ?_ ?_
                      · exact (Sub.cons rfl (Ext.sub (by repeat (first | exact Ext.refl _ _ | refine Ext.put rfl ?_ | refine Ext.drop rfl ?_))))
                      · show _ < _; first | omega | (simp only [List.length_drop] at *; omega)
                      · exact ⟨sn, vn, by show _ ≤ _; first | omega | (simp only [List.length_drop] at *; omega), o0⟩
          · intro hc106
            try simp only [decide_eq_true_eq, decide_eq_false_iff_not, Bool.not_eq_true', Bool.not_eq_false', Bool.and_eq_true, Bool.or_eq_false_iff] at hc106
            refine KC.seq ?_
            refine KC.region ?_
            refine KL.op (R.eql rfl rfl rfl) rfl rfl rfl ?_
            refine KL.op (R.assign rfl rfl) rfl rfl rfl ?_
            refine KL.nil ?_
            refine KQ.seq ?_
            refine KC.iteL rfl ?_ ?_
            · intro hc141
              try simp only [decide_eq_true_eq, decide_eq_false_iff_not, Bool.not_eq_true', Bool.not_eq_false', Bool.and_eq_true, Bool.or_eq_false_iff] at hc141
              refine KC.seq ?_
              refine KC.seq ?_
              refine KC.quiet (by kernel_rfl) (by kernel_rfl) ?_
              refine KD.op (R.move rfl rfl) rfl rfl rfl ?_
              refine KD.op ((by first | exact R.lenS rfl Tryd.underlying22 rfl (by first | exact sa | assumption) | exact R.len (ty := 0) rfl Tryd.underlying22 rfl)) rfl rfl rfl ?_
              refine KD.op (R.lss rfl rfl rfl) rfl rfl rfl ?_
              refine KD.op (R.move rfl rfl) rfl rfl rfl ?_
              refine KD.case (d := 146) rfl ?_ ?_
              · intro hg146
                try simp only [decide_eq_true_eq, decide_eq_false_iff_not, Bool.not_eq_true', Bool.not_eq_false', Bool.and_eq_true, Bool.or_eq_false_iff] at hg146
                refine KD.skip rfl rfl rfl ?_
                refine KD.skip rfl rfl rfl ?_
                refine KD.skip rfl rfl rfl ?_
                refine KD.skip rfl rfl rfl ?_
                refine KD.skip rfl rfl rfl ?_
                refine KD.skip rfl rfl rfl ?_
                refine KD.op (R.pick rfl rfl rfl) rfl rfl rfl ?_
                refine KD.op (R.move rfl rfl) rfl rfl rfl ?_
                refine KD.skip rfl rfl rfl ?_
                refine KD.skip rfl rfl rfl ?_
                refine KD.skip rfl rfl rfl ?_
                refine KD.skip rfl rfl rfl ?_
                refine KD.skip rfl rfl rfl ?_
                refine KD.skip rfl rfl rfl ?_
                refine KD.op (R.pick rfl rfl rfl) rfl rfl rfl ?_
                refine KD.op (R.move rfl rfl) rfl rfl rfl ?_
                refine KD.skip rfl rfl rfl ?_
                refine KD.skip rfl rfl rfl ?_
                refine KD.skip rfl rfl rfl ?_
                refine KD.skip rfl rfl rfl ?_
                refine KD.op (R.pick rfl rfl rfl) rfl rfl rfl ?_
                refine KD.op (R.move rfl rfl) rfl rfl rfl ?_
                refine KD.skip rfl rfl rfl ?_
                refine KD.skip rfl rfl rfl ?_
                refine KD.skip rfl rfl rfl ?_
                refine KD.skip rfl rfl rfl ?_
                refine KD.op (R.pick rfl rfl rfl) rfl rfl rfl ?_
                refine KD.op (R.move rfl rfl) rfl rfl rfl ?_
                refine KD.skip rfl rfl rfl ?_
                refine KD.skip rfl rfl rfl ?_
                refine KD.skip rfl rfl rfl ?_
                refine KD.skip rfl rfl rfl ?_
                refine KD.op (R.pick rfl rfl rfl) rfl rfl rfl ?_
                refine KD.op (R.move rfl rfl) rfl rfl rfl ?_
                refine KD.skip rfl rfl rfl ?_
                refine KD.skip rfl rfl rfl ?_
                refine KD.skip rfl rfl rfl ?_
                refine KD.skip rfl rfl rfl ?_
                refine KD.op (R.pick rfl rfl rfl) rfl rfl rfl ?_
                refine KD.nil ?_
                refine KQ.seq ?_
                refine KC.condT rfl ?_
                refine KC.seq ?_
                refine KC.region ?_
                refine KL.op (R.assign rfl rfl) rfl rfl rfl ?_
                refine KL.nil ?_
                refine KQ.seq ?_
                refine KC.ret ?_
                refine KQ.retThen ?_
                refine KQ.retBlock ?_
                refine KQ.retBlock ?_
                refine KQ.retThen ?_
                refine KQ.retBlock ?_
                refine KQ.retThen ?_
                refine KQ.ofRet ?_
                refine KQ.fin1 Tryd.results31 rfl ?_
                first
                  | exact ⟨congrArg Value.bool (show true = Utf.valid l by rw [← hv]; exact (Utf.valid_nil (by omega)).symm), o0⟩
                  | exact ⟨congrArg Value.bool (show false = Utf.valid l by rw [← hv]; exact (Utf.bad2 (by omega) hc20 (by omega) (by omega)).symm), o0⟩
                  | exact ⟨congrArg Value.bool (show false = Utf.valid l by rw [← hv]; exact (Utf.bad3 (by omega) hc20 (by omega) (by omega)).symm), o0⟩
                  | exact ⟨congrArg Value.bool (show false = Utf.valid l by rw [← hv]; exact (Utf.bad4 (by omega) hc20 (by omega) (by omega)).symm), o0⟩
                  | exact ⟨congrArg Value.bool (show false = Utf.valid l by rw [← hv]; exact (Utf.bad1 (by omega) hc20 (by omega)).symm), o0⟩
              · intro hg146
                try simp only [decide_eq_true_eq, decide_eq_false_iff_not, Bool.not_eq_true', Bool.not_eq_false', Bool.and_eq_true, Bool.or_eq_false_iff] at hg146
                refine KD.op (R.move rfl rfl) rfl rfl rfl ?_
                refine KD.op (R.index1 (j := 1) rfl Tryd.underlying22 sz5 rfl rfl sa rfl (by omega)) rfl rfl rfl ?_
                refine KD.op (R.load rfl Tryd.underlying5 rfl rfl ((sa.int 1 (by omega)).1)) rfl rfl rfl ?_
                refine KD.op ((by first | exact R.fieldAddr rfl Tryd.underlying74 rfl rfl sz5 rfl | exact R.fieldAddrP rfl Tryd.underlying74 rfl rfl sz5 rfl)) rfl rfl rfl ?_
                refine KD.op (R.load rfl Tryd.underlying5 rfl rfl (by first | exact cell_of ba rfl | assumption)) rfl rfl rfl ?_
                refine KD.op (R.lss rfl rfl rfl) rfl rfl rfl ?_
                refine KD.op (R.pick rfl rfl rfl) rfl rfl rfl ?_
                refine KD.op (R.move rfl rfl) rfl rfl rfl ?_
                refine KD.case (d := 154) rfl ?_ ?_
                · intro hg154
                  try simp only [decide_eq_true_eq, decide_eq_false_iff_not, Bool.not_eq_true', Bool.not_eq_false', Bool.and_eq_true, Bool.or_eq_false_iff] at hg154
                  refine KD.skip rfl rfl rfl ?_
                  refine KD.skip rfl rfl rfl ?_
                  refine KD.skip rfl rfl rfl ?_
                  refine KD.skip rfl rfl rfl ?_
                  refine KD.skip rfl rfl rfl ?_
                  refine KD.skip rfl rfl rfl ?_
                  refine KD.op (R.pick rfl rfl rfl) rfl rfl rfl ?_
                  refine KD.op (R.move rfl rfl) rfl rfl rfl ?_
                  refine KD.skip rfl rfl rfl ?_
                  refine KD.skip rfl rfl rfl ?_
                  refine KD.skip rfl rfl rfl ?_
                  refine KD.skip rfl rfl rfl ?_
                  refine KD.op (R.pick rfl rfl rfl) rfl rfl rfl ?_
                  refine KD.op (R.move rfl rfl) rfl rfl rfl ?_
                  refine KD.skip rfl rfl rfl ?_
                  refine KD.skip rfl rfl rfl ?_
                  refine KD.skip rfl rfl rfl ?_
                  refine KD.skip rfl rfl rfl ?_
                  refine KD.op (R.pick rfl rfl rfl) rfl rfl rfl ?_
                  refine KD.op (R.move rfl rfl) rfl rfl rfl ?_
                  refine KD.skip rfl rfl rfl ?_
                  refine KD.skip rfl rfl rfl ?_
                  refine KD.skip rfl rfl rfl ?_
                  refine KD.skip rfl rfl rfl ?_
                  refine KD.op (R.pick rfl rfl rfl) rfl rfl rfl ?_
                  refine KD.op (R.move rfl rfl) rfl rfl rfl ?_
                  refine KD.skip rfl rfl rfl ?_
                  refine KD.skip rfl rfl rfl ?_
                  refine KD.skip rfl rfl rfl ?_
                  refine KD.skip rfl rfl rfl ?_
                  refine KD.op (R.pick rfl rfl rfl) rfl rfl rfl ?_
                  refine KD.nil ?_
                  refine KQ.seq ?_
                  refine KC.condT rfl ?_
                  refine KC.seq ?_
                  refine KC.region ?_
                  refine KL.op (R.assign rfl rfl) rfl rfl rfl ?_
                  refine KL.nil ?_
                  refine KQ.seq ?_
                  refine KC.ret ?_
                  refine KQ.retThen ?_
                  refine KQ.retBlock ?_
                  refine KQ.retBlock ?_
                  refine KQ.retThen ?_
                  refine KQ.retBlock ?_
                  refine KQ.retThen ?_
                  refine KQ.ofRet ?_
                  refine KQ.fin1 Tryd.results31 rfl ?_
                  first
                    | exact ⟨congrArg Value.bool (show true = Utf.valid l by rw [← hv]; exact (Utf.valid_nil (by omega)).symm), o0⟩
                    | exact ⟨congrArg Value.bool (show false = Utf.valid l by rw [← hv]; exact (Utf.bad2 (by omega) hc20 (by omega) (by omega)).symm), o0⟩
                    | exact ⟨congrArg Value.bool (show false = Utf.valid l by rw [← hv]; exact (Utf.bad3 (by omega) hc20 (by omega) (by omega)).symm), o0⟩
                    | exact ⟨congrArg Value.bool (show false = Utf.valid l by rw [← hv]; exact (Utf.bad4 (by omega) hc20 (by omega) (by omega)).symm), o0⟩
                    | exact ⟨congrArg Value.bool (show false = Utf.valid l by rw [← hv]; exact (Utf.bad1 (by omega) hc20 (by omega)).symm), o0⟩
                · intro hg154
                  try simp only [decide_eq_true_eq, decide_eq_false_iff_not, Bool.not_eq_true', Bool.not_eq_false', Bool.and_eq_true, Bool.or_eq_false_iff] at hg154
                  refine KD.op ((by first | exact R.fieldAddr rfl Tryd.underlying74 rfl rfl sz5 rfl | exact R.fieldAddrP rfl Tryd.underlying74 rfl rfl sz5 rfl)) rfl rfl rfl ?_
                  refine KD.op (R.load rfl Tryd.underlying5 rfl rfl (by first | exact cell_of ba rfl | assumption)) rfl rfl rfl ?_
                  refine KD.op (R.move rfl rfl) rfl rfl rfl ?_
                  refine KD.op (R.index1 (j := 1) rfl Tryd.underlying22 sz5 rfl rfl sa rfl (by omega)) rfl rfl rfl ?_
                  refine KD.op (R.load rfl Tryd.underlying5 rfl rfl ((sa.int 1 (by omega)).1)) rfl rfl rfl ?_
                  refine KD.op (R.lss rfl rfl rfl) rfl rfl rfl ?_
                  refine KD.op (R.pick rfl rfl rfl) rfl rfl rfl ?_
                  refine KD.op (R.move rfl rfl) rfl rfl rfl ?_
                  refine KD.case (d := 162) rfl ?_ ?_
                  · intro hg162
                    try simp only [decide_eq_true_eq, decide_eq_false_iff_not, Bool.not_eq_true', Bool.not_eq_false', Bool.and_eq_true, Bool.or_eq_false_iff] at hg162
                    refine KD.skip rfl rfl rfl ?_
                    refine KD.skip rfl rfl rfl ?_
                    refine KD.skip rfl rfl rfl ?_
                    refine KD.skip rfl rfl rfl ?_
                    refine KD.op (R.pick rfl rfl rfl) rfl rfl rfl ?_
                    refine KD.op (R.move rfl rfl) rfl rfl rfl ?_
                    refine KD.skip rfl rfl rfl ?_
                    refine KD.skip rfl rfl rfl ?_
                    refine KD.skip rfl rfl rfl ?_
                    refine KD.skip rfl rfl rfl ?_
                    refine KD.op (R.pick rfl rfl rfl) rfl rfl rfl ?_
                    refine KD.op (R.move rfl rfl) rfl rfl rfl ?_
                    refine KD.skip rfl rfl rfl ?_
                    refine KD.skip rfl rfl rfl ?_
                    refine KD.skip rfl rfl rfl ?_
                    refine KD.skip rfl rfl rfl ?_
                    refine KD.op (R.pick rfl rfl rfl) rfl rfl rfl ?_
                    refine KD.op (R.move rfl rfl) rfl rfl rfl ?_
                    refine KD.skip rfl rfl rfl ?_
                    refine KD.skip rfl rfl rfl ?_
                    refine KD.skip rfl rfl rfl ?_
                    refine KD.skip rfl rfl rfl ?_
                    refine KD.op (R.pick rfl rfl rfl) rfl rfl rfl ?_
                    refine KD.nil ?_
                    refine KQ.seq ?_
                    refine KC.condT rfl ?_
                    refine KC.seq ?_
                    refine KC.region ?_
                    refine KL.op (R.assign rfl rfl) rfl rfl rfl ?_
                    refine KL.nil ?_
                    refine KQ.seq ?_
                    refine KC.ret ?_
                    refine KQ.retThen ?_
                    refine KQ.retBlock ?_
                    refine KQ.retBlock ?_
                    refine KQ.retThen ?_
                    refine KQ.retBlock ?_
                    refine KQ.retThen ?_
                    refine KQ.ofRet ?_
                    refine KQ.fin1 Tryd.results31 rfl ?_
                    first
                      | exact ⟨congrArg Value.bool (show true = Utf.valid l by rw [← hv]; exact (Utf.valid_nil (by omega)).symm), o0⟩
                      | exact ⟨congrArg Value.bool (show false = Utf.valid l by rw [← hv]; exact (Utf.bad2 (by omega) hc20 (by omega) (by omega)).symm), o0⟩
                      | exact ⟨congrArg Value.bool (show false = Utf.valid l by rw [← hv]; exact (Utf.bad3 (by omega) hc20 (by omega) (by omega)).symm), o0⟩
                      | exact ⟨congrArg Value.bool (show false = Utf.valid l by rw [← hv]; exact (Utf.bad4 (by omega) hc20 (by omega) (by omega)).symm), o0⟩
                      | exact ⟨congrArg Value.bool (show false = Utf.valid l by rw [← hv]; exact (Utf.bad1 (by omega) hc20 (by omega)).symm), o0⟩
                  · intro hg162
                    try simp only [decide_eq_true_eq, decide_eq_false_iff_not, Bool.not_eq_true', Bool.not_eq_false', Bool.and_eq_true, Bool.or_eq_false_iff] at hg162
                    refine KD.op (R.move rfl rfl) rfl rfl rfl ?_
                    refine KD.op (R.index1 (j := 2) rfl Tryd.underlying22 sz5 rfl rfl sa rfl (by omega)) rfl rfl rfl ?_
                    refine KD.op (R.load rfl Tryd.underlying5 rfl rfl ((sa.int 2 (by omega)).1)) rfl rfl rfl ?_
                    refine KD.op (R.lss rfl rfl rfl) rfl rfl rfl ?_
                    refine KD.op (R.pick rfl rfl rfl) rfl rfl rfl ?_
                    refine KD.op (R.move rfl rfl) rfl rfl rfl ?_
                    refine KD.case (d := 168) rfl ?_ ?_
                    · intro hg168
                      try simp only [decide_eq_true_eq, decide_eq_false_iff_not, Bool.not_eq_true', Bool.not_eq_false', Bool.and_eq_true, Bool.or_eq_false_iff] at hg168
                      refine KD.skip rfl rfl rfl ?_
                      refine KD.skip rfl rfl rfl ?_
                      refine KD.skip rfl rfl rfl ?_
                      refine KD.skip rfl rfl rfl ?_
                      refine KD.op (R.pick rfl rfl rfl) rfl rfl rfl ?_
                      refine KD.op (R.move rfl rfl) rfl rfl rfl ?_
                      refine KD.skip rfl rfl rfl ?_
                      refine KD.skip rfl rfl rfl ?_
                      refine KD.skip rfl rfl rfl ?_
                      refine KD.skip rfl rfl rfl ?_
                      refine KD.op (R.pick rfl rfl rfl) rfl rfl rfl ?_
                      refine KD.op (R.move rfl rfl) rfl rfl rfl ?_
                      refine KD.skip rfl rfl rfl ?_
                      refine KD.skip rfl rfl rfl ?_
                      refine KD.skip rfl rfl rfl ?_
                      refine KD.skip rfl rfl rfl ?_
                      refine KD.op (R.pick rfl rfl rfl) rfl rfl rfl ?_
                      refine KD.nil ?_
                      refine KQ.seq ?_
                      refine KC.condT rfl ?_
                      refine KC.seq ?_
                      refine KC.region ?_
                      refine KL.op (R.assign rfl rfl) rfl rfl rfl ?_
                      refine KL.nil ?_
                      refine KQ.seq ?_
                      refine KC.ret ?_
                      refine KQ.retThen ?_
                      refine KQ.retBlock ?_
                      refine KQ.retBlock ?_
                      refine KQ.retThen ?_
                      refine KQ.retBlock ?_
                      refine KQ.retThen ?_
                      refine KQ.ofRet ?_
                      refine KQ.fin1 Tryd.results31 rfl ?_
                      first
                        | exact ⟨congrArg Value.bool (show true = Utf.valid l by rw [← hv]; exact (Utf.valid_nil (by omega)).symm), o0⟩
                        | exact ⟨congrArg Value.bool (show false = Utf.valid l by rw [← hv]; exact (Utf.bad2 (by omega) hc20 (by omega) (by omega)).symm), o0⟩
                        | exact ⟨congrArg Value.bool (show false = Utf.valid l by rw [← hv]; exact (Utf.bad3 (by omega) hc20 (by omega) (by omega)).symm), o0⟩
                        | exact ⟨congrArg Value.bool (show false = Utf.valid l by rw [← hv]; exact (Utf.bad4 (by omega) hc20 (by omega) (by omega)).symm), o0⟩
                        | exact ⟨congrArg Value.bool (show false = Utf.valid l by rw [← hv]; exact (Utf.bad1 (by omega) hc20 (by omega)).symm), o0⟩
                    · intro hg168
                      try simp only [decide_eq_true_eq, decide_eq_false_iff_not, Bool.not_eq_true', Bool.not_eq_false', Bool.and_eq_true, Bool.or_eq_false_iff] at hg168
                      refine KD.op (R.move rfl rfl) rfl rfl rfl ?_
                      refine KD.op (R.index1 (j := 2) rfl Tryd.underlying22 sz5 rfl rfl sa rfl (by omega)) rfl rfl rfl ?_
                      refine KD.op (R.load rfl Tryd.underlying5 rfl rfl ((sa.int 2 (by omega)).1)) rfl rfl rfl ?_
                      refine KD.op (R.lss rfl rfl rfl) rfl rfl rfl ?_
                      refine KD.op (R.pick rfl rfl rfl) rfl rfl rfl ?_
                      refine KD.op (R.move rfl rfl) rfl rfl rfl ?_
                      refine KD.case (d := 174) rfl ?_ ?_
                      · intro hg174
                        try simp only [decide_eq_true_eq, decide_eq_false_iff_not, Bool.not_eq_true', Bool.not_eq_false', Bool.and_eq_true, Bool.or_eq_false_iff] at hg174
                        refine KD.skip rfl rfl rfl ?_
                        refine KD.skip rfl rfl rfl ?_
                        refine KD.skip rfl rfl rfl ?_
                        refine KD.skip rfl rfl rfl ?_
                        refine KD.op (R.pick rfl rfl rfl) rfl rfl rfl ?_
                        refine KD.op (R.move rfl rfl) rfl rfl rfl ?_
                        refine KD.skip rfl rfl rfl ?_
                        refine KD.skip rfl rfl rfl ?_
                        refine KD.skip rfl rfl rfl ?_
                        refine KD.skip rfl rfl rfl ?_
                        refine KD.op (R.pick rfl rfl rfl) rfl rfl rfl ?_
                        refine KD.nil ?_
                        refine KQ.seq ?_
                        refine KC.condT rfl ?_
                        refine KC.seq ?_
                        refine KC.region ?_
                        refine KL.op (R.assign rfl rfl) rfl rfl rfl ?_
                        refine KL.nil ?_
                        refine KQ.seq ?_
                        refine KC.ret ?_
                        refine KQ.retThen ?_
                        refine KQ.retBlock ?_
                        refine KQ.retBlock ?_
                        refine KQ.retThen ?_
                        refine KQ.retBlock ?_
                        refine KQ.retThen ?_
                        refine KQ.ofRet ?_
                        refine KQ.fin1 Tryd.results31 rfl ?_
                        first
                          | exact ⟨congrArg Value.bool (show true = Utf.valid l by rw [← hv]; exact (Utf.valid_nil (by omega)).symm), o0⟩
                          | exact ⟨congrArg Value.bool (show false = Utf.valid l by rw [← hv]; exact (Utf.bad2 (by omega) hc20 (by omega) (by omega)).symm), o0⟩
                          | exact ⟨congrArg Value.bool (show false = Utf.valid l by rw [← hv]; exact (Utf.bad3 (by omega) hc20 (by omega) (by omega)).symm), o0⟩
                          | exact ⟨congrArg Value.bool (show false = Utf.valid l by rw [← hv]; exact (Utf.bad4 (by omega) hc20 (by omega) (by omega)).symm), o0⟩
                          | exact ⟨congrArg Value.bool (show false = Utf.valid l by rw [← hv]; exact (Utf.bad1 (by omega) hc20 (by omega)).symm), o0⟩
                      · intro hg174
                        try simp only [decide_eq_true_eq, decide_eq_false_iff_not, Bool.not_eq_true', Bool.not_eq_false', Bool.and_eq_true, Bool.or_eq_false_iff] at hg174
                        refine KD.op (R.move rfl rfl) rfl rfl rfl ?_
                        refine KD.op (R.index1 (j := 3) rfl Tryd.underlying22 sz5 rfl rfl sa rfl (by omega)) rfl rfl rfl ?_
                        refine KD.op (R.load rfl Tryd.underlying5 rfl rfl ((sa.int 3 (by omega)).1)) rfl rfl rfl ?_
                        refine KD.op (R.lss rfl rfl rfl) rfl rfl rfl ?_
                        refine KD.op (R.pick rfl rfl rfl) rfl rfl rfl ?_
                        refine KD.op (R.move rfl rfl) rfl rfl rfl ?_
                        refine KD.case (d := 180) rfl ?_ ?_
                        · intro hg180
                          try simp only [decide_eq_true_eq, decide_eq_false_iff_not, Bool.not_eq_true', Bool.not_eq_false', Bool.and_eq_true, Bool.or_eq_false_iff] at hg180
                          refine KD.skip rfl rfl rfl ?_
                          refine KD.skip rfl rfl rfl ?_
                          refine KD.skip rfl rfl rfl ?_
                          refine KD.skip rfl rfl rfl ?_
                          refine KD.op (R.pick rfl rfl rfl) rfl rfl rfl ?_
                          refine KD.nil ?_
                          refine KQ.seq ?_
                          refine KC.condT rfl ?_
                          refine KC.seq ?_
                          refine KC.region ?_
                          refine KL.op (R.assign rfl rfl) rfl rfl rfl ?_
                          refine KL.nil ?_
                          refine KQ.seq ?_
                          refine KC.ret ?_
                          refine KQ.retThen ?_
                          refine KQ.retBlock ?_
                          refine KQ.retBlock ?_
                          refine KQ.retThen ?_
                          refine KQ.retBlock ?_
                          refine KQ.retThen ?_
                          refine KQ.ofRet ?_
                          refine KQ.fin1 Tryd.results31 rfl ?_
                          first
                            | exact ⟨congrArg Value.bool (show true = Utf.valid l by rw [← hv]; exact (Utf.valid_nil (by omega)).symm), o0⟩
                            | exact ⟨congrArg Value.bool (show false = Utf.valid l by rw [← hv]; exact (Utf.bad2 (by omega) hc20 (by omega) (by omega)).symm), o0⟩
                            | exact ⟨congrArg Value.bool (show false = Utf.valid l by rw [← hv]; exact (Utf.bad3 (by omega) hc20 (by omega) (by omega)).symm), o0⟩
                            | exact ⟨congrArg Value.bool (show false = Utf.valid l by rw [← hv]; exact (Utf.bad4 (by omega) hc20 (by omega) (by omega)).symm), o0⟩
                            | exact ⟨congrArg Value.bool (show false = Utf.valid l by rw [← hv]; exact (Utf.bad1 (by omega) hc20 (by omega)).symm), o0⟩
                        · intro hg180
                          try simp only [decide_eq_true_eq, decide_eq_false_iff_not, Bool.not_eq_true', Bool.not_eq_false', Bool.and_eq_true, Bool.or_eq_false_iff] at hg180
                          refine KD.op (R.move rfl rfl) rfl rfl rfl ?_
                          refine KD.op (R.index1 (j := 3) rfl Tryd.underlying22 sz5 rfl rfl sa rfl (by omega)) rfl rfl rfl ?_
                          refine KD.op (R.load rfl Tryd.underlying5 rfl rfl ((sa.int 3 (by omega)).1)) rfl rfl rfl ?_
                          refine KD.op (R.lss rfl rfl rfl) rfl rfl rfl ?_
                          refine KD.op (R.pick rfl rfl rfl) rfl rfl rfl ?_
                          refine KD.nil ?_
                          refine KQ.seq ?_
                          refine KC.iteL rfl ?_ ?_
                          · intro hc185
                            try simp only [decide_eq_true_eq, decide_eq_false_iff_not, Bool.not_eq_true', Bool.not_eq_false', Bool.and_eq_true, Bool.or_eq_false_iff] at hc185
                            refine KC.seq ?_
                            refine KC.region ?_
                            refine KL.op (R.assign rfl rfl) rfl rfl rfl ?_
                            refine KL.nil ?_
                            refine KQ.seq ?_
                            refine KC.ret ?_
                            refine KQ.retThen ?_
                            refine KQ.retBlock ?_
                            refine KQ.retBlock ?_
                            refine KQ.retThen ?_
                            refine KQ.retBlock ?_
                            refine KQ.retThen ?_
                            refine KQ.ofRet ?_
                            refine KQ.fin1 Tryd.results31 rfl ?_
                            first
                              | exact ⟨congrArg Value.bool (show true = Utf.valid l by rw [← hv]; exact (Utf.valid_nil (by omega)).symm), o0⟩
                              | exact ⟨congrArg Value.bool (show false = Utf.valid l by rw [← hv]; exact (Utf.bad2 (by omega) hc20 (by omega) (by omega)).symm), o0⟩
                              | exact ⟨congrArg Value.bool (show false = Utf.valid l by rw [← hv]; exact (Utf.bad3 (by omega) hc20 (by omega) (by omega)).symm), o0⟩
                              | exact ⟨congrArg Value.bool (show false = Utf.valid l by rw [← hv]; exact (Utf.bad4 (by omega) hc20 (by omega) (by omega)).symm), o0⟩
                              | exact ⟨congrArg Value.bool (show false = Utf.valid l by rw [← hv]; exact (Utf.bad1 (by omega) hc20 (by omega)).symm), o0⟩
                          · intro hc185
                            try simp only [decide_eq_true_eq, decide_eq_false_iff_not, Bool.not_eq_true', Bool.not_eq_false', Bool.and_eq_true, Bool.or_eq_false_iff] at hc185
                            refine KC.skip ?_
                            refine KQ.seq ?_
                            refine KC.region ?_
                            refine KL.op (R.move rfl rfl) rfl rfl rfl ?_
                            refine KL.op (R.slice rfl Tryd.underlying22 sz5 rfl sa (bnd.mk (r := 4) rfl rfl) bnd.no (by first | omega | (simp only [List.length_drop] at *; omega)) (Nat.le_refl _)) rfl rfl rfl ?_
                            have sc : Sl 1 (EInt .u8) H4 (subV 1 (va) 4 (m).length) ((m).drop 4) := sa.tail (by first | omega | (simp only [List.length_drop] at *; omega))
                            have vsc : Utf.valid ((m).drop 4) = Utf.valid l := (Utf.good4 (by omega) hc20 (by omega) (by omega)).trans hv
                            have sn := sc
                            have vn := vsc
                            refine KL.op (R.assign rfl rfl) rfl rfl rfl ?_
                            refine KL.nil ?_
                            refine KQ.normBlock ?_
                            refine KQ.normBlock ?_
                            refine KQ.again ((subV 1 (va) 4 (m).length, (m).drop 4)) ?_ ?_ ?_
                            · exact (Sub.cons rfl (Ext.sub (by repeat (first | exact Ext.refl _ _ | refine Ext.put rfl ?_ | refine Ext.drop rfl ?_))))
                            · show _ < _; first | omega | (simp only [List.length_drop] at *; omega)
                            · exact ⟨sn, vn, by show _ ≤ _; first | omega | (simp only [List.length_drop] at *; omega), o0⟩
            · intro hc141
              try simp only [decide_eq_true_eq, decide_eq_false_iff_not, Bool.not_eq_true', Bool.not_eq_false', Bool.and_eq_true, Bool.or_eq_false_iff] at hc141
              refine KC.seq ?_
              refine KC.region ?_
              refine KL.op (R.assign rfl rfl) rfl rfl rfl ?_
              refine KL.nil ?_
              refine KQ.seq ?_
              refine KC.ret ?_
              refine KQ.retBlock ?_
              refine KQ.retBlock ?_
              refine KQ.retThen ?_
              refine KQ.retBlock ?_
              refine KQ.retThen ?_
              refine KQ.ofRet ?_
              refine KQ.fin1 Tryd.results31 rfl ?_
              first
                | exact ⟨congrArg Value.bool (show true = Utf.valid l by rw [← hv]; exact (Utf.valid_nil (by omega)).symm), o0⟩
                | exact ⟨congrArg Value.bool (show false = Utf.valid l by rw [← hv]; exact (Utf.bad2 (by omega) hc20 (by omega) (by omega)).symm), o0⟩
                | exact ⟨congrArg Value.bool (show false = Utf.valid l by rw [← hv]; exact (Utf.bad3 (by omega) hc20 (by omega) (by omega)).symm), o0⟩
                | exact ⟨congrArg Value.bool (show false = Utf.valid l by rw [← hv]; exact (Utf.bad4 (by omega) hc20 (by omega) (by omega)).symm), o0⟩
                | exact ⟨congrArg Value.bool (show false = Utf.valid l by rw [← hv]; exact (Utf.bad1 (by omega) hc20 (by omega)).symm), o0⟩
    · intro hc15
      try simp only [decide_eq_true_eq, decide_eq_false_iff_not, Bool.not_eq_true', Bool.not_eq_false', Bool.and_eq_true, Bool.or_eq_false_iff] at hc15
      refine KC.exit ?_
      refine KQ.exitThen ?_
      refine KQ.exitThen ?_
      refine KQ.hit ?_
      refine KQ.seq ?_
      refine KC.seq ?_
      refine KC.region ?_
      refine KL.op (R.assign rfl rfl) rfl rfl rfl ?_
      refine KL.nil ?_
      refine KQ.seq ?_
      refine KC.ret ?_
      refine KQ.ofRet ?_
      refine KQ.fin1 Tryd.results31 rfl ?_
      first
        | exact ⟨congrArg Value.bool (show true = Utf.valid l by rw [← hv]; exact (Utf.valid_nil (by omega)).symm), o0⟩
        | exact ⟨congrArg Value.bool (show false = Utf.valid l by rw [← hv]; exact (Utf.bad2 (by omega) hc20 (by omega) (by omega)).symm), o0⟩
        | exact ⟨congrArg Value.bool (show false = Utf.valid l by rw [← hv]; exact (Utf.bad3 (by omega) hc20 (by omega) (by omega)).symm), o0⟩
        | exact ⟨congrArg Value.bool (show false = Utf.valid l by rw [← hv]; exact (Utf.bad4 (by omega) hc20 (by omega) (by omega)).symm), o0⟩
        | exact ⟨congrArg Value.bool (show false = Utf.valid l by rw [← hv]; exact (Utf.bad1 (by omega) hc20 (by omega)).symm), o0⟩

end Go.Proofs.YtnbdadjomnpcgaaDoor
