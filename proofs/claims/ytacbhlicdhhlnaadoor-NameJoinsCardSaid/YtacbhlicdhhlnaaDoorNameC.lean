/- Package name, and the document: a name is taken, appended; the small examples. No condition but that the library tables are laid. -/
import Derived.Test.YtacbhlicdhhlnaaDoorNameB
import Derived.Test.YtacbhlicdhhlnaaDoorUtfR
namespace Go.Proofs.YtacbhlicdhhlnaaDoor
open Go Go.RowKit
set_option linter.unusedVariables false
set_option linter.unusedSimpArgs false
set_option linter.unnecessarySimpa false
set_option maxRecDepth 100000 in
set_option maxHeartbeats 1000000 in
theorem Take_none {H : Heap} (v : Value) (l : List Int) (hs : Sl 1 (EInt .u8) H v l) (hT : TabU H) (ht : Lb.tk l 32 = none) : Ct Tryd.prog 8 [v] H (fun u H' => u = Nm.V (Nm.nt l) ∧ Old H H') := by
  refine Ct.mk Tryd.func8 rfl Tryd.ntmps8 rfl ?_
  intro W0 hW0
  have o0 : Old H H := Old.refl H
  refine KC.seq ?_
  refine KC.region ?_
  refine KL.op (R.assign rfl rfl) rfl rfl rfl ?_
  refine KL.op (R.assign rfl rfl) rfl rfl rfl ?_
  refine KL.op (R.assign rfl rfl) rfl rfl rfl ?_
  refine KL.nil ?_
  refine KQ.seq ?_
  refine KC.seq ?_
  refine KC.region ?_
  refine KL.op (R.move rfl rfl) rfl rfl rfl ?_
  refine KL.call rfl rfl rfl rfl Tryd.call14 rfl rfl rfl (TakeU_none _ _ _ hs ht) ?_
  rintro _ _ ⟨rfl, rfl⟩
  refine KL.op (R.move rfl rfl) rfl rfl rfl ?_
  refine KL.op (R.extract rfl rfl rfl) rfl rfl rfl ?_
  refine KL.op (R.extract rfl rfl rfl) rfl rfl rfl ?_
  refine KL.op (R.extract rfl rfl rfl) rfl rfl rfl ?_
  refine KL.op (R.assign rfl rfl) rfl rfl rfl ?_
  refine KL.op (R.assign rfl rfl) rfl rfl rfl ?_
  refine KL.op (R.assign rfl rfl) rfl rfl rfl ?_
  refine KL.nil ?_
  refine KQ.seq ?_
  refine KC.seq ?_
  refine KC.seq ?_
  refine KC.region ?_
  refine KL.op (R.move rfl rfl) rfl rfl rfl ?_
  refine KL.op (R.not rfl rfl) rfl rfl rfl ?_
  refine KL.op (R.move rfl rfl) rfl rfl rfl ?_
  refine KL.skip rfl rfl rfl ?_
  refine KL.skip rfl rfl rfl ?_
  refine KL.skip rfl rfl rfl ?_
  refine KL.skip rfl rfl rfl ?_
  refine KL.skip rfl rfl rfl ?_
  refine KL.skip rfl rfl rfl ?_
  refine KL.skip rfl rfl rfl ?_
  refine KL.op (R.pick rfl rfl rfl) rfl rfl rfl ?_
  refine KL.nil ?_
  refine KQ.seq ?_
  refine KC.condT rfl ?_
  refine KC.seq ?_
  refine KC.region ?_
  refine KL.op (R.assign rfl rfl) rfl rfl rfl ?_
  refine KL.op (R.assign rfl rfl) rfl rfl rfl ?_
  refine KL.op (R.assign rfl rfl) rfl rfl rfl ?_
  refine KL.nil ?_
  refine KQ.seq ?_
  refine KC.ret ?_
  refine KQ.retThen ?_
  refine KQ.ofRet ?_
  refine KQ.fin3 Tryd.results8 rfl rfl rfl ?_
  exact ⟨by rw [Nm.none ht]; rfl, o0⟩

set_option maxRecDepth 100000 in
set_option maxHeartbeats 1000000 in
theorem Take_some {H : Heap} (v : Value) (l : List Int) (hs : Sl 1 (EInt .u8) H v l) (hT : TabU H) (n : Int) (k : Nat) (ht : Lb.tk l 32 = some (n, k)) : Ct Tryd.prog 8 [v] H (fun u H' => u = Nm.V (Nm.nt l) ∧ Old H H') := by
  refine Ct.mk Tryd.func8 rfl Tryd.ntmps8 rfl ?_
  intro W0 hW0
  have o0 : Old H H := Old.refl H
  have hb := Lb.tk32 ht
  have hlen := hs.len
  refine KC.seq ?_
  refine KC.region ?_
  refine KL.op (R.assign rfl rfl) rfl rfl rfl ?_
  refine KL.op (R.assign rfl rfl) rfl rfl rfl ?_
  refine KL.op (R.assign rfl rfl) rfl rfl rfl ?_
  refine KL.nil ?_
  refine KQ.seq ?_
  refine KC.seq ?_
  refine KC.region ?_
  refine KL.op (R.move rfl rfl) rfl rfl rfl ?_
  refine KL.call rfl rfl rfl rfl Tryd.call14 rfl rfl rfl (TakeU_some _ _ _ _ _ hs ht) ?_
  rintro _ _ ⟨rfl, rfl⟩
  refine KL.op (R.move rfl rfl) rfl rfl rfl ?_
  refine KL.op (R.extract rfl rfl rfl) rfl rfl rfl ?_
  refine KL.op (R.extract rfl rfl rfl) rfl rfl rfl ?_
  refine KL.op (R.extract rfl rfl rfl) rfl rfl rfl ?_
  refine KL.op (R.assign rfl rfl) rfl rfl rfl ?_
  refine KL.op (R.assign rfl rfl) rfl rfl rfl ?_
  refine KL.op (R.assign rfl rfl) rfl rfl rfl ?_
  refine KL.nil ?_
  refine KQ.seq ?_
  refine KC.seq ?_
  refine KC.seq ?_
  refine KC.region ?_
  refine KL.op (R.move rfl rfl) rfl rfl rfl ?_
  refine KL.op (R.not rfl rfl) rfl rfl rfl ?_
  refine KL.op (R.move rfl rfl) rfl rfl rfl ?_
  refine KL.op (R.move rfl rfl) rfl rfl rfl ?_
  refine KL.op (R.move rfl rfl) rfl rfl rfl ?_
  refine KL.op ((by first | exact R.lenS rfl Tryd.underlying22 rfl (by first | exact hs | assumption) | exact R.len (ty := 0) rfl Tryd.underlying22 rfl)) rfl rfl rfl ?_
  refine KL.op (R.move rfl rfl) rfl rfl rfl ?_
  refine KL.op (R.sub rfl rfl rfl (by dsimp only [InR]; omega)) rfl rfl rfl ?_
  refine KL.op (R.convI rfl Tryd.underlying3 Tryd.underlying29 rfl (by dsimp only [InR]; omega)) rfl rfl rfl ?_
  refine KL.op (R.gtr rfl rfl rfl) rfl rfl rfl ?_
  refine KL.op (R.pick rfl rfl rfl) rfl rfl rfl ?_
  refine KL.nil ?_
  refine KQ.seq ?_
  refine KC.iteL rfl ?_ ?_
  · intro hc25
    try simp only [decide_eq_true_eq, decide_eq_false_iff_not, Bool.not_eq_true', Bool.not_eq_false', Bool.and_eq_true, Bool.or_eq_false_iff] at hc25
    refine KC.seq ?_
    refine KC.region ?_
    refine KL.op (R.assign rfl rfl) rfl rfl rfl ?_
    refine KL.op (R.assign rfl rfl) rfl rfl rfl ?_
    refine KL.op (R.assign rfl rfl) rfl rfl rfl ?_
    refine KL.nil ?_
    refine KQ.seq ?_
    refine KC.ret ?_
    refine KQ.retThen ?_
    refine KQ.ofRet ?_
    refine KQ.fin3 Tryd.results8 rfl rfl rfl ?_
    first
      | exact ⟨by rw [Nm.bad ht (.inl (by omega))]; rfl, o0⟩
      | exact ⟨by rw [Nm.bad ht (.inr (by assumption))]; rfl, o0⟩
      | exact ⟨by rw [Nm.good ht (by omega) (by assumption)]; rfl, o0⟩
  · intro hc25
    try simp only [decide_eq_true_eq, decide_eq_false_iff_not, Bool.not_eq_true', Bool.not_eq_false', Bool.and_eq_true, Bool.or_eq_false_iff] at hc25
    refine KC.skip ?_
    refine KQ.seq ?_
    refine KC.seq ?_
    refine KC.region ?_
    refine KL.op (R.move rfl rfl) rfl rfl rfl ?_
    refine KL.op (R.move rfl rfl) rfl rfl rfl ?_
    refine KL.op (R.convI rfl Tryd.underlying29 Tryd.underlying3 rfl (by dsimp only [InR]; omega)) rfl rfl rfl ?_
    refine KL.op ((R.add rfl rfl rfl (by dsimp only [InR]; omega)).val (congrArg (Value.int .i64) (show _ = ((k + n.toNat : Nat) : Int) from by omega))) rfl rfl rfl ?_
    refine KL.op (R.assign rfl rfl) rfl rfl rfl ?_
    refine KL.nil ?_
    refine KQ.seq ?_
    refine KC.seq ?_
    refine KC.region ?_
    refine KL.op (R.move rfl rfl) rfl rfl rfl ?_
    refine KL.op (R.move rfl rfl) rfl rfl rfl ?_
    refine KL.op (R.move rfl rfl) rfl rfl rfl ?_
    refine KL.op (R.move rfl rfl) rfl rfl rfl ?_
    refine KL.op (R.slice3 (i := k) (j := k + n.toNat) rfl Tryd.underlying22 sz5 rfl hs (bnd.mk rfl rfl) rfl rfl rfl rfl (by omega) (by omega)) rfl rfl rfl ?_
    have st : Sl 1 (EInt .u8) H (sub3 1 v k (k + n.toNat) (k + n.toNat)) ((l.drop k).take n.toNat) := by
      have h9 := hs.sub3 (lo := k) (hi := k + n.toNat) (by omega) (by omega)
      rwa [List.drop_take, Nat.add_sub_cancel_left] at h9
    refine KL.op (R.assign rfl rfl) rfl rfl rfl ?_
    refine KL.nil ?_
    refine KQ.seq ?_
    refine KC.seq ?_
    refine KC.seq ?_
    refine KC.region ?_
    refine KL.op (R.move rfl rfl) rfl rfl rfl ?_
    refine KL.call rfl rfl rfl rfl Tryd.call10 rfl rfl rfl (nameValid_any _ _ st (hT.old o0)) ?_
    rintro _ H1 ⟨rfl, ox⟩
    have zc_H1 := (ox).1
    have o0 := o0.trans ox
    have hs := hs.old ox
    have st := st.old ox
    refine KL.op (R.not rfl rfl) rfl rfl rfl ?_
    refine KL.nil ?_
    refine KQ.seq ?_
    refine KC.iteL rfl ?_ ?_
    · intro hc37
      try simp only [decide_eq_true_eq, decide_eq_false_iff_not, Bool.not_eq_true', Bool.not_eq_false', Bool.and_eq_true, Bool.or_eq_false_iff] at hc37
      refine KC.seq ?_
      refine KC.region ?_
      refine KL.op (R.assign rfl rfl) rfl rfl rfl ?_
      refine KL.op (R.assign rfl rfl) rfl rfl rfl ?_
      refine KL.op (R.assign rfl rfl) rfl rfl rfl ?_
      refine KL.nil ?_
      refine KQ.seq ?_
      refine KC.ret ?_
      refine KQ.retThen ?_
      refine KQ.ofRet ?_
      refine KQ.fin3 Tryd.results8 rfl rfl rfl ?_
      first
        | exact ⟨by rw [Nm.bad ht (.inl (by omega))]; rfl, o0⟩
        | exact ⟨by rw [Nm.bad ht (.inr (by assumption))]; rfl, o0⟩
        | exact ⟨by rw [Nm.good ht (by omega) (by assumption)]; rfl, o0⟩
    · intro hc37
      try simp only [decide_eq_true_eq, decide_eq_false_iff_not, Bool.not_eq_true', Bool.not_eq_false', Bool.and_eq_true, Bool.or_eq_false_iff] at hc37
      refine KC.skip ?_
      refine KQ.seq ?_
      refine KC.seq ?_
      refine KC.region ?_
      refine KL.op (R.move rfl rfl) rfl rfl rfl ?_
      refine KL.op (R.convBS rfl Tryd.underlying22 Tryd.underlying5 Tryd.underlying9 rfl st) rfl rfl rfl ?_
      refine KL.op (R.move rfl rfl) rfl rfl rfl ?_
      refine KL.op (R.assign rfl rfl) rfl rfl rfl ?_
      refine KL.op (R.assign rfl rfl) rfl rfl rfl ?_
      refine KL.op (R.assign rfl rfl) rfl rfl rfl ?_
      refine KL.nil ?_
      refine KQ.seq ?_
      refine KC.ret ?_
      refine KQ.ofRet ?_
      refine KQ.fin3 Tryd.results8 rfl rfl rfl ?_
      first
        | exact ⟨by rw [Nm.bad ht (.inl (by omega))]; rfl, o0⟩
        | exact ⟨by rw [Nm.bad ht (.inr (by assumption))]; rfl, o0⟩
        | exact ⟨by rw [Nm.good ht (by omega) (by assumption)]; rfl, o0⟩

theorem NTake_any {H : Heap} (v : Value) (l : List Int) (hs : Sl 1 (EInt .u8) H v l) (hT : TabU H) : Ct Tryd.prog 8 [v] H (fun u H' => u = Nm.V (Nm.nt l) ∧ Old H H') := by
  cases ht : Lb.tk l 32 with
  | none => exact Take_none v l hs hT ht
  | some p => exact Take_some v l hs hT p.1 p.2 ht
theorem Take_is {H : Heap} (v : Value) (l : List Int) (hs : Sl 1 (EInt .u8) H v l) (hT : TabU H) {o : Option (List Int × Nat)} (e : Nm.nt l = o) : Ct Tryd.prog 8 [v] H (fun u H' => u = Nm.V o ∧ Old H H') := by
  have := NTake_any v l hs hT
  rw [e] at this; exact this
theorem Valid_is {H : Heap} (v : Value) (l : List Int) (hs : Sl 1 (EInt .u8) H v l) (hT : TabU H) {b : Bool} (e : Utf.valid l = b) : Ct Tryd.prog 10 [v] H (fun u H' => u = .bool b ∧ Old H H') := by
  have := nameValid_any v l hs hT
  rw [e] at this; exact this

set_option maxRecDepth 100000 in
set_option maxHeartbeats 1000000 in
theorem RTake_none {H : Heap} (v : Value) (l : List Int) (hs : Sl 1 (EInt .u8) H v l) (ht : Lb.tk l 32 = none) : Ct Tryd.prog 9 [v] H (fun u H' => u = Nm.V (Nm.nt l) ∧ H = H') := by
  refine Ct.mk Tryd.func9 rfl Tryd.ntmps9 rfl ?_
  intro W0 hW0
  have o0 : Old H H := Old.refl H
  refine KC.seq ?_
  refine KC.region ?_
  refine KL.op (R.assign rfl rfl) rfl rfl rfl ?_
  refine KL.op (R.assign rfl rfl) rfl rfl rfl ?_
  refine KL.op (R.assign rfl rfl) rfl rfl rfl ?_
  refine KL.nil ?_
  refine KQ.seq ?_
  refine KC.seq ?_
  refine KC.region ?_
  refine KL.op (R.move rfl rfl) rfl rfl rfl ?_
  refine KL.call rfl rfl rfl rfl Tryd.call15 rfl rfl rfl (RefTake_none _ _ _ hs ht) ?_
  rintro _ _ ⟨rfl, rfl⟩
  refine KL.op (R.move rfl rfl) rfl rfl rfl ?_
  refine KL.op (R.extract rfl rfl rfl) rfl rfl rfl ?_
  refine KL.op (R.extract rfl rfl rfl) rfl rfl rfl ?_
  refine KL.op (R.assign rfl rfl) rfl rfl rfl ?_
  refine KL.op (R.assign rfl rfl) rfl rfl rfl ?_
  refine KL.nil ?_
  refine KQ.seq ?_
  refine KC.seq ?_
  refine KC.seq ?_
  refine KC.region ?_
  refine KL.op (R.move rfl rfl) rfl rfl rfl ?_
  refine KL.op ((R.eql rfl rfl rfl).val (congrArg Value.bool (decide_eq_true (by rfl)))) rfl rfl rfl ?_
  refine KL.op (R.move rfl rfl) rfl rfl rfl ?_
  refine KL.skip rfl rfl rfl ?_
  refine KL.skip rfl rfl rfl ?_
  refine KL.skip rfl rfl rfl ?_
  refine KL.skip rfl rfl rfl ?_
  refine KL.skip rfl rfl rfl ?_
  refine KL.op (R.pick rfl rfl rfl) rfl rfl rfl ?_
  refine KL.op (R.move rfl rfl) rfl rfl rfl ?_
  refine KL.skip rfl rfl rfl ?_
  refine KL.skip rfl rfl rfl ?_
  refine KL.skip rfl rfl rfl ?_
  refine KL.skip rfl rfl rfl ?_
  refine KL.skip rfl rfl rfl ?_
  refine KL.skip rfl rfl rfl ?_
  refine KL.skip rfl rfl rfl ?_
  refine KL.op (R.pick rfl rfl rfl) rfl rfl rfl ?_
  refine KL.op (R.move rfl rfl) rfl rfl rfl ?_
  refine KL.skip rfl rfl rfl ?_
  refine KL.skip rfl rfl rfl ?_
  refine KL.skip rfl rfl rfl ?_
  refine KL.skip rfl rfl rfl ?_
  refine KL.skip rfl rfl rfl ?_
  refine KL.skip rfl rfl rfl ?_
  refine KL.skip rfl rfl rfl ?_
  refine KL.skip rfl rfl rfl ?_
  refine KL.skip rfl rfl rfl ?_
  refine KL.op (R.pick rfl rfl rfl) rfl rfl rfl ?_
  refine KL.nil ?_
  refine KQ.seq ?_
  refine KC.condT rfl ?_
  refine KC.seq ?_
  refine KC.region ?_
  refine KL.op (R.assign rfl rfl) rfl rfl rfl ?_
  refine KL.op (R.assign rfl rfl) rfl rfl rfl ?_
  refine KL.op (R.assign rfl rfl) rfl rfl rfl ?_
  refine KL.nil ?_
  refine KQ.seq ?_
  refine KC.ret ?_
  refine KQ.retThen ?_
  refine KQ.ofRet ?_
  refine KQ.fin3 Tryd.results9 rfl rfl rfl ?_
  exact ⟨by rw [Nm.none ht]; rfl, rfl⟩

set_option maxRecDepth 100000 in
set_option maxHeartbeats 1000000 in
theorem RTake_some {H : Heap} (v : Value) (l : List Int) (hs : Sl 1 (EInt .u8) H v l) (n : Int) (k : Nat) (ht : Lb.tk l 32 = some (n, k)) : Ct Tryd.prog 9 [v] H (fun u H' => u = Nm.V (Nm.nt l) ∧ H = H') := by
  refine Ct.mk Tryd.func9 rfl Tryd.ntmps9 rfl ?_
  intro W0 hW0
  have o0 : Old H H := Old.refl H
  have hb := Lb.tk32 ht
  have hlen := hs.len
  refine KC.seq ?_
  refine KC.region ?_
  refine KL.op (R.assign rfl rfl) rfl rfl rfl ?_
  refine KL.op (R.assign rfl rfl) rfl rfl rfl ?_
  refine KL.op (R.assign rfl rfl) rfl rfl rfl ?_
  refine KL.nil ?_
  refine KQ.seq ?_
  refine KC.seq ?_
  refine KC.region ?_
  refine KL.op (R.move rfl rfl) rfl rfl rfl ?_
  refine KL.call rfl rfl rfl rfl Tryd.call15 rfl rfl rfl (RefTake_some _ _ _ _ hs ht) ?_
  rintro _ _ ⟨rfl, rfl⟩
  refine KL.op (R.move rfl rfl) rfl rfl rfl ?_
  refine KL.op (R.extract rfl rfl rfl) rfl rfl rfl ?_
  refine KL.op (R.extract rfl rfl rfl) rfl rfl rfl ?_
  refine KL.op (R.assign rfl rfl) rfl rfl rfl ?_
  refine KL.op (R.assign rfl rfl) rfl rfl rfl ?_
  refine KL.nil ?_
  refine KQ.seq ?_
  refine KC.seq ?_
  refine KC.seq ?_
  refine KC.region ?_
  refine KL.op (R.move rfl rfl) rfl rfl rfl ?_
  refine KL.op ((R.eql rfl rfl rfl).val (congrArg Value.bool (decide_eq_false (by omega)))) rfl rfl rfl ?_
  refine KL.op (R.move rfl rfl) rfl rfl rfl ?_
  refine KL.op (R.move rfl rfl) rfl rfl rfl ?_
  refine KL.op (R.move rfl rfl) rfl rfl rfl ?_
  refine KL.op ((by first | exact R.lenS rfl Tryd.underlying22 rfl (by first | exact hs | assumption) | exact R.len (ty := 0) rfl Tryd.underlying22 rfl)) rfl rfl rfl ?_
  refine KL.op (R.convI rfl Tryd.underlying3 Tryd.underlying29 rfl (by dsimp only [InR]; omega)) rfl rfl rfl ?_
  refine KL.op (R.gtr rfl rfl rfl) rfl rfl rfl ?_
  refine KL.op (R.pick rfl rfl rfl) rfl rfl rfl ?_
  refine KL.op (R.move rfl rfl) rfl rfl rfl ?_
  refine KL.case (d := 21) rfl ?_ ?_
  · intro hg21
    try simp only [decide_eq_true_eq, decide_eq_false_iff_not, Bool.not_eq_true', Bool.not_eq_false', Bool.and_eq_true, Bool.or_eq_false_iff] at hg21
    refine KL.skip rfl rfl rfl ?_
    refine KL.skip rfl rfl rfl ?_
    refine KL.skip rfl rfl rfl ?_
    refine KL.skip rfl rfl rfl ?_
    refine KL.skip rfl rfl rfl ?_
    refine KL.skip rfl rfl rfl ?_
    refine KL.skip rfl rfl rfl ?_
    refine KL.op (R.pick rfl rfl rfl) rfl rfl rfl ?_
    refine KL.op (R.move rfl rfl) rfl rfl rfl ?_
    refine KL.skip rfl rfl rfl ?_
    refine KL.skip rfl rfl rfl ?_
    refine KL.skip rfl rfl rfl ?_
    refine KL.skip rfl rfl rfl ?_
    refine KL.skip rfl rfl rfl ?_
    refine KL.skip rfl rfl rfl ?_
    refine KL.skip rfl rfl rfl ?_
    refine KL.skip rfl rfl rfl ?_
    refine KL.skip rfl rfl rfl ?_
    refine KL.op (R.pick rfl rfl rfl) rfl rfl rfl ?_
    refine KL.nil ?_
    refine KQ.seq ?_
    refine KC.condT rfl ?_
    refine KC.seq ?_
    refine KC.region ?_
    refine KL.op (R.assign rfl rfl) rfl rfl rfl ?_
    refine KL.op (R.assign rfl rfl) rfl rfl rfl ?_
    refine KL.op (R.assign rfl rfl) rfl rfl rfl ?_
    refine KL.nil ?_
    refine KQ.seq ?_
    refine KC.ret ?_
    refine KQ.retThen ?_
    refine KQ.ofRet ?_
    refine KQ.fin3 Tryd.results9 rfl rfl rfl ?_
    first
      | exact ⟨by rw [Nm.bad ht (.inl (by omega))]; rfl, rfl⟩
      | exact ⟨by rw [Nm.bad ht (.inr (by assumption))]; rfl, rfl⟩
      | exact ⟨by rw [Nm.good ht (by omega) (by assumption)]; rfl, rfl⟩
  · intro hg21
    try simp only [decide_eq_true_eq, decide_eq_false_iff_not, Bool.not_eq_true', Bool.not_eq_false', Bool.and_eq_true, Bool.or_eq_false_iff] at hg21
    refine KL.op (R.move rfl rfl) rfl rfl rfl ?_
    refine KL.op (R.move rfl rfl) rfl rfl rfl ?_
    refine KL.op (R.convI rfl Tryd.underlying29 Tryd.underlying3 rfl (by dsimp only [InR]; omega)) rfl rfl rfl ?_
    refine KL.op ((R.add rfl rfl rfl (by dsimp only [InR]; omega)).val (congrArg (Value.int .i64) (show _ = ((k + n.toNat : Nat) : Int) from by omega))) rfl rfl rfl ?_
    refine KL.op (R.move rfl rfl) rfl rfl rfl ?_
    refine KL.op ((by first | exact R.lenS rfl Tryd.underlying22 rfl (by first | exact hs | assumption) | exact R.len (ty := 0) rfl Tryd.underlying22 rfl)) rfl rfl rfl ?_
    refine KL.op (R.gtr rfl rfl rfl) rfl rfl rfl ?_
    refine KL.op (R.pick rfl rfl rfl) rfl rfl rfl ?_
    refine KL.op (R.move rfl rfl) rfl rfl rfl ?_
    refine KL.case (d := 30) rfl ?_ ?_
    · intro hg30
      try simp only [decide_eq_true_eq, decide_eq_false_iff_not, Bool.not_eq_true', Bool.not_eq_false', Bool.and_eq_true, Bool.or_eq_false_iff] at hg30
      refine KL.skip rfl rfl rfl ?_
      refine KL.skip rfl rfl rfl ?_
      refine KL.skip rfl rfl rfl ?_
      refine KL.skip rfl rfl rfl ?_
      refine KL.skip rfl rfl rfl ?_
      refine KL.skip rfl rfl rfl ?_
      refine KL.skip rfl rfl rfl ?_
      refine KL.skip rfl rfl rfl ?_
      refine KL.skip rfl rfl rfl ?_
      refine KL.op (R.pick rfl rfl rfl) rfl rfl rfl ?_
      refine KL.nil ?_
      refine KQ.seq ?_
      refine KC.condT rfl ?_
      refine KC.seq ?_
      refine KC.region ?_
      refine KL.op (R.assign rfl rfl) rfl rfl rfl ?_
      refine KL.op (R.assign rfl rfl) rfl rfl rfl ?_
      refine KL.op (R.assign rfl rfl) rfl rfl rfl ?_
      refine KL.nil ?_
      refine KQ.seq ?_
      refine KC.ret ?_
      refine KQ.retThen ?_
      refine KQ.ofRet ?_
      refine KQ.fin3 Tryd.results9 rfl rfl rfl ?_
      first
        | exact ⟨by rw [Nm.bad ht (.inl (by omega))]; rfl, rfl⟩
        | exact ⟨by rw [Nm.bad ht (.inr (by assumption))]; rfl, rfl⟩
        | exact ⟨by rw [Nm.good ht (by omega) (by assumption)]; rfl, rfl⟩
    · intro hg30
      try simp only [decide_eq_true_eq, decide_eq_false_iff_not, Bool.not_eq_true', Bool.not_eq_false', Bool.and_eq_true, Bool.or_eq_false_iff] at hg30
      refine KL.op (R.move rfl rfl) rfl rfl rfl ?_
      refine KL.op (R.move rfl rfl) rfl rfl rfl ?_
      refine KL.op (R.move rfl rfl) rfl rfl rfl ?_
      refine KL.op (R.move rfl rfl) rfl rfl rfl ?_
      refine KL.op (R.convI rfl Tryd.underlying29 Tryd.underlying3 rfl (by dsimp only [InR]; omega)) rfl rfl rfl ?_
      refine KL.op ((R.add rfl rfl rfl (by dsimp only [InR]; omega)).val (congrArg (Value.int .i64) (show _ = ((k + n.toNat : Nat) : Int) from by omega))) rfl rfl rfl ?_
      refine KL.op (R.slice rfl Tryd.underlying22 sz5 rfl hs (bnd.mk (r := k) rfl rfl) (bnd.mk (r := k + n.toNat) rfl rfl) (by omega) (by omega)) rfl rfl rfl ?_
      have st : Sl 1 (EInt .u8) H (subV 1 v k (k + n.toNat)) ((l.drop k).take n.toNat) := by
        have h9 := hs.sub (lo := k) (hi := k + n.toNat) (by omega) (by omega)
        rwa [List.drop_take, Nat.add_sub_cancel_left] at h9
      refine KL.call rfl rfl rfl rfl Tryd.call11 rfl rfl rfl (refValid_any _ _ st) ?_
      rintro _ _ ⟨rfl, rfl⟩
      refine KL.op (R.not rfl rfl) rfl rfl rfl ?_
      refine KL.op (R.pick rfl rfl rfl) rfl rfl rfl ?_
      refine KL.nil ?_
      refine KQ.seq ?_
      refine KC.iteL rfl ?_ ?_
      · intro hc40
        try simp only [decide_eq_true_eq, decide_eq_false_iff_not, Bool.not_eq_true', Bool.not_eq_false', Bool.and_eq_true, Bool.or_eq_false_iff] at hc40
        refine KC.seq ?_
        refine KC.region ?_
        refine KL.op (R.assign rfl rfl) rfl rfl rfl ?_
        refine KL.op (R.assign rfl rfl) rfl rfl rfl ?_
        refine KL.op (R.assign rfl rfl) rfl rfl rfl ?_
        refine KL.nil ?_
        refine KQ.seq ?_
        refine KC.ret ?_
        refine KQ.retThen ?_
        refine KQ.ofRet ?_
        refine KQ.fin3 Tryd.results9 rfl rfl rfl ?_
        first
          | exact ⟨by rw [Nm.bad ht (.inl (by omega))]; rfl, rfl⟩
          | exact ⟨by rw [Nm.bad ht (.inr (by assumption))]; rfl, rfl⟩
          | exact ⟨by rw [Nm.good ht (by omega) (by assumption)]; rfl, rfl⟩
      · intro hc40
        try simp only [decide_eq_true_eq, decide_eq_false_iff_not, Bool.not_eq_true', Bool.not_eq_false', Bool.and_eq_true, Bool.or_eq_false_iff] at hc40
        refine KC.skip ?_
        refine KQ.seq ?_
        refine KC.seq ?_
        refine KC.region ?_
        refine KL.op (R.move rfl rfl) rfl rfl rfl ?_
        refine KL.op (R.move rfl rfl) rfl rfl rfl ?_
        refine KL.op (R.move rfl rfl) rfl rfl rfl ?_
        refine KL.op (R.move rfl rfl) rfl rfl rfl ?_
        refine KL.op (R.convI rfl Tryd.underlying29 Tryd.underlying3 rfl (by dsimp only [InR]; omega)) rfl rfl rfl ?_
        refine KL.op ((R.add rfl rfl rfl (by dsimp only [InR]; omega)).val (congrArg (Value.int .i64) (show _ = ((k + n.toNat : Nat) : Int) from by omega))) rfl rfl rfl ?_
        refine KL.op (R.slice rfl Tryd.underlying22 sz5 rfl hs (bnd.mk (r := k) rfl rfl) (bnd.mk (r := k + n.toNat) rfl rfl) (by omega) (by omega)) rfl rfl rfl ?_
        have st : Sl 1 (EInt .u8) H (subV 1 v k (k + n.toNat)) ((l.drop k).take n.toNat) := by
          have h9 := hs.sub (lo := k) (hi := k + n.toNat) (by omega) (by omega)
          rwa [List.drop_take, Nat.add_sub_cancel_left] at h9
        refine KL.op (R.convBS rfl Tryd.underlying22 Tryd.underlying5 Tryd.underlying9 rfl st) rfl rfl rfl ?_
        refine KL.op (R.move rfl rfl) rfl rfl rfl ?_
        refine KL.op (R.move rfl rfl) rfl rfl rfl ?_
        refine KL.op (R.convI rfl Tryd.underlying29 Tryd.underlying3 rfl (by dsimp only [InR]; omega)) rfl rfl rfl ?_
        refine KL.op ((R.add rfl rfl rfl (by dsimp only [InR]; omega)).val (congrArg (Value.int .i64) (show _ = ((k + n.toNat : Nat) : Int) from by omega))) rfl rfl rfl ?_
        refine KL.op (R.assign rfl rfl) rfl rfl rfl ?_
        refine KL.op (R.assign rfl rfl) rfl rfl rfl ?_
        refine KL.op (R.assign rfl rfl) rfl rfl rfl ?_
        refine KL.nil ?_
        refine KQ.seq ?_
        refine KC.ret ?_
        refine KQ.ofRet ?_
        refine KQ.fin3 Tryd.results9 rfl rfl rfl ?_
        first
          | exact ⟨by rw [Nm.bad ht (.inl (by omega))]; rfl, rfl⟩
          | exact ⟨by rw [Nm.bad ht (.inr (by assumption))]; rfl, rfl⟩
          | exact ⟨by rw [Nm.good ht (by omega) (by assumption)]; rfl, rfl⟩

theorem RTake_is {H : Heap} (v : Value) (l : List Int) (hs : Sl 1 (EInt .u8) H v l) {o : Option (List Int × Nat)} (e : Nm.nt l = o) : Ct Tryd.prog 9 [v] H (fun u H' => u = Nm.V o ∧ H = H') := by
  subst e
  cases ht : Lb.tk l 32 with
  | none => exact RTake_none v l hs ht
  | some p => exact RTake_some v l hs p.1 p.2 ht

set_option maxRecDepth 100000 in
set_option maxHeartbeats 1000000 in
theorem NAppend_any {H : Heap} (v : Value) (l : List Int) (s : ByteArray) (hs : Sl 1 (EInt .u8) H v l) (hl : l.length ≤ 100000) (hz : s.size ≤ 100000) : Ct Tryd.prog 12 [v, .string s] H (fun u H' => Own 1 (EInt .u8) 5 #[] H.size H' u (l ++ Lb.ap (s.size : Nat) ++ ints s) ∧ Old H H') := by
  refine Ct.mk Tryd.func12 rfl Tryd.ntmps12 rfl ?_
  intro W0 hW0
  have o0 : Old H H := Old.refl H
  refine KC.seq ?_
  refine KC.region ?_
  refine KL.op (R.assign rfl rfl) rfl rfl rfl ?_
  refine KL.nil ?_
  refine KQ.seq ?_
  refine KC.seq ?_
  refine KC.region ?_
  refine KL.op (R.move rfl rfl) rfl rfl rfl ?_
  refine KL.op (R.move rfl rfl) rfl rfl rfl ?_
  refine KL.op (R.lenStr (ty := 0) rfl Tryd.underlying9 rfl) rfl rfl rfl ?_
  refine KL.op (R.convI rfl Tryd.underlying3 Tryd.underlying29 rfl (by dsimp only [InR]; omega)) rfl rfl rfl ?_
  refine KL.call rfl rfl rfl rfl Tryd.call18 rfl rfl rfl (AppendU_k _ _ _ hs (by omega) (by omega) (by omega)) ?_
  rintro va H1 ⟨wa, ox⟩
  have zc_H1 := (ox).1
  have o0 := o0.trans ox
  have hs := hs.old ox
  have hal := (Lb.ap_length (z := (s.size : Int)) (by omega) (by omega)).2
  refine KL.op (R.move rfl rfl) rfl rfl rfl ?_
  have lt2 := wa.lt
  refine KL.opM (M.appendStr rfl Tryd.underlying22 Tryd.underlying9 inf5 rfl rfl wa (by omega) (by rw [List.length_append]; omega)) rfl rfl rfl ?_
  rintro v2 H2 ⟨w2, g2⟩
  have ob2 := g2.oldB wa (by omega)
  have o0 := o0.then ob2 (by omega)
  have z2 := ob2.1
  have wa := w2
  refine KL.op (R.assign rfl rfl) rfl rfl rfl ?_
  refine KL.nil ?_
  refine KQ.seq ?_
  refine KC.ret ?_
  refine KQ.ofRet ?_
  refine KQ.fin1 Tryd.results12 rfl ?_
  exact ⟨wa, o0⟩

set_option maxRecDepth 100000 in
set_option maxHeartbeats 1000000 in
theorem known_any {H : Heap} (hT : TabU H) : Ct Tryd.prog 7 [] H (fun u H' => u = .bool true ∧ Old H H') := by
  refine Ct.mk Tryd.func7 rfl Tryd.ntmps7 rfl ?_
  intro W0 hW0
  have o0 : Old H H := Old.refl H
  refine KC.seq ?_
  refine KC.region ?_
  refine KL.op (R.assign rfl rfl) rfl rfl rfl ?_
  refine KL.nil ?_
  refine KQ.seq ?_
  refine KC.seq ?_
  refine KC.region ?_
  refine KL.opM (M.lit rfl Tryd.underlying22 zs5 (by decide) rfl rfl rfl) rfl rfl rfl ?_
  rintro _ H1 ⟨rfl, n1⟩
  have z1 := n1.2.1
  have o0 := o0.trans n1.1
  have b1 := n1.2.2
  have l1 : Sl 1 (EInt .u8) H1 _ [2, 195, 164, 7] := Sl.lits n1 rfl (by decide) (by decide)
  refine KL.call rfl rfl rfl rfl Tryd.call8 rfl rfl rfl (Take_is _ _ l1 (hT.old o0) (o := some ([195, 164], 3)) (by decide +kernel)) ?_
  rintro _ H2 ⟨rfl, ox⟩
  have zc_H2 := (ox).1
  have o0 := o0.trans ox
  have l1 := l1.old ox
  refine KL.op (R.move rfl rfl) rfl rfl rfl ?_
  refine KL.op (R.extract rfl rfl rfl) rfl rfl rfl ?_
  refine KL.op (R.extract rfl rfl rfl) rfl rfl rfl ?_
  refine KL.op (R.extract rfl rfl rfl) rfl rfl rfl ?_
  refine KL.op (R.assign rfl rfl) rfl rfl rfl ?_
  refine KL.op (R.assign rfl rfl) rfl rfl rfl ?_
  refine KL.op (R.assign rfl rfl) rfl rfl rfl ?_
  refine KL.nil ?_
  refine KQ.seq ?_
  refine KC.seq ?_
  refine KC.region ?_
  refine KL.opM (M.lit rfl Tryd.underlying22 zs5 (by decide) rfl rfl rfl) rfl rfl rfl ?_
  rintro _ H3 ⟨rfl, n3⟩
  have z3 := n3.2.1
  have o0 := o0.trans n3.1
  have l1 := l1.old n3.1
  have b3 := n3.2.2
  have l2 : Sl 1 (EInt .u8) H3 _ [1, 195] := Sl.lits n3 rfl (by decide) (by decide)
  refine KL.call rfl rfl rfl rfl Tryd.call8 rfl rfl rfl (Take_is _ _ l2 (hT.old o0) (o := none) (by decide +kernel)) ?_
  rintro _ H4 ⟨rfl, ox⟩
  have zc_H4 := (ox).1
  have o0 := o0.trans ox
  have l1 := l1.old ox
  have l2 := l2.old ox
  refine KL.op (R.move rfl rfl) rfl rfl rfl ?_
  refine KL.op (R.extract rfl rfl rfl) rfl rfl rfl ?_
  refine KL.op (R.extract rfl rfl rfl) rfl rfl rfl ?_
  refine KL.op (R.extract rfl rfl rfl) rfl rfl rfl ?_
  refine KL.op (R.assign rfl rfl) rfl rfl rfl ?_
  refine KL.op (R.assign rfl rfl) rfl rfl rfl ?_
  refine KL.op (R.assign rfl rfl) rfl rfl rfl ?_
  refine KL.nil ?_
  refine KQ.seq ?_
  refine KC.seq ?_
  refine KC.region ?_
  refine KL.opM (M.lit rfl Tryd.underlying22 zs5 (by decide) rfl rfl rfl) rfl rfl rfl ?_
  rintro _ H5 ⟨rfl, n5⟩
  have z5 := n5.2.1
  have o0 := o0.trans n5.1
  have l1 := l1.old n5.1
  have l2 := l2.old n5.1
  have b5 := n5.2.2
  have l3 : Sl 1 (EInt .u8) H5 _ [2, 97] := Sl.lits n5 rfl (by decide) (by decide)
  refine KL.call rfl rfl rfl rfl Tryd.call8 rfl rfl rfl (Take_is _ _ l3 (hT.old o0) (o := none) (by decide +kernel)) ?_
  rintro _ H6 ⟨rfl, ox⟩
  have zc_H6 := (ox).1
  have o0 := o0.trans ox
  have l1 := l1.old ox
  have l2 := l2.old ox
  have l3 := l3.old ox
  refine KL.op (R.move rfl rfl) rfl rfl rfl ?_
  refine KL.op (R.extract rfl rfl rfl) rfl rfl rfl ?_
  refine KL.op (R.extract rfl rfl rfl) rfl rfl rfl ?_
  refine KL.op (R.extract rfl rfl rfl) rfl rfl rfl ?_
  refine KL.op (R.assign rfl rfl) rfl rfl rfl ?_
  refine KL.op (R.assign rfl rfl) rfl rfl rfl ?_
  refine KL.op (R.assign rfl rfl) rfl rfl rfl ?_
  refine KL.nil ?_
  refine KQ.seq ?_
  refine KC.seq ?_
  refine KC.region ?_
  refine KL.call rfl rfl rfl rfl Tryd.call12 rfl rfl rfl (NAppend_any _ _ _ (Sl.nil _ _ _) (by decide) (by decide)) ?_
  rintro va H7 ⟨wa, ox⟩
  have zc_H7 := (ox).1
  have o0 := o0.trans ox
  have l1 := l1.old ox
  have l2 := l2.old ox
  have l3 := l3.old ox
  have sA := wa.sl (emptyOld _) (by omega)
  refine KL.op (R.convBS rfl Tryd.underlying22 Tryd.underlying5 Tryd.underlying9 rfl (by first | exact l1 | exact l2 | exact l3 | exact sA | assumption)) rfl rfl rfl ?_
  refine KL.op ((R.eqlStr rfl rfl rfl).val (congrArg Value.bool (show _ = true by rw [str_eq]; exact decide_eq_true (by decide +kernel)))) rfl rfl rfl ?_
  refine KL.op (R.move rfl rfl) rfl rfl rfl ?_
  refine KL.op (R.move rfl rfl) rfl rfl rfl ?_
  refine KL.op ((R.eqlStr rfl rfl rfl).val (congrArg Value.bool (show _ = true by rw [str_eq]; exact decide_eq_true (by decide +kernel)))) rfl rfl rfl ?_
  refine KL.op (R.pick rfl rfl rfl) rfl rfl rfl ?_
  refine KL.op (R.move rfl rfl) rfl rfl rfl ?_
  refine KL.op (R.move rfl rfl) rfl rfl rfl ?_
  refine KL.op ((R.eql rfl rfl rfl).val (congrArg Value.bool (decide_eq_true (by rfl)))) rfl rfl rfl ?_
  refine KL.op (R.pick rfl rfl rfl) rfl rfl rfl ?_
  refine KL.op (R.move rfl rfl) rfl rfl rfl ?_
  refine KL.op (R.move rfl rfl) rfl rfl rfl ?_
  refine KL.op (R.pick rfl rfl rfl) rfl rfl rfl ?_
  refine KL.op (R.move rfl rfl) rfl rfl rfl ?_
  refine KL.op (R.move rfl rfl) rfl rfl rfl ?_
  refine KL.op (R.not rfl rfl) rfl rfl rfl ?_
  refine KL.op (R.pick rfl rfl rfl) rfl rfl rfl ?_
  refine KL.op (R.move rfl rfl) rfl rfl rfl ?_
  refine KL.op (R.move rfl rfl) rfl rfl rfl ?_
  refine KL.op (R.not rfl rfl) rfl rfl rfl ?_
  refine KL.op (R.pick rfl rfl rfl) rfl rfl rfl ?_
  refine KL.op (R.move rfl rfl) rfl rfl rfl ?_
  refine KL.opM (M.lit rfl Tryd.underlying22 zs5 (by decide) rfl rfl rfl) rfl rfl rfl ?_
  rintro _ H8 ⟨rfl, n8⟩
  have z8 := n8.2.1
  have o0 := o0.trans n8.1
  have l1 := l1.old n8.1
  have l2 := l2.old n8.1
  have l3 := l3.old n8.1
  have sA := sA.old n8.1
  have b8 := n8.2.2
  have l4 : Sl 1 (EInt .u8) H8 _ [192, 128] := Sl.lits n8 rfl (by decide) (by decide)
  refine KL.call rfl rfl rfl rfl Tryd.call10 rfl rfl rfl (Valid_is _ _ l4 (hT.old o0) (b := false) (by decide +kernel)) ?_
  rintro _ H9 ⟨rfl, ox⟩
  have zc_H9 := (ox).1
  have o0 := o0.trans ox
  have l1 := l1.old ox
  have l2 := l2.old ox
  have l3 := l3.old ox
  have sA := sA.old ox
  have l4 := l4.old ox
  refine KL.op (R.not rfl rfl) rfl rfl rfl ?_
  refine KL.op (R.pick rfl rfl rfl) rfl rfl rfl ?_
  refine KL.op (R.move rfl rfl) rfl rfl rfl ?_
  refine KL.opM (M.lit rfl Tryd.underlying22 zs5 (by decide) rfl rfl rfl) rfl rfl rfl ?_
  rintro _ H10 ⟨rfl, n10⟩
  have z10 := n10.2.1
  have o0 := o0.trans n10.1
  have l1 := l1.old n10.1
  have l2 := l2.old n10.1
  have l3 := l3.old n10.1
  have sA := sA.old n10.1
  have l4 := l4.old n10.1
  have b10 := n10.2.2
  have l5 : Sl 1 (EInt .u8) H10 _ [237, 160, 128] := Sl.lits n10 rfl (by decide) (by decide)
  refine KL.call rfl rfl rfl rfl Tryd.call10 rfl rfl rfl (Valid_is _ _ l5 (hT.old o0) (b := false) (by decide +kernel)) ?_
  rintro _ H11 ⟨rfl, ox⟩
  have zc_H11 := (ox).1
  have o0 := o0.trans ox
  have l1 := l1.old ox
  have l2 := l2.old ox
  have l3 := l3.old ox
  have sA := sA.old ox
  have l4 := l4.old ox
  have l5 := l5.old ox
  refine KL.op (R.not rfl rfl) rfl rfl rfl ?_
  refine KL.op (R.pick rfl rfl rfl) rfl rfl rfl ?_
  refine KL.op (R.move rfl rfl) rfl rfl rfl ?_
  refine KL.opM (M.lit rfl Tryd.underlying22 zs5 (by decide) rfl rfl rfl) rfl rfl rfl ?_
  rintro _ H12 ⟨rfl, n12⟩
  have z12 := n12.2.1
  have o0 := o0.trans n12.1
  have l1 := l1.old n12.1
  have l2 := l2.old n12.1
  have l3 := l3.old n12.1
  have sA := sA.old n12.1
  have l4 := l4.old n12.1
  have l5 := l5.old n12.1
  have b12 := n12.2.2
  have l6 : Sl 1 (EInt .u8) H12 _ [244, 144, 128, 128] := Sl.lits n12 rfl (by decide) (by decide)
  refine KL.call rfl rfl rfl rfl Tryd.call10 rfl rfl rfl (Valid_is _ _ l6 (hT.old o0) (b := false) (by decide +kernel)) ?_
  rintro _ H13 ⟨rfl, ox⟩
  have zc_H13 := (ox).1
  have o0 := o0.trans ox
  have l1 := l1.old ox
  have l2 := l2.old ox
  have l3 := l3.old ox
  have sA := sA.old ox
  have l4 := l4.old ox
  have l5 := l5.old ox
  have l6 := l6.old ox
  refine KL.op (R.not rfl rfl) rfl rfl rfl ?_
  refine KL.op (R.pick rfl rfl rfl) rfl rfl rfl ?_
  refine KL.op (R.move rfl rfl) rfl rfl rfl ?_
  refine KL.call rfl rfl rfl rfl Tryd.call10 rfl rfl rfl (Valid_is _ _ (Sl.nil 1 (EInt .u8) _) (hT.old o0) (b := true) (by decide +kernel)) ?_
  rintro _ H14 ⟨rfl, ox⟩
  have zc_H14 := (ox).1
  have o0 := o0.trans ox
  have l1 := l1.old ox
  have l2 := l2.old ox
  have l3 := l3.old ox
  have sA := sA.old ox
  have l4 := l4.old ox
  have l5 := l5.old ox
  have l6 := l6.old ox
  refine KL.op (R.pick rfl rfl rfl) rfl rfl rfl ?_
  refine KL.op (R.assign rfl rfl) rfl rfl rfl ?_
  refine KL.nil ?_
  refine KQ.seq ?_
  refine KC.ret ?_
  refine KQ.ofRet ?_
  refine KQ.fin1 Tryd.results7 rfl ?_
  exact ⟨rfl, o0⟩

end Go.Proofs.YtacbhlicdhhlnaaDoor
