/- Package name, and the document: a name is taken, appended; the small examples. No condition but that the library tables are laid. -/
import Derived.Test.YtnbdadjomnpcgaaDoorNameB
import Derived.Test.YtnbdadjomnpcgaaDoorUtfR
namespace Go.Proofs.YtnbdadjomnpcgaaDoor
open Go Go.RowKit
set_option linter.unusedVariables false
set_option linter.unusedSimpArgs false
set_option linter.unnecessarySimpa false
set_option maxRecDepth 100000 in
set_option maxHeartbeats 4000000 in
theorem Take_none {H : Heap} (v : Value) (l : List Int) (hs : Sl 1 (EInt .u8) H v l) (hT : TabU H) (ht : Lb.tk l 32 = none) : Ct Tryd.prog 23 [v] H (fun u H' => u = Nm.V (Nm.nt l) ∧ Old H H') := by
  refine Ct.mk Tryd.func23 rfl Tryd.ntmps23 rfl ?_
  intro W0 hW0
  have o0 : Old H H := Old.refl H
  refine KC.seq ?_
  refine KC.region ?_
  refine KL.op (R.assign rfl rfl) rfl rfl rfl ?_
  refine KL.op (R.assign rfl rfl) rfl rfl rfl ?_
  refine KL.op (R.assign rfl rfl) rfl rfl rfl ?_
  refine KL.nil ?_
  refine KQ.seq ?_
  refine KC.seq ?_
  refine KC.region ?_
  refine KL.op (R.move rfl rfl) rfl rfl rfl ?_
  refine KL.call rfl rfl rfl rfl Tryd.call16 rfl rfl rfl (TakeU_none _ _ _ hs ht) ?_
  rintro _ _ ⟨rfl, rfl⟩
  refine KL.op (R.move rfl rfl) rfl rfl rfl ?_
  refine KL.op (R.extract rfl rfl rfl) rfl rfl rfl ?_
  refine KL.op (R.extract rfl rfl rfl) rfl rfl rfl ?_
  refine KL.op (R.extract rfl rfl rfl) rfl rfl rfl ?_
  refine KL.op (R.assign rfl rfl) rfl rfl rfl ?_
  refine KL.op (R.assign rfl rfl) rfl rfl rfl ?_
  refine KL.op (R.assign rfl rfl) rfl rfl rfl ?_
  refine KL.nil ?_
  refine KQ.seq ?_
  refine KC.seq ?_
  refine KC.seq ?_
  refine KC.region ?_
  refine KL.op (R.move rfl rfl) rfl rfl rfl ?_
  refine KL.op (R.not rfl rfl) rfl rfl rfl ?_
  refine KL.op (R.move rfl rfl) rfl rfl rfl ?_
  refine KL.skip rfl rfl rfl ?_
  refine KL.skip rfl rfl rfl ?_
  refine KL.skip rfl rfl rfl ?_
  refine KL.skip rfl rfl rfl ?_
  refine KL.skip rfl rfl rfl ?_
  refine KL.skip rfl rfl rfl ?_
  refine KL.skip rfl rfl rfl ?_
  refine KL.op (R.pick rfl rfl rfl) rfl rfl rfl ?_
  refine KL.nil ?_
  refine KQ.seq ?_
  refine KC.condT rfl ?_
  refine KC.seq ?_
  refine KC.region ?_
  refine KL.op (R.assign rfl rfl) rfl rfl rfl ?_
  refine KL.op (R.assign rfl rfl) rfl rfl rfl ?_
  refine KL.op (R.assign rfl rfl) rfl rfl rfl ?_
  refine KL.nil ?_
  refine KQ.seq ?_
  refine KC.ret ?_
  refine KQ.retThen ?_
  refine KQ.ofRet ?_
  refine KQ.fin3 Tryd.results23 rfl rfl rfl ?_
  exact ⟨by rw [Nm.none ht]; rfl, o0⟩

set_option maxRecDepth 100000 in
set_option maxHeartbeats 4000000 in
theorem Take_some {H : Heap} (v : Value) (l : List Int) (hs : Sl 1 (EInt .u8) H v l) (hT : TabU H) (n : Int) (k : Nat) (ht : Lb.tk l 32 = some (n, k)) : Ct Tryd.prog 23 [v] H (fun u H' => u = Nm.V (Nm.nt l) ∧ Old H H') := by
  refine Ct.mk Tryd.func23 rfl Tryd.ntmps23 rfl ?_
  intro W0 hW0
  have o0 : Old H H := Old.refl H
  have hb := Lb.tk32 ht
  have hlen := hs.len
  refine KC.seq ?_
  refine KC.region ?_
  refine KL.op (R.assign rfl rfl) rfl rfl rfl ?_
  refine KL.op (R.assign rfl rfl) rfl rfl rfl ?_
  refine KL.op (R.assign rfl rfl) rfl rfl rfl ?_
  refine KL.nil ?_
  refine KQ.seq ?_
  refine KC.seq ?_
  refine KC.region ?_
  refine KL.op (R.move rfl rfl) rfl rfl rfl ?_
  refine KL.call rfl rfl rfl rfl Tryd.call16 rfl rfl rfl (TakeU_some _ _ _ _ _ hs ht) ?_
  rintro _ _ ⟨rfl, rfl⟩
  refine KL.op (R.move rfl rfl) rfl rfl rfl ?_
  refine KL.op (R.extract rfl rfl rfl) rfl rfl rfl ?_
  refine KL.op (R.extract rfl rfl rfl) rfl rfl rfl ?_
  refine KL.op (R.extract rfl rfl rfl) rfl rfl rfl ?_
  refine KL.op (R.assign rfl rfl) rfl rfl rfl ?_
  refine KL.op (R.assign rfl rfl) rfl rfl rfl ?_
  refine KL.op (R.assign rfl rfl) rfl rfl rfl ?_
  refine KL.nil ?_
  refine KQ.seq ?_
  refine KC.seq ?_
  refine KC.seq ?_
  refine KC.region ?_
  refine KL.op (R.move rfl rfl) rfl rfl rfl ?_
  refine KL.op (R.not rfl rfl) rfl rfl rfl ?_
  refine KL.op (R.move rfl rfl) rfl rfl rfl ?_
  refine KL.op (R.move rfl rfl) rfl rfl rfl ?_
  refine KL.op (R.move rfl rfl) rfl rfl rfl ?_
  refine KL.op ((by first | exact R.lenS rfl Tryd.underlying22 rfl (by first | exact hs | assumption) | exact R.len (ty := 0) rfl Tryd.underlying22 rfl)) rfl rfl rfl ?_
  refine KL.op (R.move rfl rfl) rfl rfl rfl ?_
  refine KL.op (R.sub rfl rfl rfl (by dsimp only [InR]; omega)) rfl rfl rfl ?_
  refine KL.op (R.convI rfl Tryd.underlying3 Tryd.underlying43 rfl (by dsimp only [InR]; omega)) rfl rfl rfl ?_
  refine KL.op (R.gtr rfl rfl rfl) rfl rfl rfl ?_
  refine KL.op (R.pick rfl rfl rfl) rfl rfl rfl ?_
  refine KL.nil ?_
  refine KQ.seq ?_
  refine KC.iteL rfl ?_ ?_
  · intro hc25
    try simp only [decide_eq_true_eq, decide_eq_false_iff_not, Bool.not_eq_true', Bool.not_eq_false', Bool.and_eq_true, Bool.or_eq_false_iff] at hc25
    refine KC.seq ?_
    refine KC.region ?_
    refine KL.op (R.assign rfl rfl) rfl rfl rfl ?_
    refine KL.op (R.assign rfl rfl) rfl rfl rfl ?_
    refine KL.op (R.assign rfl rfl) rfl rfl rfl ?_
    refine KL.nil ?_
    refine KQ.seq ?_
    refine KC.ret ?_
    refine KQ.retThen ?_
    refine KQ.ofRet ?_
    refine KQ.fin3 Tryd.results23 rfl rfl rfl ?_
    first
      | exact ⟨by rw [Nm.bad ht (.inl (by omega))]; rfl, o0⟩
      | exact ⟨by rw [Nm.bad ht (.inr (by assumption))]; rfl, o0⟩
      | exact ⟨by rw [Nm.good ht (by omega) (by assumption)]; rfl, o0⟩
  · intro hc25
    try simp only [decide_eq_true_eq, decide_eq_false_iff_not, Bool.not_eq_true', Bool.not_eq_false', Bool.and_eq_true, Bool.or_eq_false_iff] at hc25
    refine KC.skip ?_
    refine KQ.seq ?_
    refine KC.seq ?_
    refine KC.region ?_
    refine KL.op (R.move rfl rfl) rfl rfl rfl ?_
    refine KL.op (R.move rfl rfl) rfl rfl rfl ?_
    refine KL.op (R.convI rfl Tryd.underlying43 Tryd.underlying3 rfl (by dsimp only [InR]; omega)) rfl rfl rfl ?_
    refine KL.op ((R.add rfl rfl rfl (by dsimp only [InR]; omega)).val (congrArg (Value.int .i64) (show _ = ((k + n.toNat : Nat) : Int) from by omega))) rfl rfl rfl ?_
    refine KL.op (R.assign rfl rfl) rfl rfl rfl ?_
    refine KL.nil ?_
    refine KQ.seq ?_
    refine KC.seq ?_
    refine KC.region ?_
    refine KL.op (R.move rfl rfl) rfl rfl rfl ?_
    refine KL.op (R.move rfl rfl) rfl rfl rfl ?_
    refine KL.op (R.move rfl rfl) rfl rfl rfl ?_
    refine KL.op (R.move rfl rfl) rfl rfl rfl ?_
    refine KL.op (R.slice3 (i := k) (j := k + n.toNat) rfl Tryd.underlying22 sz5 rfl hs (bnd.mk rfl rfl) rfl rfl rfl rfl (by omega) (by omega)) rfl rfl rfl ?_
    have st : Sl 1 (EInt .u8) H (sub3 1 v k (k + n.toNat) (k + n.toNat)) ((l.drop k).take n.toNat) := by
      have h9 := hs.sub3 (lo := k) (hi := k + n.toNat) (by omega) (by omega)
      rwa [List.drop_take, Nat.add_sub_cancel_left] at h9
    refine KL.op (R.assign rfl rfl) rfl rfl rfl ?_
    refine KL.nil ?_
    refine KQ.seq ?_
    refine KC.seq ?_
    refine KC.seq ?_
    refine KC.region ?_
    refine KL.op (R.move rfl rfl) rfl rfl rfl ?_
    refine KL.call rfl rfl rfl rfl Tryd.call19 rfl rfl rfl (nameValid_any _ _ st (hT.old o0)) ?_
    rintro _ H1 ⟨rfl, ox⟩
    have zc_H1 := (ox).1
    have o0 := o0.trans ox
    have hs := hs.old ox
    have st := st.old ox
    refine KL.op (R.not rfl rfl) rfl rfl rfl ?_
    refine KL.nil ?_
    refine KQ.seq ?_
    refine KC.iteL rfl ?_ ?_
    · intro hc37
      try simp only [decide_eq_true_eq, decide_eq_false_iff_not, Bool.not_eq_true', Bool.not_eq_false', Bool.and_eq_true, Bool.or_eq_false_iff] at hc37
      refine KC.seq ?_
      refine KC.region ?_
      refine KL.op (R.assign rfl rfl) rfl rfl rfl ?_
      refine KL.op (R.assign rfl rfl) rfl rfl rfl ?_
      refine KL.op (R.assign rfl rfl) rfl rfl rfl ?_
      refine KL.nil ?_
      refine KQ.seq ?_
      refine KC.ret ?_
      refine KQ.retThen ?_
      refine KQ.ofRet ?_
      refine KQ.fin3 Tryd.results23 rfl rfl rfl ?_
      first
        | exact ⟨by rw [Nm.bad ht (.inl (by omega))]; rfl, o0⟩
        | exact ⟨by rw [Nm.bad ht (.inr (by assumption))]; rfl, o0⟩
        | exact ⟨by rw [Nm.good ht (by omega) (by assumption)]; rfl, o0⟩
    · intro hc37
      try simp only [decide_eq_true_eq, decide_eq_false_iff_not, Bool.not_eq_true', Bool.not_eq_false', Bool.and_eq_true, Bool.or_eq_false_iff] at hc37
      refine KC.skip ?_
      refine KQ.seq ?_
      refine KC.seq ?_
      refine KC.region ?_
      refine KL.op (R.move rfl rfl) rfl rfl rfl ?_
      refine KL.op (R.convBS rfl Tryd.underlying22 Tryd.underlying5 Tryd.underlying9 rfl st) rfl rfl rfl ?_
      refine KL.op (R.move rfl rfl) rfl rfl rfl ?_
      refine KL.op (R.assign rfl rfl) rfl rfl rfl ?_
      refine KL.op (R.assign rfl rfl) rfl rfl rfl ?_
      refine KL.op (R.assign rfl rfl) rfl rfl rfl ?_
      refine KL.nil ?_
      refine KQ.seq ?_
      refine KC.ret ?_
      refine KQ.ofRet ?_
      refine KQ.fin3 Tryd.results23 rfl rfl rfl ?_
      first
        | exact ⟨by rw [Nm.bad ht (.inl (by omega))]; rfl, o0⟩
        | exact ⟨by rw [Nm.bad ht (.inr (by assumption))]; rfl, o0⟩
        | exact ⟨by rw [Nm.good ht (by omega) (by assumption)]; rfl, o0⟩

theorem NTake_any {H : Heap} (v : Value) (l : List Int) (hs : Sl 1 (EInt .u8) H v l) (hT : TabU H) : Ct Tryd.prog 23 [v] H (fun u H' => u = Nm.V (Nm.nt l) ∧ Old H H') := by
  cases ht : Lb.tk l 32 with
  | none => exact Take_none v l hs hT ht
  | some p => exact Take_some v l hs hT p.1 p.2 ht
theorem Take_is {H : Heap} (v : Value) (l : List Int) (hs : Sl 1 (EInt .u8) H v l) (hT : TabU H) {o : Option (List Int × Nat)} (e : Nm.nt l = o) : Ct Tryd.prog 23 [v] H (fun u H' => u = Nm.V o ∧ Old H H') := by
  have := NTake_any v l hs hT
  rw [e] at this; exact this
theorem Valid_is {H : Heap} (v : Value) (l : List Int) (hs : Sl 1 (EInt .u8) H v l) (hT : TabU H) {b : Bool} (e : Utf.valid l = b) : Ct Tryd.prog 19 [v] H (fun u H' => u = .bool b ∧ Old H H') := by
  have := nameValid_any v l hs hT
  rw [e] at this; exact this

set_option maxRecDepth 100000 in
set_option maxHeartbeats 4000000 in
theorem RTake_none {H : Heap} (v : Value) (l : List Int) (hs : Sl 1 (EInt .u8) H v l) (ht : Lb.tk l 32 = none) : Ct Tryd.prog 26 [v] H (fun u H' => u = Nm.V (Nm.nt l) ∧ H = H') := by
  refine Ct.mk Tryd.func26 rfl Tryd.ntmps26 rfl ?_
  intro W0 hW0
  have o0 : Old H H := Old.refl H
  refine KC.seq ?_
  refine KC.region ?_
  refine KL.op (R.assign rfl rfl) rfl rfl rfl ?_
  refine KL.op (R.assign rfl rfl) rfl rfl rfl ?_
  refine KL.op (R.assign rfl rfl) rfl rfl rfl ?_
  refine KL.nil ?_
  refine KQ.seq ?_
  refine KC.seq ?_
  refine KC.region ?_
  refine KL.op (R.move rfl rfl) rfl rfl rfl ?_
  refine KL.call rfl rfl rfl rfl Tryd.call25 rfl rfl rfl (RefTake_none _ _ _ hs ht) ?_
  rintro _ _ ⟨rfl, rfl⟩
  refine KL.op (R.move rfl rfl) rfl rfl rfl ?_
  refine KL.op (R.extract rfl rfl rfl) rfl rfl rfl ?_
  refine KL.op (R.extract rfl rfl rfl) rfl rfl rfl ?_
  refine KL.op (R.assign rfl rfl) rfl rfl rfl ?_
  refine KL.op (R.assign rfl rfl) rfl rfl rfl ?_
  refine KL.nil ?_
  refine KQ.seq ?_
  refine KC.seq ?_
  refine KC.seq ?_
  refine KC.region ?_
  refine KL.op (R.move rfl rfl) rfl rfl rfl ?_
  refine KL.op ((R.eql rfl rfl rfl).val (congrArg Value.bool (decide_eq_true (by rfl)))) rfl rfl rfl ?_
  refine KL.op (R.move rfl rfl) rfl rfl rfl ?_
  refine KL.skip rfl rfl rfl ?_
  refine KL.skip rfl rfl rfl ?_
  refine KL.skip rfl rfl rfl ?_
  refine KL.skip rfl rfl rfl ?_
  refine KL.skip rfl rfl rfl ?_
  refine KL.op (R.pick rfl rfl rfl) rfl rfl rfl ?_
  refine KL.op (R.move rfl rfl) rfl rfl rfl ?_
  refine KL.skip rfl rfl rfl ?_
  refine KL.skip rfl rfl rfl ?_
  refine KL.skip rfl rfl rfl ?_
  refine KL.skip rfl rfl rfl ?_
  refine KL.skip rfl rfl rfl ?_
  refine KL.skip rfl rfl rfl ?_
  refine KL.skip rfl rfl rfl ?_
  refine KL.op (R.pick rfl rfl rfl) rfl rfl rfl ?_
  refine KL.op (R.move rfl rfl) rfl rfl rfl ?_
  refine KL.skip rfl rfl rfl ?_
  refine KL.skip rfl rfl rfl ?_
  refine KL.skip rfl rfl rfl ?_
  refine KL.skip rfl rfl rfl ?_
  refine KL.skip rfl rfl rfl ?_
  refine KL.skip rfl rfl rfl ?_
  refine KL.skip rfl rfl rfl ?_
  refine KL.skip rfl rfl rfl ?_
  refine KL.skip rfl rfl rfl ?_
  refine KL.op (R.pick rfl rfl rfl) rfl rfl rfl ?_
  refine KL.nil ?_
  refine KQ.seq ?_
  refine KC.condT rfl ?_
  refine KC.seq ?_
  refine KC.region ?_
  refine KL.op (R.assign rfl rfl) rfl rfl rfl ?_
  refine KL.op (R.assign rfl rfl) rfl rfl rfl ?_
  refine KL.op (R.assign rfl rfl) rfl rfl rfl ?_
  refine KL.nil ?_
  refine KQ.seq ?_
  refine KC.ret ?_
  refine KQ.retThen ?_
  refine KQ.ofRet ?_
  refine KQ.fin3 Tryd.results26 rfl rfl rfl ?_
  exact ⟨by rw [Nm.none ht]; rfl, rfl⟩

set_option maxRecDepth 100000 in
set_option maxHeartbeats 4000000 in
theorem RTake_some {H : Heap} (v : Value) (l : List Int) (hs : Sl 1 (EInt .u8) H v l) (n : Int) (k : Nat) (ht : Lb.tk l 32 = some (n, k)) : Ct Tryd.prog 26 [v] H (fun u H' => u = Nm.V (Nm.nt l) ∧ H = H') := by
  refine Ct.mk Tryd.func26 rfl Tryd.ntmps26 rfl ?_
  intro W0 hW0
  have o0 : Old H H := Old.refl H
  have hb := Lb.tk32 ht
  have hlen := hs.len
  refine KC.seq ?_
  refine KC.region ?_
  refine KL.op (R.assign rfl rfl) rfl rfl rfl ?_
  refine KL.op (R.assign rfl rfl) rfl rfl rfl ?_
  refine KL.op (R.assign rfl rfl) rfl rfl rfl ?_
  refine KL.nil ?_
  refine KQ.seq ?_
  refine KC.seq ?_
  refine KC.region ?_
  refine KL.op (R.move rfl rfl) rfl rfl rfl ?_
  refine KL.call rfl rfl rfl rfl Tryd.call25 rfl rfl rfl (RefTake_some _ _ _ _ hs ht) ?_
  rintro _ _ ⟨rfl, rfl⟩
  refine KL.op (R.move rfl rfl) rfl rfl rfl ?_
  refine KL.op (R.extract rfl rfl rfl) rfl rfl rfl ?_
  refine KL.op (R.extract rfl rfl rfl) rfl rfl rfl ?_
  refine KL.op (R.assign rfl rfl) rfl rfl rfl ?_
  refine KL.op (R.assign rfl rfl) rfl rfl rfl ?_
  refine KL.nil ?_
  refine KQ.seq ?_
  refine KC.seq ?_
  refine KC.seq ?_
  refine KC.region ?_
  refine KL.op (R.move rfl rfl) rfl rfl rfl ?_
  refine KL.op ((R.eql rfl rfl rfl).val (congrArg Value.bool (decide_eq_false (by omega)))) rfl rfl rfl ?_
  refine KL.op (R.move rfl rfl) rfl rfl rfl ?_
  refine KL.op (R.move rfl rfl) rfl rfl rfl ?_
  refine KL.op (R.move rfl rfl) rfl rfl rfl ?_
  refine KL.op ((by first | exact R.lenS rfl Tryd.underlying22 rfl (by first | exact hs | assumption) | exact R.len (ty := 0) rfl Tryd.underlying22 rfl)) rfl rfl rfl ?_
  refine KL.op (R.convI rfl Tryd.underlying3 Tryd.underlying43 rfl (by dsimp only [InR]; omega)) rfl rfl rfl ?_
  refine KL.op (R.gtr rfl rfl rfl) rfl rfl rfl ?_
  refine KL.op (R.pick rfl rfl rfl) rfl rfl rfl ?_
  refine KL.op (R.move rfl rfl) rfl rfl rfl ?_
  refine KL.case (d := 21) rfl ?_ ?_
  · intro hg21
    try simp only [decide_eq_true_eq, decide_eq_false_iff_not, Bool.not_eq_true', Bool.not_eq_false', Bool.and_eq_true, Bool.or_eq_false_iff] at hg21
    refine KL.skip rfl rfl rfl ?_
    refine KL.skip rfl rfl rfl ?_
    refine KL.skip rfl rfl rfl ?_
    refine KL.skip rfl rfl rfl ?_
    refine KL.skip rfl rfl rfl ?_
    refine KL.skip rfl rfl rfl ?_
    refine KL.skip rfl rfl rfl ?_
    refine KL.op (R.pick rfl rfl rfl) rfl rfl rfl ?_
    refine KL.op (R.move rfl rfl) rfl rfl rfl ?_
    refine KL.skip rfl rfl rfl ?_
    refine KL.skip rfl rfl rfl ?_
    refine KL.skip rfl rfl rfl ?_
    refine KL.skip rfl rfl rfl ?_
    refine KL.skip rfl rfl rfl ?_
    refine KL.skip rfl rfl rfl ?_
    refine KL.skip rfl rfl rfl ?_
    refine KL.skip rfl rfl rfl ?_
    refine KL.skip rfl rfl rfl ?_
    refine KL.op (R.pick rfl rfl rfl) rfl rfl rfl ?_
    refine KL.nil ?_
    refine KQ.seq ?_
    refine KC.condT rfl ?_
    refine KC.seq ?_
    refine KC.region ?_
    refine KL.op (R.assign rfl rfl) rfl rfl rfl ?_
    refine KL.op (R.assign rfl rfl) rfl rfl rfl ?_
    refine KL.op (R.assign rfl rfl) rfl rfl rfl ?_
    refine KL.nil ?_
    refine KQ.seq ?_
    refine KC.ret ?_
    refine KQ.retThen ?_
    refine KQ.ofRet ?_
    refine KQ.fin3 Tryd.results26 rfl rfl rfl ?_
    first
      | exact ⟨by rw [Nm.bad ht (.inl (by omega))]; rfl, rfl⟩
      | exact ⟨by rw [Nm.bad ht (.inr (by assumption))]; rfl, rfl⟩
      | exact ⟨by rw [Nm.good ht (by omega) (by assumption)]; rfl, rfl⟩
  · intro hg21
    try simp only [decide_eq_true_eq, decide_eq_false_iff_not, Bool.not_eq_true', Bool.not_eq_false', Bool.and_eq_true, Bool.or_eq_false_iff] at hg21
    refine KL.op (R.move rfl rfl) rfl rfl rfl ?_
    refine KL.op (R.move rfl rfl) rfl rfl rfl ?_
    refine KL.op (R.convI rfl Tryd.underlying43 Tryd.underlying3 rfl (by dsimp only [InR]; omega)) rfl rfl rfl ?_
    refine KL.op ((R.add rfl rfl rfl (by dsimp only [InR]; omega)).val (congrArg (Value.int .i64) (show _ = ((k + n.toNat : Nat) : Int) from by omega))) rfl rfl rfl ?_
    refine KL.op (R.move rfl rfl) rfl rfl rfl ?_
    refine KL.op ((by first | exact R.lenS rfl Tryd.underlying22 rfl (by first | exact hs | assumption) | exact R.len (ty := 0) rfl Tryd.underlying22 rfl)) rfl rfl rfl ?_
    refine KL.op (R.gtr rfl rfl rfl) rfl rfl rfl ?_
    refine KL.op (R.pick rfl rfl rfl) rfl rfl rfl ?_
    refine KL.op (R.move rfl rfl) rfl rfl rfl ?_
    refine KL.case (d := 30) rfl ?_ ?_
    · intro hg30
      try simp only [decide_eq_true_eq, decide_eq_false_iff_not, Bool.not_eq_true', Bool.not_eq_false', Bool.and_eq_true, Bool.or_eq_false_iff] at hg30
      refine KL.skip rfl rfl rfl ?_
      refine KL.skip rfl rfl rfl ?_
      refine KL.skip rfl rfl rfl ?_
      refine KL.skip rfl rfl rfl ?_
      refine KL.skip rfl rfl rfl ?_
      refine KL.skip rfl rfl rfl ?_
      refine KL.skip rfl rfl rfl ?_
      refine KL.skip rfl rfl rfl ?_
      refine KL.skip rfl rfl rfl ?_
      refine KL.op (R.pick rfl rfl rfl) rfl rfl rfl ?_
      refine KL.nil ?_
      refine KQ.seq ?_
      refine KC.condT rfl ?_
      refine KC.seq ?_
      refine KC.region ?_
      refine KL.op (R.assign rfl rfl) rfl rfl rfl ?_
      refine KL.op (R.assign rfl rfl) rfl rfl rfl ?_
      refine KL.op (R.assign rfl rfl) rfl rfl rfl ?_
      refine KL.nil ?_
      refine KQ.seq ?_
      refine KC.ret ?_
      refine KQ.retThen ?_
      refine KQ.ofRet ?_
      refine KQ.fin3 Tryd.results26 rfl rfl rfl ?_
      first
        | exact ⟨by rw [Nm.bad ht (.inl (by omega))]; rfl, rfl⟩
        | exact ⟨by rw [Nm.bad ht (.inr (by assumption))]; rfl, rfl⟩
        | exact ⟨by rw [Nm.good ht (by omega) (by assumption)]; rfl, rfl⟩
    · intro hg30
      try simp only [decide_eq_true_eq, decide_eq_false_iff_not, Bool.not_eq_true', Bool.not_eq_false', Bool.and_eq_true, Bool.or_eq_false_iff] at hg30
      refine KL.op (R.move rfl rfl) rfl rfl rfl ?_
      refine KL.op (R.move rfl rfl) rfl rfl rfl ?_
      refine KL.op (R.move rfl rfl) rfl rfl rfl ?_
      refine KL.op (R.move rfl rfl) rfl rfl rfl ?_
      refine KL.op (R.convI rfl Tryd.underlying43 Tryd.underlying3 rfl (by dsimp only [InR]; omega)) rfl rfl rfl ?_
      refine KL.op ((R.add rfl rfl rfl (by dsimp only [InR]; omega)).val (congrArg (Value.int .i64) (show _ = ((k + n.toNat : Nat) : Int) from by omega))) rfl rfl rfl ?_
      refine KL.op (R.slice rfl Tryd.underlying22 sz5 rfl hs (bnd.mk (r := k) rfl rfl) (bnd.mk (r := k + n.toNat) rfl rfl) (by omega) (by omega)) rfl rfl rfl ?_
      have st : Sl 1 (EInt .u8) H (subV 1 v k (k + n.toNat)) ((l.drop k).take n.toNat) := by
        have h9 := hs.sub (lo := k) (hi := k + n.toNat) (by omega) (by omega)
        rwa [List.drop_take, Nat.add_sub_cancel_left] at h9
      refine KL.call rfl rfl rfl rfl Tryd.call37 rfl rfl rfl (refValid_any _ _ st) ?_
      rintro _ _ ⟨rfl, rfl⟩
      refine KL.op (R.not rfl rfl) rfl rfl rfl ?_
      refine KL.op (R.pick rfl rfl rfl) rfl rfl rfl ?_
      refine KL.nil ?_
      refine KQ.seq ?_
      refine KC.iteL rfl ?_ ?_
      · intro hc40
        try simp only [decide_eq_true_eq, decide_eq_false_iff_not, Bool.not_eq_true', Bool.not_eq_false', Bool.and_eq_true, Bool.or_eq_false_iff] at hc40
        refine KC.seq ?_
        refine KC.region ?_
        refine KL.op (R.assign rfl rfl) rfl rfl rfl ?_
        refine KL.op (R.assign rfl rfl) rfl rfl rfl ?_
        refine KL.op (R.assign rfl rfl) rfl rfl rfl ?_
        refine KL.nil ?_
        refine KQ.seq ?_
        refine KC.ret ?_
        refine KQ.retThen ?_
        refine KQ.ofRet ?_
        refine KQ.fin3 Tryd.results26 rfl rfl rfl ?_
        first
          | exact ⟨by rw [Nm.bad ht (.inl (by omega))]; rfl, rfl⟩
          | exact ⟨by rw [Nm.bad ht (.inr (by assumption))]; rfl, rfl⟩
          | exact ⟨by rw [Nm.good ht (by omega) (by assumption)]; rfl, rfl⟩
      · intro hc40
        try simp only [decide_eq_true_eq, decide_eq_false_iff_not, Bool.not_eq_true', Bool.not_eq_false', Bool.and_eq_true, Bool.or_eq_false_iff] at hc40
        refine KC.skip ?_
        refine KQ.seq ?_
        refine KC.seq ?_
        refine KC.region ?_
        refine KL.op (R.move rfl rfl) rfl rfl rfl ?_
        refine KL.op (R.move rfl rfl) rfl rfl rfl ?_
        refine KL.op (R.move rfl rfl) rfl rfl rfl ?_
        refine KL.op (R.move rfl rfl) rfl rfl rfl ?_
        refine KL.op (R.convI rfl Tryd.underlying43 Tryd.underlying3 rfl (by dsimp only [InR]; omega)) rfl rfl rfl ?_
        refine KL.op ((R.add rfl rfl rfl (by dsimp only [InR]; omega)).val (congrArg (Value.int .i64) (show _ = ((k + n.toNat : Nat) : Int) from by omega))) rfl rfl rfl ?_
        refine KL.op (R.slice rfl Tryd.underlying22 sz5 rfl hs (bnd.mk (r := k) rfl rfl) (bnd.mk (r := k + n.toNat) rfl rfl) (by omega) (by omega)) rfl rfl rfl ?_
        have st : Sl 1 (EInt .u8) H (subV 1 v k (k + n.toNat)) ((l.drop k).take n.toNat) := by
          have h9 := hs.sub (lo := k) (hi := k + n.toNat) (by omega) (by omega)
          rwa [List.drop_take, Nat.add_sub_cancel_left] at h9
        refine KL.op (R.convBS rfl Tryd.underlying22 Tryd.underlying5 Tryd.underlying9 rfl st) rfl rfl rfl ?_
        refine KL.op (R.move rfl rfl) rfl rfl rfl ?_
        refine KL.op (R.move rfl rfl) rfl rfl rfl ?_
        refine KL.op (R.convI rfl Tryd.underlying43 Tryd.underlying3 rfl (by dsimp only [InR]; omega)) rfl rfl rfl ?_
        refine KL.op ((R.add rfl rfl rfl (by dsimp only [InR]; omega)).val (congrArg (Value.int .i64) (show _ = ((k + n.toNat : Nat) : Int) from by omega))) rfl rfl rfl ?_
        refine KL.op (R.assign rfl rfl) rfl rfl rfl ?_
        refine KL.op (R.assign rfl rfl) rfl rfl rfl ?_
        refine KL.op (R.assign rfl rfl) rfl rfl rfl ?_
        refine KL.nil ?_
        refine KQ.seq ?_
        refine KC.ret ?_
        refine KQ.ofRet ?_
        refine KQ.fin3 Tryd.results26 rfl rfl rfl ?_
        first
          | exact ⟨by rw [Nm.bad ht (.inl (by omega))]; rfl, rfl⟩
          | exact ⟨by rw [Nm.bad ht (.inr (by assumption))]; rfl, rfl⟩
          | exact ⟨by rw [Nm.good ht (by omega) (by assumption)]; rfl, rfl⟩

theorem RTake_is {H : Heap} (v : Value) (l : List Int) (hs : Sl 1 (EInt .u8) H v l) {o : Option (List Int × Nat)} (e : Nm.nt l = o) : Ct Tryd.prog 26 [v] H (fun u H' => u = Nm.V o ∧ H = H') := by
  subst e
  cases ht : Lb.tk l 32 with
  | none => exact RTake_none v l hs ht
  | some p => exact RTake_some v l hs p.1 p.2 ht

set_option maxRecDepth 100000 in
set_option maxHeartbeats 4000000 in
theorem NAppend_any {H : Heap} (v : Value) (l : List Int) (s : ByteArray) (hs : Sl 1 (EInt .u8) H v l) (hl : l.length ≤ 100000) (hz : s.size ≤ 100000) : Ct Tryd.prog 17 [v, .string s] H (fun u H' => Own 1 (EInt .u8) 5 #[] H.size H' u (l ++ Lb.ap (s.size : Nat) ++ ints s) ∧ Old H H') := by
  refine Ct.mk Tryd.func17 rfl Tryd.ntmps17 rfl ?_
  intro W0 hW0
  have o0 : Old H H := Old.refl H
  refine KC.seq ?_
  refine KC.region ?_
  refine KL.op (R.assign rfl rfl) rfl rfl rfl ?_
  refine KL.nil ?_
  refine KQ.seq ?_
  refine KC.seq ?_
  refine KC.region ?_
  refine KL.op (R.move rfl rfl) rfl rfl rfl ?_
  refine KL.op (R.move rfl rfl) rfl rfl rfl ?_
  refine KL.op (R.lenStr (ty := 0) rfl Tryd.underlying9 rfl) rfl rfl rfl ?_
  refine KL.op (R.convI rfl Tryd.underlying3 Tryd.underlying43 rfl (by dsimp only [InR]; omega)) rfl rfl rfl ?_
  refine KL.call rfl rfl rfl rfl Tryd.call18 rfl rfl rfl (AppendU_k _ _ _ hs (by omega) (by omega) (by omega)) ?_
  rintro va H1 ⟨wa, ox⟩
  have zc_H1 := (ox).1
  have o0 := o0.trans ox
  have hs := hs.old ox
  have hal := (Lb.ap_length (z := (s.size : Int)) (by omega) (by omega)).2
  refine KL.op (R.move rfl rfl) rfl rfl rfl ?_
  have lt2 := wa.lt
  refine KL.opM (M.appendStr rfl Tryd.underlying22 Tryd.underlying9 inf5 rfl rfl wa (by omega) (by rw [List.length_append]; omega)) rfl rfl rfl ?_
  rintro v2 H2 ⟨w2, g2⟩
  have ob2 := g2.oldB wa (by omega)
  have o0 := o0.then ob2 (by omega)
  have z2 := ob2.1
  have wa := w2
  refine KL.op (R.assign rfl rfl) rfl rfl rfl ?_
  refine KL.nil ?_
  refine KQ.seq ?_
  refine KC.ret ?_
  refine KQ.ofRet ?_
  refine KQ.fin1 Tryd.results17 rfl ?_
  exact ⟨wa, o0⟩

end Go.Proofs.YtnbdadjomnpcgaaDoor
