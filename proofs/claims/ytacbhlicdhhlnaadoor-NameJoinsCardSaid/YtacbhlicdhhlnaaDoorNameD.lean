/- gabellelaw02.NameTakes, NameAppends, NameBack return true. No condition but that the library tables are laid. -/
import Derived.Test.YtacbhlicdhhlnaaDoorNameC
import Derived.Test.YtacbhlicdhhlnaaDoorKVals
namespace Go.Proofs.YtacbhlicdhhlnaaDoor
open Go Go.RowKit
set_option linter.unusedVariables false
set_option linter.unusedSimpArgs false
set_option linter.unnecessarySimpa false
set_option maxRecDepth 100000 in
set_option maxHeartbeats 1000000 in
theorem NameTakes_none {H : Heap} (v : Value) (l : List Int) (hs : Sl 1 (EInt .u8) H v l) (hT : TabU H) (hn : Nm.nt l = none) : Ct Tryd.prog 3 [v] H (fun u H' => u = .bool true ∧ Old H H') := by
  refine Ct.mk Tryd.func3 rfl Tryd.ntmps3 rfl ?_
  intro W0 hW0
  have o0 : Old H H := Old.refl H
  refine KC.seq ?_
  refine KC.region ?_
  refine KL.op (R.assign rfl rfl) rfl rfl rfl ?_
  refine KL.nil ?_
  refine KQ.seq ?_
  refine KC.seq ?_
  refine KC.seq ?_
  refine KC.region ?_
  refine KL.call rfl rfl rfl rfl Tryd.call7 rfl rfl rfl (known_any (hT.old o0)) ?_
  rintro _ H1 ⟨rfl, ox⟩
  have zc_H1 := (ox).1
  have o0 := o0.trans ox
  have hs := hs.old ox
  refine KL.op (R.not rfl rfl) rfl rfl rfl ?_
  refine KL.nil ?_
  refine KQ.seq ?_
  refine KC.condF rfl ?_
  refine KC.skip ?_
  refine KQ.seq ?_
  refine KC.seq ?_
  refine KC.seq ?_
  refine KC.region ?_
  refine KL.op (R.move rfl rfl) rfl rfl rfl ?_
  refine KL.op ((by first | exact R.lenS rfl Tryd.underlying22 rfl (by first | exact hs | assumption) | exact R.len (ty := 0) rfl Tryd.underlying22 rfl)) rfl rfl rfl ?_
  refine KL.op (R.gtr rfl rfl rfl) rfl rfl rfl ?_
  refine KL.nil ?_
  refine KQ.seq ?_
  refine KC.iteL rfl ?_ ?_
  · intro hc13
    try simp only [decide_eq_true_eq, decide_eq_false_iff_not, Bool.not_eq_true', Bool.not_eq_false', Bool.and_eq_true, Bool.or_eq_false_iff] at hc13
    refine KC.seq ?_
    refine KC.region ?_
    refine KL.op (R.assign rfl rfl) rfl rfl rfl ?_
    refine KL.nil ?_
    refine KQ.seq ?_
    refine KC.ret ?_
    refine KQ.retThen ?_
    refine KQ.ofRet ?_
    refine KQ.fin1 Tryd.results3 rfl ?_
    exact ⟨rfl, o0⟩
  · intro hc13
    try simp only [decide_eq_true_eq, decide_eq_false_iff_not, Bool.not_eq_true', Bool.not_eq_false', Bool.and_eq_true, Bool.or_eq_false_iff] at hc13
    refine KC.skip ?_
    refine KQ.seq ?_
    refine KC.seq ?_
    refine KC.region ?_
    refine KL.op (R.move rfl rfl) rfl rfl rfl ?_
    refine KL.call rfl rfl rfl rfl Tryd.call8 rfl rfl rfl (Take_is _ _ hs (hT.old o0) hn) ?_
    rintro _ H2 ⟨rfl, ox⟩
    have zc_H2 := (ox).1
    have o0 := o0.trans ox
    have hs := hs.old ox
    refine KL.op (R.move rfl rfl) rfl rfl rfl ?_
    refine KL.op (R.extract rfl rfl rfl) rfl rfl rfl ?_
    refine KL.op (R.extract rfl rfl rfl) rfl rfl rfl ?_
    refine KL.op (R.extract rfl rfl rfl) rfl rfl rfl ?_
    refine KL.op (R.assign rfl rfl) rfl rfl rfl ?_
    refine KL.op (R.assign rfl rfl) rfl rfl rfl ?_
    refine KL.op (R.assign rfl rfl) rfl rfl rfl ?_
    refine KL.nil ?_
    refine KQ.seq ?_
    refine KC.seq ?_
    refine KC.region ?_
    refine KL.op (R.move rfl rfl) rfl rfl rfl ?_
    refine KL.call rfl rfl rfl rfl Tryd.call9 rfl rfl rfl (RTake_is _ _ hs hn) ?_
    rintro _ _ ⟨rfl, rfl⟩
    refine KL.op (R.move rfl rfl) rfl rfl rfl ?_
    refine KL.op (R.extract rfl rfl rfl) rfl rfl rfl ?_
    refine KL.op (R.extract rfl rfl rfl) rfl rfl rfl ?_
    refine KL.op (R.extract rfl rfl rfl) rfl rfl rfl ?_
    refine KL.op (R.assign rfl rfl) rfl rfl rfl ?_
    refine KL.op (R.assign rfl rfl) rfl rfl rfl ?_
    refine KL.op (R.assign rfl rfl) rfl rfl rfl ?_
    refine KL.nil ?_
    refine KQ.seq ?_
    refine KC.seq ?_
    refine KC.region ?_
    refine KL.op (R.move rfl rfl) rfl rfl rfl ?_
    refine KL.op (R.move rfl rfl) rfl rfl rfl ?_
    refine KL.op ((R.eqlStr rfl rfl rfl).val (congrArg Value.bool (show _ = true by rw [str_eq]; exact decide_eq_true (by rfl)))) rfl rfl rfl ?_
    refine KL.op (R.move rfl rfl) rfl rfl rfl ?_
    refine KL.op (R.move rfl rfl) rfl rfl rfl ?_
    refine KL.op (R.move rfl rfl) rfl rfl rfl ?_
    refine KL.op ((R.eql rfl rfl rfl).val (congrArg Value.bool (decide_eq_true (by rfl)))) rfl rfl rfl ?_
    refine KL.op (R.pick rfl rfl rfl) rfl rfl rfl ?_
    refine KL.op (R.move rfl rfl) rfl rfl rfl ?_
    refine KL.op (R.move rfl rfl) rfl rfl rfl ?_
    refine KL.op (R.move rfl rfl) rfl rfl rfl ?_
    refine KL.op (R.eqlB rfl Tryd.underlying4 rfl rfl) rfl rfl rfl ?_
    refine KL.op (R.pick rfl rfl rfl) rfl rfl rfl ?_
    refine KL.op (R.move rfl rfl) rfl rfl rfl ?_
    refine KL.op (R.move rfl rfl) rfl rfl rfl ?_
    refine KL.call rfl rfl rfl rfl Tryd.call10 rfl rfl rfl (nameValid_any _ _ hs (hT.old o0)) ?_
    rintro _ H3 ⟨rfl, ox⟩
    have zc_H3 := (ox).1
    have o0 := o0.trans ox
    have hs := hs.old ox
    refine KL.op (R.move rfl rfl) rfl rfl rfl ?_
    refine KL.call rfl rfl rfl rfl Tryd.call11 rfl rfl rfl (refValid_any _ _ hs) ?_
    rintro _ _ ⟨rfl, rfl⟩
    refine KL.op ((R.eqlB rfl Tryd.underlying4 rfl rfl).val (congrArg Value.bool (beq_self_eq_true _))) rfl rfl rfl ?_
    refine KL.op (R.pick rfl rfl rfl) rfl rfl rfl ?_
    refine KL.op (R.assign rfl rfl) rfl rfl rfl ?_
    refine KL.nil ?_
    refine KQ.seq ?_
    refine KC.ret ?_
    refine KQ.ofRet ?_
    refine KQ.fin1 Tryd.results3 rfl ?_
    exact ⟨rfl, o0⟩

set_option maxRecDepth 100000 in
set_option maxHeartbeats 1000000 in
theorem NameTakes_some {H : Heap} (v : Value) (l : List Int) (hs : Sl 1 (EInt .u8) H v l) (hT : TabU H) (t : List Int) (k : Nat) (hn : Nm.nt l = (some (t, k))) : Ct Tryd.prog 3 [v] H (fun u H' => u = .bool true ∧ Old H H') := by
  refine Ct.mk Tryd.func3 rfl Tryd.ntmps3 rfl ?_
  intro W0 hW0
  have o0 : Old H H := Old.refl H
  refine KC.seq ?_
  refine KC.region ?_
  refine KL.op (R.assign rfl rfl) rfl rfl rfl ?_
  refine KL.nil ?_
  refine KQ.seq ?_
  refine KC.seq ?_
  refine KC.seq ?_
  refine KC.region ?_
  refine KL.call rfl rfl rfl rfl Tryd.call7 rfl rfl rfl (known_any (hT.old o0)) ?_
  rintro _ H1 ⟨rfl, ox⟩
  have zc_H1 := (ox).1
  have o0 := o0.trans ox
  have hs := hs.old ox
  refine KL.op (R.not rfl rfl) rfl rfl rfl ?_
  refine KL.nil ?_
  refine KQ.seq ?_
  refine KC.condF rfl ?_
  refine KC.skip ?_
  refine KQ.seq ?_
  refine KC.seq ?_
  refine KC.seq ?_
  refine KC.region ?_
  refine KL.op (R.move rfl rfl) rfl rfl rfl ?_
  refine KL.op ((by first | exact R.lenS rfl Tryd.underlying22 rfl (by first | exact hs | assumption) | exact R.len (ty := 0) rfl Tryd.underlying22 rfl)) rfl rfl rfl ?_
  refine KL.op (R.gtr rfl rfl rfl) rfl rfl rfl ?_
  refine KL.nil ?_
  refine KQ.seq ?_
  refine KC.iteL rfl ?_ ?_
  · intro hc13
    try simp only [decide_eq_true_eq, decide_eq_false_iff_not, Bool.not_eq_true', Bool.not_eq_false', Bool.and_eq_true, Bool.or_eq_false_iff] at hc13
    refine KC.seq ?_
    refine KC.region ?_
    refine KL.op (R.assign rfl rfl) rfl rfl rfl ?_
    refine KL.nil ?_
    refine KQ.seq ?_
    refine KC.ret ?_
    refine KQ.retThen ?_
    refine KQ.ofRet ?_
    refine KQ.fin1 Tryd.results3 rfl ?_
    exact ⟨rfl, o0⟩
  · intro hc13
    try simp only [decide_eq_true_eq, decide_eq_false_iff_not, Bool.not_eq_true', Bool.not_eq_false', Bool.and_eq_true, Bool.or_eq_false_iff] at hc13
    refine KC.skip ?_
    refine KQ.seq ?_
    refine KC.seq ?_
    refine KC.region ?_
    refine KL.op (R.move rfl rfl) rfl rfl rfl ?_
    refine KL.call rfl rfl rfl rfl Tryd.call8 rfl rfl rfl (Take_is _ _ hs (hT.old o0) hn) ?_
    rintro _ H2 ⟨rfl, ox⟩
    have zc_H2 := (ox).1
    have o0 := o0.trans ox
    have hs := hs.old ox
    refine KL.op (R.move rfl rfl) rfl rfl rfl ?_
    refine KL.op (R.extract rfl rfl rfl) rfl rfl rfl ?_
    refine KL.op (R.extract rfl rfl rfl) rfl rfl rfl ?_
    refine KL.op (R.extract rfl rfl rfl) rfl rfl rfl ?_
    refine KL.op (R.assign rfl rfl) rfl rfl rfl ?_
    refine KL.op (R.assign rfl rfl) rfl rfl rfl ?_
    refine KL.op (R.assign rfl rfl) rfl rfl rfl ?_
    refine KL.nil ?_
    refine KQ.seq ?_
    refine KC.seq ?_
    refine KC.region ?_
    refine KL.op (R.move rfl rfl) rfl rfl rfl ?_
    refine KL.call rfl rfl rfl rfl Tryd.call9 rfl rfl rfl (RTake_is _ _ hs hn) ?_
    rintro _ _ ⟨rfl, rfl⟩
    refine KL.op (R.move rfl rfl) rfl rfl rfl ?_
    refine KL.op (R.extract rfl rfl rfl) rfl rfl rfl ?_
    refine KL.op (R.extract rfl rfl rfl) rfl rfl rfl ?_
    refine KL.op (R.extract rfl rfl rfl) rfl rfl rfl ?_
    refine KL.op (R.assign rfl rfl) rfl rfl rfl ?_
    refine KL.op (R.assign rfl rfl) rfl rfl rfl ?_
    refine KL.op (R.assign rfl rfl) rfl rfl rfl ?_
    refine KL.nil ?_
    refine KQ.seq ?_
    refine KC.seq ?_
    refine KC.region ?_
    refine KL.op (R.move rfl rfl) rfl rfl rfl ?_
    refine KL.op (R.move rfl rfl) rfl rfl rfl ?_
    refine KL.op ((R.eqlStr rfl rfl rfl).val (congrArg Value.bool (show _ = true by rw [str_eq]; exact decide_eq_true (by rfl)))) rfl rfl rfl ?_
    refine KL.op (R.move rfl rfl) rfl rfl rfl ?_
    refine KL.op (R.move rfl rfl) rfl rfl rfl ?_
    refine KL.op (R.move rfl rfl) rfl rfl rfl ?_
    refine KL.op ((R.eql rfl rfl rfl).val (congrArg Value.bool (decide_eq_true (by rfl)))) rfl rfl rfl ?_
    refine KL.op (R.pick rfl rfl rfl) rfl rfl rfl ?_
    refine KL.op (R.move rfl rfl) rfl rfl rfl ?_
    refine KL.op (R.move rfl rfl) rfl rfl rfl ?_
    refine KL.op (R.move rfl rfl) rfl rfl rfl ?_
    refine KL.op (R.eqlB rfl Tryd.underlying4 rfl rfl) rfl rfl rfl ?_
    refine KL.op (R.pick rfl rfl rfl) rfl rfl rfl ?_
    refine KL.op (R.move rfl rfl) rfl rfl rfl ?_
    refine KL.op (R.move rfl rfl) rfl rfl rfl ?_
    refine KL.call rfl rfl rfl rfl Tryd.call10 rfl rfl rfl (nameValid_any _ _ hs (hT.old o0)) ?_
    rintro _ H3 ⟨rfl, ox⟩
    have zc_H3 := (ox).1
    have o0 := o0.trans ox
    have hs := hs.old ox
    refine KL.op (R.move rfl rfl) rfl rfl rfl ?_
    refine KL.call rfl rfl rfl rfl Tryd.call11 rfl rfl rfl (refValid_any _ _ hs) ?_
    rintro _ _ ⟨rfl, rfl⟩
    refine KL.op ((R.eqlB rfl Tryd.underlying4 rfl rfl).val (congrArg Value.bool (beq_self_eq_true _))) rfl rfl rfl ?_
    refine KL.op (R.pick rfl rfl rfl) rfl rfl rfl ?_
    refine KL.op (R.assign rfl rfl) rfl rfl rfl ?_
    refine KL.nil ?_
    refine KQ.seq ?_
    refine KC.ret ?_
    refine KQ.ofRet ?_
    refine KQ.fin1 Tryd.results3 rfl ?_
    exact ⟨rfl, o0⟩

theorem NameTakes_any {H : Heap} (v : Value) (l : List Int) (hs : Sl 1 (EInt .u8) H v l) (hT : TabU H) : Ct Tryd.prog 3 [v] H (fun u H' => u = .bool true ∧ Old H H') := by
  cases hn : Nm.nt l with
  | none => exact NameTakes_none v l hs hT hn
  | some p => exact NameTakes_some v l hs hT p.1 p.2 hn


theorem Nm.same {l : List Int} {s : ByteArray} (hr : ∀ x ∈ l, InR .u8 x) : ints (bstr (l ++ Lb.ap (s.size : Nat) ++ ints s)) = ints (bstr l ++ bstr (Lb.ap (s.size : Nat)) ++ s) := by
  rw [ints_append, ints_append, ints_bstr hr, ints_bstr Lb.ap_range, ints_bstr]
  intro x hx
  rw [List.mem_append, List.mem_append] at hx
  rcases hx with (h | h) | h
  · exact hr x h
  · exact Lb.ap_range x h
  · exact ints_range x h

set_option maxRecDepth 100000 in
set_option maxHeartbeats 1000000 in
theorem NameAppends_any {H : Heap} (v : Value) (l : List Int) (s : ByteArray) (hs : Sl 1 (EInt .u8) H v l) (hT : TabU H) : Ct Tryd.prog 4 [v, .string s] H (fun u H' => u = .bool true ∧ Old H H') := by
  refine Ct.mk Tryd.func4 rfl Tryd.ntmps4 rfl ?_
  intro W0 hW0
  have o0 : Old H H := Old.refl H
  have hsv := hs.val
  refine KC.seq ?_
  refine KC.region ?_
  refine KL.op (R.assign rfl rfl) rfl rfl rfl ?_
  refine KL.nil ?_
  refine KQ.seq ?_
  refine KC.seq ?_
  refine KC.seq ?_
  refine KC.region ?_
  refine KL.call rfl rfl rfl rfl Tryd.call7 rfl rfl rfl (known_any (hT.old o0)) ?_
  rintro _ H1 ⟨rfl, ox⟩
  have zc_H1 := (ox).1
  have o0 := o0.trans ox
  have hs := hs.old ox
  refine KL.op (R.not rfl rfl) rfl rfl rfl ?_
  refine KL.nil ?_
  refine KQ.seq ?_
  refine KC.condF rfl ?_
  refine KC.skip ?_
  refine KQ.seq ?_
  refine KC.seq ?_
  refine KC.seq ?_
  refine KC.region ?_
  refine KL.op (R.move rfl rfl) rfl rfl rfl ?_
  refine KL.op ((by first | exact R.lenS rfl Tryd.underlying22 rfl (by first | exact hs | assumption) | exact R.len (ty := 0) rfl Tryd.underlying22 rfl)) rfl rfl rfl ?_
  refine KL.op (R.gtr rfl rfl rfl) rfl rfl rfl ?_
  refine KL.op (R.move rfl rfl) rfl rfl rfl ?_
  refine KL.case (d := 10) rfl ?_ ?_
  · intro hg10
    try simp only [decide_eq_true_eq, decide_eq_false_iff_not, Bool.not_eq_true', Bool.not_eq_false', Bool.and_eq_true, Bool.or_eq_false_iff] at hg10
    refine KL.skip rfl rfl rfl ?_
    refine KL.skip rfl rfl rfl ?_
    refine KL.skip rfl rfl rfl ?_
    refine KL.op (R.pick rfl rfl rfl) rfl rfl rfl ?_
    refine KL.nil ?_
    refine KQ.seq ?_
    refine KC.condT rfl ?_
    refine KC.seq ?_
    refine KC.region ?_
    refine KL.op (R.assign rfl rfl) rfl rfl rfl ?_
    refine KL.nil ?_
    refine KQ.seq ?_
    refine KC.ret ?_
    refine KQ.retThen ?_
    refine KQ.ofRet ?_
    refine KQ.fin1 Tryd.results4 rfl ?_
    exact ⟨rfl, o0⟩
  · intro hg10
    try simp only [decide_eq_true_eq, decide_eq_false_iff_not, Bool.not_eq_true', Bool.not_eq_false', Bool.and_eq_true, Bool.or_eq_false_iff] at hg10
    refine KL.op (R.move rfl rfl) rfl rfl rfl ?_
    refine KL.op (R.lenStr (ty := 0) rfl Tryd.underlying9 rfl) rfl rfl rfl ?_
    refine KL.op (R.gtr rfl rfl rfl) rfl rfl rfl ?_
    refine KL.op (R.pick rfl rfl rfl) rfl rfl rfl ?_
    refine KL.nil ?_
    refine KQ.seq ?_
    refine KC.iteL rfl ?_ ?_
    · intro hc14
      try simp only [decide_eq_true_eq, decide_eq_false_iff_not, Bool.not_eq_true', Bool.not_eq_false', Bool.and_eq_true, Bool.or_eq_false_iff] at hc14
      refine KC.seq ?_
      refine KC.region ?_
      refine KL.op (R.assign rfl rfl) rfl rfl rfl ?_
      refine KL.nil ?_
      refine KQ.seq ?_
      refine KC.ret ?_
      refine KQ.retThen ?_
      refine KQ.ofRet ?_
      refine KQ.fin1 Tryd.results4 rfl ?_
      exact ⟨rfl, o0⟩
    · intro hc14
      try simp only [decide_eq_true_eq, decide_eq_false_iff_not, Bool.not_eq_true', Bool.not_eq_false', Bool.and_eq_true, Bool.or_eq_false_iff] at hc14
      refine KC.skip ?_
      refine KQ.seq ?_
      refine KC.seq ?_
      have hal := (Lb.ap_length (z := (s.size : Int)) (by omega) (by omega)).2
      refine KC.valsL [15, 16, 17, 18, 19, 20, 21, 22, 23, 24, 25, 26, 27, 28, 29, 4] [[], [], [0, 1], [2], [], [4], [], [6], [7], [8, 2], [9], [5, 10], [], [11, 12], [3, 13], [14, 9, 0, 1, 2, 3, 4, 5, 6, 7, 8, 9, 10, 11, 12, 13, 14]] (fun (i : Nat) (u : Value) (Hc : Heap) => match i with | 0 => u = v | 1 => u = .string s | 2 => Own 1 (EInt .u8) 5 #[] 0 Hc u (l ++ Lb.ap (s.size : Nat) ++ ints s) | 3 => u = .string (bstr (l ++ Lb.ap (s.size : Nat) ++ ints s)) | 4 => u = v | 5 => u = .string (bstr l) | 6 => u = .string s | 7 => u = .int .i64 (s.size : Nat) | 8 => u = .int .u64 (s.size : Nat) | 9 => Own 1 (EInt .u8) 5 #[] 0 Hc u (Lb.ap (s.size : Nat)) | 10 => u = .string (bstr (Lb.ap (s.size : Nat))) | 11 => u = .string (bstr l ++ bstr (Lb.ap (s.size : Nat))) | 12 => u = .string s | 13 => u = .string (bstr l ++ bstr (Lb.ap (s.size : Nat)) ++ s) | 14 => u = .bool true | 15 => u = .bool true | _ => True) (by kernel_rfl) (by kernel_rfl) (by kernel_rfl) (by kernel_rfl) ?_ ?_
      · intro i o ho u Hc og hp
        have hst : ∀ H2, Old Hc H2 → ∀ j x, (fun (i : Nat) (u : Value) (Hc : Heap) => match i with | 0 => u = v | 1 => u = .string s | 2 => Own 1 (EInt .u8) 5 #[] 0 Hc u (l ++ Lb.ap (s.size : Nat) ++ ints s) | 3 => u = .string (bstr (l ++ Lb.ap (s.size : Nat) ++ ints s)) | 4 => u = v | 5 => u = .string (bstr l) | 6 => u = .string s | 7 => u = .int .i64 (s.size : Nat) | 8 => u = .int .u64 (s.size : Nat) | 9 => Own 1 (EInt .u8) 5 #[] 0 Hc u (Lb.ap (s.size : Nat)) | 10 => u = .string (bstr (Lb.ap (s.size : Nat))) | 11 => u = .string (bstr l ++ bstr (Lb.ap (s.size : Nat))) | 12 => u = .string s | 13 => u = .string (bstr l ++ bstr (Lb.ap (s.size : Nat)) ++ s) | 14 => u = .bool true | 15 => u = .bool true | _ => True) j x Hc → (fun (i : Nat) (u : Value) (Hc : Heap) => match i with | 0 => u = v | 1 => u = .string s | 2 => Own 1 (EInt .u8) 5 #[] 0 Hc u (l ++ Lb.ap (s.size : Nat) ++ ints s) | 3 => u = .string (bstr (l ++ Lb.ap (s.size : Nat) ++ ints s)) | 4 => u = v | 5 => u = .string (bstr l) | 6 => u = .string s | 7 => u = .int .i64 (s.size : Nat) | 8 => u = .int .u64 (s.size : Nat) | 9 => Own 1 (EInt .u8) 5 #[] 0 Hc u (Lb.ap (s.size : Nat)) | 10 => u = .string (bstr (Lb.ap (s.size : Nat))) | 11 => u = .string (bstr l ++ bstr (Lb.ap (s.size : Nat))) | 12 => u = .string s | 13 => u = .string (bstr l ++ bstr (Lb.ap (s.size : Nat)) ++ s) | 14 => u = .bool true | 15 => u = .bool true | _ => True) j x H2 := by
          intro H2 o2 j x hx
          match j, hx with
          | 0, hx => exact hx
          | 1, hx => exact hx
          | 2, hx => exact hx.old o2
          | 3, hx => exact hx
          | 4, hx => exact hx
          | 5, hx => exact hx
          | 6, hx => exact hx
          | 7, hx => exact hx
          | 8, hx => exact hx
          | 9, hx => exact hx.old o2
          | 10, hx => exact hx
          | 11, hx => exact hx
          | 12, hx => exact hx
          | 13, hx => exact hx
          | 14, hx => exact hx
          | 15, hx => exact hx
          | j + 16, hx => exact hx
        match i, ho, hp with
        | 0, ho, hp =>
          have e := Option.some.inj (ho : some _ = some o)
          subst e
          change ∀ j ∈ ([] : List Nat), _ at hp
          change Ob _ _ (([] : Env) ++ _) _ _ _
          exact .inl ⟨rfl, D1.op (R.move rfl rfl) ⟨rfl, og, fun _ _ h => h⟩⟩
        | 1, ho, hp =>
          have e := Option.some.inj (ho : some _ = some o)
          subst e
          change ∀ j ∈ ([] : List Nat), _ at hp
          change Ob _ _ (([] : Env) ++ _) _ _ _
          exact .inl ⟨rfl, D1.op (R.move rfl rfl) ⟨rfl, og, fun _ _ h => h⟩⟩
        | 2, ho, hp =>
          have e := Option.some.inj (ho : some _ = some o)
          subst e
          change ∀ j ∈ ([0, 1] : List Nat), _ at hp
          have h15 : (u 0) = v := hp 0 (by simp)
          have h16 : (u 1) = .string s := hp 1 (by simp)
          change Ob _ _ (([(15, u 0), (16, u 1)] : Env) ++ _) _ _ _
          simp only [h15, h16]
          exact .inl ⟨rfl, D1.call rfl rfl rfl rfl Tryd.call12 (NAppend_any _ _ _ (hs.old og) (by omega) (by omega)) (by rintro _ H2 ⟨w2, ox⟩; exact ⟨w2.weak (Nat.zero_le _), og.trans ox, hst _ ox⟩)⟩
        | 3, ho, hp =>
          have e := Option.some.inj (ho : some _ = some o)
          subst e
          change ∀ j ∈ ([2] : List Nat), _ at hp
          have h17 : Own 1 (EInt .u8) 5 #[] 0 Hc (u 2) (l ++ Lb.ap (s.size : Nat) ++ ints s) := hp 2 (by simp)
          change Ob _ _ (([(17, u 2)] : Env) ++ _) _ _ _
          exact .inl ⟨rfl, D1.op (R.convBS rfl Tryd.underlying22 Tryd.underlying5 Tryd.underlying9 rfl (h17.sl (emptyOld _) (by omega))) ⟨rfl, og, fun _ _ h => h⟩⟩
        | 4, ho, hp =>
          have e := Option.some.inj (ho : some _ = some o)
          subst e
          change ∀ j ∈ ([] : List Nat), _ at hp
          change Ob _ _ (([] : Env) ++ _) _ _ _
          exact .inl ⟨rfl, D1.op (R.move rfl rfl) ⟨rfl, og, fun _ _ h => h⟩⟩
        | 5, ho, hp =>
          have e := Option.some.inj (ho : some _ = some o)
          subst e
          change ∀ j ∈ ([4] : List Nat), _ at hp
          have h19 : (u 4) = v := hp 4 (by simp)
          change Ob _ _ (([(19, u 4)] : Env) ++ _) _ _ _
          simp only [h19]
          exact .inl ⟨rfl, D1.op (R.convBS rfl Tryd.underlying22 Tryd.underlying5 Tryd.underlying9 rfl (hs.old og)) ⟨rfl, og, fun _ _ h => h⟩⟩
        | 6, ho, hp =>
          have e := Option.some.inj (ho : some _ = some o)
          subst e
          change ∀ j ∈ ([] : List Nat), _ at hp
          change Ob _ _ (([] : Env) ++ _) _ _ _
          exact .inl ⟨rfl, D1.op (R.move rfl rfl) ⟨rfl, og, fun _ _ h => h⟩⟩
        | 7, ho, hp =>
          have e := Option.some.inj (ho : some _ = some o)
          subst e
          change ∀ j ∈ ([6] : List Nat), _ at hp
          have h21 : (u 6) = .string s := hp 6 (by simp)
          change Ob _ _ (([(21, u 6)] : Env) ++ _) _ _ _
          simp only [h21]
          exact .inl ⟨rfl, D1.op (R.lenStr (ty := 0) rfl Tryd.underlying9 rfl) ⟨rfl, og, fun _ _ h => h⟩⟩
        | 8, ho, hp =>
          have e := Option.some.inj (ho : some _ = some o)
          subst e
          change ∀ j ∈ ([7] : List Nat), _ at hp
          have h22 : (u 7) = .int .i64 (s.size : Nat) := hp 7 (by simp)
          change Ob _ _ (([(22, u 7)] : Env) ++ _) _ _ _
          simp only [h22]
          exact .inl ⟨rfl, D1.op (R.convI rfl Tryd.underlying3 Tryd.underlying29 rfl (by dsimp only [InR]; omega)) ⟨rfl, og, fun _ _ h => h⟩⟩
        | 9, ho, hp =>
          have e := Option.some.inj (ho : some _ = some o)
          subst e
          change ∀ j ∈ ([8, 2] : List Nat), _ at hp
          have h17 : Own 1 (EInt .u8) 5 #[] 0 Hc (u 2) (l ++ Lb.ap (s.size : Nat) ++ ints s) := hp 2 (by simp)
          have h23 : (u 8) = .int .u64 (s.size : Nat) := hp 8 (by simp)
          change Ob _ _ (([(23, u 8), (17, u 2)] : Env) ++ _) _ _ _
          simp only [h23]
          exact .inl ⟨rfl, D1.call rfl rfl rfl rfl Tryd.call13 (Fewest_k _ (by omega) (by omega)) (by rintro _ H2 ⟨w2, ox⟩; exact ⟨w2.weak (Nat.zero_le _), og.trans ox, hst _ ox⟩)⟩
        | 10, ho, hp =>
          have e := Option.some.inj (ho : some _ = some o)
          subst e
          change ∀ j ∈ ([9] : List Nat), _ at hp
          have h24 : Own 1 (EInt .u8) 5 #[] 0 Hc (u 9) (Lb.ap (s.size : Nat)) := hp 9 (by simp)
          change Ob _ _ (([(24, u 9)] : Env) ++ _) _ _ _
          exact .inl ⟨rfl, D1.op (R.convBS rfl Tryd.underlying22 Tryd.underlying5 Tryd.underlying9 rfl (h24.sl (emptyOld _) (by omega))) ⟨rfl, og, fun _ _ h => h⟩⟩
        | 11, ho, hp =>
          have e := Option.some.inj (ho : some _ = some o)
          subst e
          change ∀ j ∈ ([5, 10] : List Nat), _ at hp
          have h20 : (u 5) = .string (bstr l) := hp 5 (by simp)
          have h25 : (u 10) = .string (bstr (Lb.ap (s.size : Nat))) := hp 10 (by simp)
          change Ob _ _ (([(20, u 5), (25, u 10)] : Env) ++ _) _ _ _
          simp only [h20, h25]
          exact .inl ⟨rfl, D1.op (R.addStr rfl rfl rfl (by rw [bstr_size hs.int_range, bstr_size Lb.ap_range]; omega)) ⟨rfl, og, fun _ _ h => h⟩⟩
        | 12, ho, hp =>
          have e := Option.some.inj (ho : some _ = some o)
          subst e
          change ∀ j ∈ ([] : List Nat), _ at hp
          change Ob _ _ (([] : Env) ++ _) _ _ _
          exact .inl ⟨rfl, D1.op (R.move rfl rfl) ⟨rfl, og, fun _ _ h => h⟩⟩
        | 13, ho, hp =>
          have e := Option.some.inj (ho : some _ = some o)
          subst e
          change ∀ j ∈ ([11, 12] : List Nat), _ at hp
          have h26 : (u 11) = .string (bstr l ++ bstr (Lb.ap (s.size : Nat))) := hp 11 (by simp)
          have h27 : (u 12) = .string s := hp 12 (by simp)
          change Ob _ _ (([(26, u 11), (27, u 12)] : Env) ++ _) _ _ _
          simp only [h26, h27]
          exact .inl ⟨rfl, D1.op (R.addStr rfl rfl rfl (by rw [ByteArray.size_append, bstr_size hs.int_range, bstr_size Lb.ap_range]; omega)) ⟨rfl, og, fun _ _ h => h⟩⟩
        | 14, ho, hp =>
          have e := Option.some.inj (ho : some _ = some o)
          subst e
          change ∀ j ∈ ([3, 13] : List Nat), _ at hp
          have h18 : (u 3) = .string (bstr (l ++ Lb.ap (s.size : Nat) ++ ints s)) := hp 3 (by simp)
          have h28 : (u 13) = .string (bstr l ++ bstr (Lb.ap (s.size : Nat)) ++ s) := hp 13 (by simp)
          change Ob _ _ (([(18, u 3), (28, u 13)] : Env) ++ _) _ _ _
          simp only [h18, h28]
          exact .inl ⟨rfl, D1.op ((R.eqlStr rfl rfl rfl).val (congrArg Value.bool (show _ = true by rw [str_eq_ints]; exact decide_eq_true (Nm.same hs.int_range)))) ⟨rfl, og, fun _ _ h => h⟩⟩
        | 15, ho, hp =>
          have e := Option.some.inj (ho : some _ = some o)
          subst e
          change ∀ j ∈ ([14, 9, 0, 1, 2, 3, 4, 5, 6, 7, 8, 9, 10, 11, 12, 13, 14] : List Nat), _ at hp
          have h15 : (u 0) = v := hp 0 (by simp)
          have h16 : (u 1) = .string s := hp 1 (by simp)
          have h17 : Own 1 (EInt .u8) 5 #[] 0 Hc (u 2) (l ++ Lb.ap (s.size : Nat) ++ ints s) := hp 2 (by simp)
          have h18 : (u 3) = .string (bstr (l ++ Lb.ap (s.size : Nat) ++ ints s)) := hp 3 (by simp)
          have h19 : (u 4) = v := hp 4 (by simp)
          have h20 : (u 5) = .string (bstr l) := hp 5 (by simp)
          have h21 : (u 6) = .string s := hp 6 (by simp)
          have h22 : (u 7) = .int .i64 (s.size : Nat) := hp 7 (by simp)
          have h23 : (u 8) = .int .u64 (s.size : Nat) := hp 8 (by simp)
          have h24 : Own 1 (EInt .u8) 5 #[] 0 Hc (u 9) (Lb.ap (s.size : Nat)) := hp 9 (by simp)
          have h25 : (u 10) = .string (bstr (Lb.ap (s.size : Nat))) := hp 10 (by simp)
          have h26 : (u 11) = .string (bstr l ++ bstr (Lb.ap (s.size : Nat))) := hp 11 (by simp)
          have h27 : (u 12) = .string s := hp 12 (by simp)
          have h28 : (u 13) = .string (bstr l ++ bstr (Lb.ap (s.size : Nat)) ++ s) := hp 13 (by simp)
          have h29 : (u 14) = .bool true := hp 14 (by simp)
          change Ob _ _ (([(29, u 14), (24, u 9), (15, u 0), (16, u 1), (17, u 2), (18, u 3), (19, u 4), (20, u 5), (21, u 6), (22, u 7), (23, u 8), (24, u 9), (25, u 10), (26, u 11), (27, u 12), (28, u 13), (29, u 14)] : Env) ++ _) _ _ _
          simp only [h15, h16, h18, h19, h20, h21, h22, h23, h25, h26, h27, h28, h29]
          exact .inl ⟨rfl, D1.op (R.assign rfl rfl) ⟨rfl, og, fun _ _ h => h⟩⟩
        | i + 16, ho, hp => exact absurd ho (by simp)
      · intro u H2 og2 hv
        have h15 : (u 0) = v := hv 0 (by decide)
        have h16 : (u 1) = .string s := hv 1 (by decide)
        have h17 : Own 1 (EInt .u8) 5 #[] 0 H2 (u 2) (l ++ Lb.ap (s.size : Nat) ++ ints s) := hv 2 (by decide)
        have h18 : (u 3) = .string (bstr (l ++ Lb.ap (s.size : Nat) ++ ints s)) := hv 3 (by decide)
        have h19 : (u 4) = v := hv 4 (by decide)
        have h20 : (u 5) = .string (bstr l) := hv 5 (by decide)
        have h21 : (u 6) = .string s := hv 6 (by decide)
        have h22 : (u 7) = .int .i64 (s.size : Nat) := hv 7 (by decide)
        have h23 : (u 8) = .int .u64 (s.size : Nat) := hv 8 (by decide)
        have h24 : Own 1 (EInt .u8) 5 #[] 0 H2 (u 9) (Lb.ap (s.size : Nat)) := hv 9 (by decide)
        have h25 : (u 10) = .string (bstr (Lb.ap (s.size : Nat))) := hv 10 (by decide)
        have h26 : (u 11) = .string (bstr l ++ bstr (Lb.ap (s.size : Nat))) := hv 11 (by decide)
        have h27 : (u 12) = .string s := hv 12 (by decide)
        have h28 : (u 13) = .string (bstr l ++ bstr (Lb.ap (s.size : Nat)) ++ s) := hv 13 (by decide)
        have h29 : (u 14) = .bool true := hv 14 (by decide)
        have h4 : (u 15) = .bool true := hv 15 (by decide)
        change KQ _ _ _ _ (([(15, u 0), (16, u 1), (17, u 2), (18, u 3), (19, u 4), (20, u 5), (21, u 6), (22, u 7), (23, u 8), (24, u 9), (25, u 10), (26, u 11), (27, u 12), (28, u 13), (29, u 14), (4, u 15)] : Env) ++ _) _
        have o0 := o0.trans og2
        have hs := hs.old og2
        have z2 := og2.1
        simp only [h15, h16, h18, h19, h20, h21, h22, h23, h25, h26, h27, h28, h29, h4]
        refine KQ.seq ?_
        refine KC.ret ?_
        refine KQ.ofRet ?_
        refine KQ.fin1 Tryd.results4 rfl ?_
        exact ⟨rfl, o0⟩


theorem Nm.backs (s : ByteArray) (l : List Int) (h : s.size ≤ 100000) : Nm.nt ([] ++ Lb.ap (s.size : Nat) ++ ints s ++ l) = if Utf.valid (ints s) = true then some (ints s, (Lb.ap (s.size : Nat)).length + s.size) else Option.none := by
  have := Nm.back (ints s) l (by rw [ints_length]; omega)
  rw [ints_length] at this
  rw [List.nil_append]; exact this

set_option maxRecDepth 100000 in
set_option maxHeartbeats 1000000 in
theorem NameBack_true {H : Heap} (s : ByteArray) (v : Value) (l : List Int) (hs : Sl 1 (EInt .u8) H v l) (hT : TabU H) (hv : Utf.valid (ints s) = true) : Ct Tryd.prog 5 [.string s, v] H (fun u H' => u = .bool true ∧ Old H H') := by
  refine Ct.mk Tryd.func5 rfl Tryd.ntmps5 rfl ?_
  intro W0 hW0
  have o0 : Old H H := Old.refl H
  refine KC.seq ?_
  refine KC.region ?_
  refine KL.op (R.assign rfl rfl) rfl rfl rfl ?_
  refine KL.nil ?_
  refine KQ.seq ?_
  refine KC.seq ?_
  refine KC.seq ?_
  refine KC.region ?_
  refine KL.call rfl rfl rfl rfl Tryd.call7 rfl rfl rfl (known_any (hT.old o0)) ?_
  rintro _ H1 ⟨rfl, ox⟩
  have zc_H1 := (ox).1
  have o0 := o0.trans ox
  have hs := hs.old ox
  refine KL.op (R.not rfl rfl) rfl rfl rfl ?_
  refine KL.nil ?_
  refine KQ.seq ?_
  refine KC.condF rfl ?_
  refine KC.skip ?_
  refine KQ.seq ?_
  refine KC.seq ?_
  refine KC.seq ?_
  refine KC.region ?_
  refine KL.op (R.move rfl rfl) rfl rfl rfl ?_
  refine KL.op (R.lenStr (ty := 0) rfl Tryd.underlying9 rfl) rfl rfl rfl ?_
  refine KL.op (R.gtr rfl rfl rfl) rfl rfl rfl ?_
  refine KL.op (R.move rfl rfl) rfl rfl rfl ?_
  refine KL.case (d := 14) rfl ?_ ?_
  · intro hg14
    try simp only [decide_eq_true_eq, decide_eq_false_iff_not, Bool.not_eq_true', Bool.not_eq_false', Bool.and_eq_true, Bool.or_eq_false_iff] at hg14
    refine KL.skip rfl rfl rfl ?_
    refine KL.skip rfl rfl rfl ?_
    refine KL.skip rfl rfl rfl ?_
    refine KL.op (R.pick rfl rfl rfl) rfl rfl rfl ?_
    refine KL.nil ?_
    refine KQ.seq ?_
    refine KC.condT rfl ?_
    refine KC.seq ?_
    refine KC.region ?_
    refine KL.op (R.assign rfl rfl) rfl rfl rfl ?_
    refine KL.nil ?_
    refine KQ.seq ?_
    refine KC.ret ?_
    refine KQ.retThen ?_
    refine KQ.ofRet ?_
    refine KQ.fin1 Tryd.results5 rfl ?_
    exact ⟨rfl, o0⟩
  · intro hg14
    try simp only [decide_eq_true_eq, decide_eq_false_iff_not, Bool.not_eq_true', Bool.not_eq_false', Bool.and_eq_true, Bool.or_eq_false_iff] at hg14
    refine KL.op (R.move rfl rfl) rfl rfl rfl ?_
    refine KL.op ((by first | exact R.lenS rfl Tryd.underlying22 rfl (by first | exact hs | assumption) | exact R.len (ty := 0) rfl Tryd.underlying22 rfl)) rfl rfl rfl ?_
    refine KL.op (R.gtr rfl rfl rfl) rfl rfl rfl ?_
    refine KL.op (R.pick rfl rfl rfl) rfl rfl rfl ?_
    refine KL.nil ?_
    refine KQ.seq ?_
    refine KC.iteL rfl ?_ ?_
    · intro hc18
      try simp only [decide_eq_true_eq, decide_eq_false_iff_not, Bool.not_eq_true', Bool.not_eq_false', Bool.and_eq_true, Bool.or_eq_false_iff] at hc18
      refine KC.seq ?_
      refine KC.region ?_
      refine KL.op (R.assign rfl rfl) rfl rfl rfl ?_
      refine KL.nil ?_
      refine KQ.seq ?_
      refine KC.ret ?_
      refine KQ.retThen ?_
      refine KQ.ofRet ?_
      refine KQ.fin1 Tryd.results5 rfl ?_
      exact ⟨rfl, o0⟩
    · intro hc18
      try simp only [decide_eq_true_eq, decide_eq_false_iff_not, Bool.not_eq_true', Bool.not_eq_false', Bool.and_eq_true, Bool.or_eq_false_iff] at hc18
      refine KC.skip ?_
      refine KQ.seq ?_
      refine KC.seq ?_
      refine KC.region ?_
      refine KL.op (R.move rfl rfl) rfl rfl rfl ?_
      refine KL.call rfl rfl rfl rfl Tryd.call12 rfl rfl rfl (NAppend_any _ _ _ (Sl.nil _ _ _) (by decide) (by omega)) ?_
      rintro va H2 ⟨wa, ox⟩
      have zc_H2 := (ox).1
      have o0 := o0.trans ox
      have hs := hs.old ox
      have hal := (Lb.ap_length (z := (s.size : Int)) (by omega) (by omega)).2
      have hva := wa.lt
      have wb := wa
      have lsz := ints_length s
      refine KL.op (R.assign rfl rfl) rfl rfl rfl ?_
      refine KL.nil ?_
      refine KQ.seq ?_
      refine KC.seq ?_
      refine KC.region ?_
      refine KL.op (R.move rfl rfl) rfl rfl rfl ?_
      refine KL.op (R.move rfl rfl) rfl rfl rfl ?_
      have lt3 := wa.lt
      refine KL.opM (M.append rfl Tryd.underlying22 inf5 rfl (by decide) rfl rfl wa (by exact hs) (fun _ _ h _ => h) (by omega) (by simp only [List.nil_append, List.length_append]; omega) (by unfold maxLen; simp only [List.nil_append, List.length_append]; omega)) rfl rfl rfl ?_
      rintro vb H3 ⟨w3, g3⟩
      have ob3 := g3.oldB wa (by omega)
      have o0 := o0.then ob3 (by omega)
      have z3 := ob3.1
      have wa := w3
      have sb := wa.sl (emptyOld _) (by omega)
      have lz : (([] : List Int) ++ Lb.ap (s.size : Nat) ++ ints s).length = (Lb.ap (s.size : Nat)).length + s.size := by rw [List.nil_append, List.length_append, lsz]
      refine KL.call rfl rfl rfl rfl Tryd.call8 rfl rfl rfl (Take_is _ _ sb (hT.old o0) (o := some (ints s, (Lb.ap (s.size : Nat)).length + s.size)) ((Nm.backs s l (by omega)).trans (if_pos hv))) ?_
      rintro _ H4 ⟨rfl, ox⟩
      have zc_H4 := (ox).1
      have o0 := o0.trans ox
      have wa := wa.old ox
      have sb := sb.old ox
      refine KL.op (R.move rfl rfl) rfl rfl rfl ?_
      refine KL.op (R.extract rfl rfl rfl) rfl rfl rfl ?_
      refine KL.op (R.extract rfl rfl rfl) rfl rfl rfl ?_
      refine KL.op (R.extract rfl rfl rfl) rfl rfl rfl ?_
      refine KL.op (R.assign rfl rfl) rfl rfl rfl ?_
      refine KL.op (R.assign rfl rfl) rfl rfl rfl ?_
      refine KL.op (R.assign rfl rfl) rfl rfl rfl ?_
      refine KL.nil ?_
      refine KQ.seq ?_
      refine KC.seq ?_
      refine KC.seq ?_
      refine KC.region ?_
      refine KL.op (R.move rfl rfl) rfl rfl rfl ?_
      refine KL.opM (M.toBytes rfl Tryd.underlying9 Tryd.underlying22 Tryd.underlying5 rfl (by omega)) rfl rfl rfl ?_
      rintro v5 H5 ⟨t5, e5, n5, z5⟩
      have o0 := o0.trans n5
      have wa := wa.old n5
      have sb := sb.old n5
      have sc := t5
      refine KL.call rfl rfl rfl rfl Tryd.call10 rfl rfl rfl (Valid_is _ _ sc (hT.old o0) hv) ?_
      rintro _ H6 ⟨rfl, ox⟩
      have zc_H6 := (ox).1
      have o0 := o0.trans ox
      have wa := wa.old ox
      have sb := sb.old ox
      have sc := sc.old ox
      refine KL.op (R.not rfl rfl) rfl rfl rfl ?_
      refine KL.nil ?_
      refine KQ.seq ?_
      refine KC.condF rfl ?_
      refine KC.skip ?_
      refine KQ.seq ?_
      refine KC.seq ?_
      refine KC.region ?_
      refine KL.op (R.move rfl rfl) rfl rfl rfl ?_
      refine KL.op (R.move rfl rfl) rfl rfl rfl ?_
      refine KL.op (R.move rfl rfl) rfl rfl rfl ?_
      refine KL.op (R.move rfl rfl) rfl rfl rfl ?_
      refine KL.op ((R.eqlStr rfl rfl rfl).val (congrArg Value.bool (show _ = true by rw [str_eq]; exact decide_eq_true (by exact bstr_ints s)))) rfl rfl rfl ?_
      refine KL.op (R.pick rfl rfl rfl) rfl rfl rfl ?_
      refine KL.op (R.move rfl rfl) rfl rfl rfl ?_
      refine KL.op (R.move rfl rfl) rfl rfl rfl ?_
      refine KL.op (R.move rfl rfl) rfl rfl rfl ?_
      refine KL.op (R.lenO rfl Tryd.underlying22 rfl wb) rfl rfl rfl ?_
      refine KL.op ((R.eql rfl rfl rfl).val (congrArg Value.bool (decide_eq_true (by rw [lz])))) rfl rfl rfl ?_
      refine KL.op (R.pick rfl rfl rfl) rfl rfl rfl ?_
      refine KL.op (R.assign rfl rfl) rfl rfl rfl ?_
      refine KL.nil ?_
      refine KQ.seq ?_
      refine KC.ret ?_
      refine KQ.ofRet ?_
      refine KQ.fin1 Tryd.results5 rfl ?_
      exact ⟨rfl, o0⟩

set_option maxRecDepth 100000 in
set_option maxHeartbeats 1000000 in
theorem NameBack_false {H : Heap} (s : ByteArray) (v : Value) (l : List Int) (hs : Sl 1 (EInt .u8) H v l) (hT : TabU H) (hv : Utf.valid (ints s) = false) : Ct Tryd.prog 5 [.string s, v] H (fun u H' => u = .bool true ∧ Old H H') := by
  refine Ct.mk Tryd.func5 rfl Tryd.ntmps5 rfl ?_
  intro W0 hW0
  have o0 : Old H H := Old.refl H
  refine KC.seq ?_
  refine KC.region ?_
  refine KL.op (R.assign rfl rfl) rfl rfl rfl ?_
  refine KL.nil ?_
  refine KQ.seq ?_
  refine KC.seq ?_
  refine KC.seq ?_
  refine KC.region ?_
  refine KL.call rfl rfl rfl rfl Tryd.call7 rfl rfl rfl (known_any (hT.old o0)) ?_
  rintro _ H1 ⟨rfl, ox⟩
  have zc_H1 := (ox).1
  have o0 := o0.trans ox
  have hs := hs.old ox
  refine KL.op (R.not rfl rfl) rfl rfl rfl ?_
  refine KL.nil ?_
  refine KQ.seq ?_
  refine KC.condF rfl ?_
  refine KC.skip ?_
  refine KQ.seq ?_
  refine KC.seq ?_
  refine KC.seq ?_
  refine KC.region ?_
  refine KL.op (R.move rfl rfl) rfl rfl rfl ?_
  refine KL.op (R.lenStr (ty := 0) rfl Tryd.underlying9 rfl) rfl rfl rfl ?_
  refine KL.op (R.gtr rfl rfl rfl) rfl rfl rfl ?_
  refine KL.op (R.move rfl rfl) rfl rfl rfl ?_
  refine KL.case (d := 14) rfl ?_ ?_
  · intro hg14
    try simp only [decide_eq_true_eq, decide_eq_false_iff_not, Bool.not_eq_true', Bool.not_eq_false', Bool.and_eq_true, Bool.or_eq_false_iff] at hg14
    refine KL.skip rfl rfl rfl ?_
    refine KL.skip rfl rfl rfl ?_
    refine KL.skip rfl rfl rfl ?_
    refine KL.op (R.pick rfl rfl rfl) rfl rfl rfl ?_
    refine KL.nil ?_
    refine KQ.seq ?_
    refine KC.condT rfl ?_
    refine KC.seq ?_
    refine KC.region ?_
    refine KL.op (R.assign rfl rfl) rfl rfl rfl ?_
    refine KL.nil ?_
    refine KQ.seq ?_
    refine KC.ret ?_
    refine KQ.retThen ?_
    refine KQ.ofRet ?_
    refine KQ.fin1 Tryd.results5 rfl ?_
    exact ⟨rfl, o0⟩
  · intro hg14
    try simp only [decide_eq_true_eq, decide_eq_false_iff_not, Bool.not_eq_true', Bool.not_eq_false', Bool.and_eq_true, Bool.or_eq_false_iff] at hg14
    refine KL.op (R.move rfl rfl) rfl rfl rfl ?_
    refine KL.op ((by first | exact R.lenS rfl Tryd.underlying22 rfl (by first | exact hs | assumption) | exact R.len (ty := 0) rfl Tryd.underlying22 rfl)) rfl rfl rfl ?_
    refine KL.op (R.gtr rfl rfl rfl) rfl rfl rfl ?_
    refine KL.op (R.pick rfl rfl rfl) rfl rfl rfl ?_
    refine KL.nil ?_
    refine KQ.seq ?_
    refine KC.iteL rfl ?_ ?_
    · intro hc18
      try simp only [decide_eq_true_eq, decide_eq_false_iff_not, Bool.not_eq_true', Bool.not_eq_false', Bool.and_eq_true, Bool.or_eq_false_iff] at hc18
      refine KC.seq ?_
      refine KC.region ?_
      refine KL.op (R.assign rfl rfl) rfl rfl rfl ?_
      refine KL.nil ?_
      refine KQ.seq ?_
      refine KC.ret ?_
      refine KQ.retThen ?_
      refine KQ.ofRet ?_
      refine KQ.fin1 Tryd.results5 rfl ?_
      exact ⟨rfl, o0⟩
    · intro hc18
      try simp only [decide_eq_true_eq, decide_eq_false_iff_not, Bool.not_eq_true', Bool.not_eq_false', Bool.and_eq_true, Bool.or_eq_false_iff] at hc18
      refine KC.skip ?_
      refine KQ.seq ?_
      refine KC.seq ?_
      refine KC.region ?_
      refine KL.op (R.move rfl rfl) rfl rfl rfl ?_
      refine KL.call rfl rfl rfl rfl Tryd.call12 rfl rfl rfl (NAppend_any _ _ _ (Sl.nil _ _ _) (by decide) (by omega)) ?_
      rintro va H2 ⟨wa, ox⟩
      have zc_H2 := (ox).1
      have o0 := o0.trans ox
      have hs := hs.old ox
      have hal := (Lb.ap_length (z := (s.size : Int)) (by omega) (by omega)).2
      have hva := wa.lt
      have wb := wa
      have lsz := ints_length s
      refine KL.op (R.assign rfl rfl) rfl rfl rfl ?_
      refine KL.nil ?_
      refine KQ.seq ?_
      refine KC.seq ?_
      refine KC.region ?_
      refine KL.op (R.move rfl rfl) rfl rfl rfl ?_
      refine KL.op (R.move rfl rfl) rfl rfl rfl ?_
      have lt3 := wa.lt
      refine KL.opM (M.append rfl Tryd.underlying22 inf5 rfl (by decide) rfl rfl wa (by exact hs) (fun _ _ h _ => h) (by omega) (by simp only [List.nil_append, List.length_append]; omega) (by unfold maxLen; simp only [List.nil_append, List.length_append]; omega)) rfl rfl rfl ?_
      rintro vb H3 ⟨w3, g3⟩
      have ob3 := g3.oldB wa (by omega)
      have o0 := o0.then ob3 (by omega)
      have z3 := ob3.1
      have wa := w3
      have sb := wa.sl (emptyOld _) (by omega)
      have lz : (([] : List Int) ++ Lb.ap (s.size : Nat) ++ ints s).length = (Lb.ap (s.size : Nat)).length + s.size := by rw [List.nil_append, List.length_append, lsz]
      refine KL.call rfl rfl rfl rfl Tryd.call8 rfl rfl rfl (Take_is _ _ sb (hT.old o0) (o := none) ((Nm.backs s l (by omega)).trans (if_neg (by rw [hv]; decide)))) ?_
      rintro _ H4 ⟨rfl, ox⟩
      have zc_H4 := (ox).1
      have o0 := o0.trans ox
      have wa := wa.old ox
      have sb := sb.old ox
      refine KL.op (R.move rfl rfl) rfl rfl rfl ?_
      refine KL.op (R.extract rfl rfl rfl) rfl rfl rfl ?_
      refine KL.op (R.extract rfl rfl rfl) rfl rfl rfl ?_
      refine KL.op (R.extract rfl rfl rfl) rfl rfl rfl ?_
      refine KL.op (R.assign rfl rfl) rfl rfl rfl ?_
      refine KL.op (R.assign rfl rfl) rfl rfl rfl ?_
      refine KL.op (R.assign rfl rfl) rfl rfl rfl ?_
      refine KL.nil ?_
      refine KQ.seq ?_
      refine KC.seq ?_
      refine KC.seq ?_
      refine KC.region ?_
      refine KL.op (R.move rfl rfl) rfl rfl rfl ?_
      refine KL.opM (M.toBytes rfl Tryd.underlying9 Tryd.underlying22 Tryd.underlying5 rfl (by omega)) rfl rfl rfl ?_
      rintro v5 H5 ⟨t5, e5, n5, z5⟩
      have o0 := o0.trans n5
      have wa := wa.old n5
      have sb := sb.old n5
      have sc := t5
      refine KL.call rfl rfl rfl rfl Tryd.call10 rfl rfl rfl (Valid_is _ _ sc (hT.old o0) hv) ?_
      rintro _ H6 ⟨rfl, ox⟩
      have zc_H6 := (ox).1
      have o0 := o0.trans ox
      have wa := wa.old ox
      have sb := sb.old ox
      have sc := sc.old ox
      refine KL.op (R.not rfl rfl) rfl rfl rfl ?_
      refine KL.nil ?_
      refine KQ.seq ?_
      refine KC.condT rfl ?_
      refine KC.seq ?_
      refine KC.region ?_
      refine KL.op (R.move rfl rfl) rfl rfl rfl ?_
      refine KL.op (R.not rfl rfl) rfl rfl rfl ?_
      refine KL.op (R.move rfl rfl) rfl rfl rfl ?_
      refine KL.op (R.move rfl rfl) rfl rfl rfl ?_
      refine KL.op ((R.eqlStr rfl rfl rfl).val (congrArg Value.bool (show _ = true by rw [str_eq]; exact decide_eq_true (by rfl)))) rfl rfl rfl ?_
      refine KL.op (R.pick rfl rfl rfl) rfl rfl rfl ?_
      refine KL.op (R.move rfl rfl) rfl rfl rfl ?_
      refine KL.op (R.move rfl rfl) rfl rfl rfl ?_
      refine KL.op ((R.eql rfl rfl rfl).val (congrArg Value.bool (decide_eq_true (by rfl)))) rfl rfl rfl ?_
      refine KL.op (R.pick rfl rfl rfl) rfl rfl rfl ?_
      refine KL.op (R.assign rfl rfl) rfl rfl rfl ?_
      refine KL.nil ?_
      refine KQ.seq ?_
      refine KC.ret ?_
      refine KQ.retThen ?_
      refine KQ.ofRet ?_
      refine KQ.fin1 Tryd.results5 rfl ?_
      exact ⟨rfl, o0⟩

theorem NameBack_any {H : Heap} (s : ByteArray) (v : Value) (l : List Int) (hs : Sl 1 (EInt .u8) H v l) (hT : TabU H) : Ct Tryd.prog 5 [.string s, v] H (fun u H' => u = .bool true ∧ Old H H') := by
  cases hv : Utf.valid (ints s) with
  | true => exact NameBack_true s v l hs hT hv
  | false => exact NameBack_false s v l hs hT hv

end Go.Proofs.YtacbhlicdhhlnaaDoor
