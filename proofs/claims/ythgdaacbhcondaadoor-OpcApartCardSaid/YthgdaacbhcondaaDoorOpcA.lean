/- Package opc: types and widths of opcodes. No condition. -/
import Derived.Test.YthgdaacbhcondaaDoorOpcP
namespace Go.Proofs.YthgdaacbhcondaaDoor
open Go Go.RowKit
set_option linter.unusedVariables false
set_option linter.unusedSimpArgs false
set_option linter.unnecessarySimpa false
set_option maxRecDepth 100000 in
set_option maxHeartbeats 4000000 in
theorem wide_any {H : Heap} (op : Int) : Ct Tryd.prog 22 [.int .u8 op] H (fun u H' => u = .bool (Opc.wide op) ∧ H = H') := by
  refine Ct.mk Tryd.func22 rfl Tryd.ntmps22 rfl ?_
  intro W0 hW0
  have o0 : Old H H := Old.refl H
  refine KC.seq ?_
  refine KC.region ?_
  refine KL.op (R.assign rfl rfl) rfl rfl rfl ?_
  refine KL.nil ?_
  refine KQ.seq ?_
  refine KC.seq ?_
  refine KC.region ?_
  refine KL.op (R.move rfl rfl) rfl rfl rfl ?_
  refine KL.op (R.eql rfl rfl rfl) rfl rfl rfl ?_
  refine KL.op (R.move rfl rfl) rfl rfl rfl ?_
  refine KL.case (d := 5) rfl ?_ ?_
  · intro hg5
    try simp only [decide_eq_true_eq, decide_eq_false_iff_not, Bool.not_eq_true', Bool.not_eq_false', Bool.and_eq_true, Bool.or_eq_false_iff] at hg5
    refine KL.skip rfl rfl rfl ?_
    refine KL.skip rfl rfl rfl ?_
    refine KL.op (R.pick rfl rfl rfl) rfl rfl rfl ?_
    refine KL.op (R.move rfl rfl) rfl rfl rfl ?_
    refine KL.skip rfl rfl rfl ?_
    refine KL.skip rfl rfl rfl ?_
    refine KL.op (R.pick rfl rfl rfl) rfl rfl rfl ?_
    refine KL.op (R.move rfl rfl) rfl rfl rfl ?_
    refine KL.skip rfl rfl rfl ?_
    refine KL.skip rfl rfl rfl ?_
    refine KL.op (R.pick rfl rfl rfl) rfl rfl rfl ?_
    refine KL.op (R.assign rfl rfl) rfl rfl rfl ?_
    refine KL.nil ?_
    refine KQ.seq ?_
    refine KC.ret ?_
    refine KQ.ofRet ?_
    refine KQ.fin1 Tryd.results22 rfl ?_
    exact ⟨congrArg Value.bool (by simp [Opc.wide, *]), rfl⟩
  · intro hg5
    try simp only [decide_eq_true_eq, decide_eq_false_iff_not, Bool.not_eq_true', Bool.not_eq_false', Bool.and_eq_true, Bool.or_eq_false_iff] at hg5
    refine KL.op (R.move rfl rfl) rfl rfl rfl ?_
    refine KL.call rfl rfl rfl rfl Tryd.call23 rfl rfl rfl (in_k _ _ _) ?_
    rintro _ _ ⟨rfl, rfl⟩
    refine KL.op (R.pick rfl rfl rfl) rfl rfl rfl ?_
    refine KL.op (R.move rfl rfl) rfl rfl rfl ?_
    refine KL.case (d := 9) rfl ?_ ?_
    · intro hg9
      try simp only [decide_eq_true_eq, decide_eq_false_iff_not, Bool.not_eq_true', Bool.not_eq_false', Bool.and_eq_true, Bool.or_eq_false_iff] at hg9
      refine KL.skip rfl rfl rfl ?_
      refine KL.skip rfl rfl rfl ?_
      refine KL.op (R.pick rfl rfl rfl) rfl rfl rfl ?_
      refine KL.op (R.move rfl rfl) rfl rfl rfl ?_
      refine KL.skip rfl rfl rfl ?_
      refine KL.skip rfl rfl rfl ?_
      refine KL.op (R.pick rfl rfl rfl) rfl rfl rfl ?_
      refine KL.op (R.assign rfl rfl) rfl rfl rfl ?_
      refine KL.nil ?_
      refine KQ.seq ?_
      refine KC.ret ?_
      refine KQ.ofRet ?_
      refine KQ.fin1 Tryd.results22 rfl ?_
      exact ⟨congrArg Value.bool (by simp [Opc.wide, *]), rfl⟩
    · intro hg9
      try simp only [decide_eq_true_eq, decide_eq_false_iff_not, Bool.not_eq_true', Bool.not_eq_false', Bool.and_eq_true, Bool.or_eq_false_iff] at hg9
      refine KL.op (R.move rfl rfl) rfl rfl rfl ?_
      refine KL.op (R.eql rfl rfl rfl) rfl rfl rfl ?_
      refine KL.op (R.pick rfl rfl rfl) rfl rfl rfl ?_
      refine KL.op (R.move rfl rfl) rfl rfl rfl ?_
      refine KL.case (d := 13) rfl ?_ ?_
      · intro hg13
        try simp only [decide_eq_true_eq, decide_eq_false_iff_not, Bool.not_eq_true', Bool.not_eq_false', Bool.and_eq_true, Bool.or_eq_false_iff] at hg13
        refine KL.skip rfl rfl rfl ?_
        refine KL.skip rfl rfl rfl ?_
        refine KL.op (R.pick rfl rfl rfl) rfl rfl rfl ?_
        refine KL.op (R.assign rfl rfl) rfl rfl rfl ?_
        refine KL.nil ?_
        refine KQ.seq ?_
        refine KC.ret ?_
        refine KQ.ofRet ?_
        refine KQ.fin1 Tryd.results22 rfl ?_
        exact ⟨congrArg Value.bool (by simp [Opc.wide, *]), rfl⟩
      · intro hg13
        try simp only [decide_eq_true_eq, decide_eq_false_iff_not, Bool.not_eq_true', Bool.not_eq_false', Bool.and_eq_true, Bool.or_eq_false_iff] at hg13
        refine KL.op (R.move rfl rfl) rfl rfl rfl ?_
        refine KL.call rfl rfl rfl rfl Tryd.call23 rfl rfl rfl (in_k _ _ _) ?_
        rintro _ _ ⟨rfl, rfl⟩
        refine KL.op (R.pick rfl rfl rfl) rfl rfl rfl ?_
        refine KL.op (R.assign rfl rfl) rfl rfl rfl ?_
        refine KL.nil ?_
        refine KQ.seq ?_
        refine KC.ret ?_
        refine KQ.ofRet ?_
        refine KQ.fin1 Tryd.results22 rfl ?_
        exact ⟨congrArg Value.bool (by simp [Opc.wide, *]), rfl⟩

set_option maxRecDepth 100000 in
set_option maxHeartbeats 4000000 in
theorem of_any {H : Heap} (b : Bool) : Ct Tryd.prog 21 [.bool b] H (fun u H' => u = .int .u8 (Opc.ty b) ∧ H = H') := by
  refine Ct.mk Tryd.func21 rfl Tryd.ntmps21 rfl ?_
  intro W0 hW0
  have o0 : Old H H := Old.refl H
  refine KC.seq ?_
  refine KC.region ?_
  refine KL.op (R.assign rfl rfl) rfl rfl rfl ?_
  refine KL.nil ?_
  refine KQ.seq ?_
  refine KC.seq ?_
  refine KC.seq ?_
  refine KC.region ?_
  refine KL.op (R.move rfl rfl) rfl rfl rfl ?_
  refine KL.nil ?_
  refine KQ.seq ?_
  refine KC.iteL rfl ?_ ?_
  · intro hc3
    try simp only [decide_eq_true_eq, decide_eq_false_iff_not, Bool.not_eq_true', Bool.not_eq_false', Bool.and_eq_true, Bool.or_eq_false_iff] at hc3
    refine KC.seq ?_
    refine KC.region ?_
    refine KL.op (R.assign rfl rfl) rfl rfl rfl ?_
    refine KL.nil ?_
    refine KQ.seq ?_
    refine KC.ret ?_
    refine KQ.retThen ?_
    refine KQ.ofRet ?_
    refine KQ.fin1 Tryd.results21 rfl ?_
    exact ⟨by subst_vars; rfl, rfl⟩
  · intro hc3
    try simp only [decide_eq_true_eq, decide_eq_false_iff_not, Bool.not_eq_true', Bool.not_eq_false', Bool.and_eq_true, Bool.or_eq_false_iff] at hc3
    refine KC.skip ?_
    refine KQ.seq ?_
    refine KC.seq ?_
    refine KC.region ?_
    refine KL.op (R.assign rfl rfl) rfl rfl rfl ?_
    refine KL.nil ?_
    refine KQ.seq ?_
    refine KC.ret ?_
    refine KQ.ofRet ?_
    refine KQ.fin1 Tryd.results21 rfl ?_
    exact ⟨by subst_vars; rfl, rfl⟩

set_option maxRecDepth 100000 in
set_option maxHeartbeats 4000000 in
theorem Sig_any {H : Heap} (op : Int) : Ct Tryd.prog 8 [.int .u8 op] H (fun u H' => Old H H' ∧ ∃ vp vr, u = .tuple #[vp, vr, .bool (Opc.sig op).2.2] ∧ Sl 1 (EInt .u8) H' vp (Opc.sig op).1 ∧ Sl 1 (EInt .u8) H' vr (Opc.sig op).2.1) := by
  refine Ct.mk Tryd.func8 rfl Tryd.ntmps8 rfl ?_
  intro W0 hW0
  have o0 : Old H H := Old.refl H
  refine KC.seq ?_
  refine KC.region ?_
  refine KL.op (R.assign rfl rfl) rfl rfl rfl ?_
  refine KL.op (R.assign rfl rfl) rfl rfl rfl ?_
  refine KL.op (R.assign rfl rfl) rfl rfl rfl ?_
  refine KL.nil ?_
  refine KQ.seq ?_
  refine KC.seq ?_
  refine KC.region ?_
  refine KL.op (R.assign rfl rfl) rfl rfl rfl ?_
  refine KL.nil ?_
  refine KQ.seq ?_
  refine KC.seq ?_
  refine KC.block ?_
  refine KC.seq ?_
  refine KC.region ?_
  refine KL.op (R.move rfl rfl) rfl rfl rfl ?_
  refine KL.call rfl rfl rfl rfl Tryd.call10 rfl rfl rfl (Known_k _) ?_
  rintro _ _ ⟨rfl, rfl⟩
  refine KL.op (R.not rfl rfl) rfl rfl rfl ?_
  refine KL.op (R.move rfl rfl) rfl rfl rfl ?_
  refine KL.case (d := 11) rfl ?_ ?_
  · intro hg11
    try simp only [decide_eq_true_eq, decide_eq_false_iff_not, Bool.not_eq_true', Bool.not_eq_false', Bool.and_eq_true, Bool.or_eq_false_iff] at hg11
    refine KL.skip rfl rfl rfl ?_
    refine KL.skip rfl rfl rfl ?_
    refine KL.op (R.pick rfl rfl rfl) rfl rfl rfl ?_
    refine KL.op (R.assign rfl rfl) rfl rfl rfl ?_
    refine KL.nil ?_
    refine KQ.seq ?_
    refine KC.condT rfl ?_
    refine KC.seq ?_
    have hs : Opc.sig op = ([], [], false) := by
      unfold Opc.sig
      repeat' split
      all_goals first | rfl | (exfalso; simp_all; done) | (exfalso; simp_all; omega) | (simp_all; done) | (exfalso; omega)
    have s0 : Sl 1 (EInt .u8) H (.slice none 0 0) [] := Sl.nil _ _ _
    refine KC.region ?_
    refine KL.op (R.assign rfl rfl) rfl rfl rfl ?_
    refine KL.op (R.assign rfl rfl) rfl rfl rfl ?_
    refine KL.op (R.assign rfl rfl) rfl rfl rfl ?_
    refine KL.nil ?_
    refine KQ.seq ?_
    refine KC.ret ?_
    refine KQ.retBlock ?_
    refine KQ.retThen ?_
    refine KQ.ofRet ?_
    refine KQ.fin3 Tryd.results8 rfl rfl rfl ?_
    exact ⟨o0, _, _, by rw [hs], by rw [hs]; first | exact sp | exact Sl.nil _ _ _, by rw [hs]; first | exact sr | exact Sl.nil _ _ _⟩
  · intro hg11
    try simp only [decide_eq_true_eq, decide_eq_false_iff_not, Bool.not_eq_true', Bool.not_eq_false', Bool.and_eq_true, Bool.or_eq_false_iff] at hg11
    refine KL.op (R.move rfl rfl) rfl rfl rfl ?_
    refine KL.op (R.lss rfl rfl rfl) rfl rfl rfl ?_
    refine KL.op (R.pick rfl rfl rfl) rfl rfl rfl ?_
    refine KL.op (R.assign rfl rfl) rfl rfl rfl ?_
    refine KL.nil ?_
    refine KQ.seq ?_
    refine KC.iteL rfl ?_ ?_
    · intro hc7
      try simp only [decide_eq_true_eq, decide_eq_false_iff_not, Bool.not_eq_true', Bool.not_eq_false', Bool.and_eq_true, Bool.or_eq_false_iff] at hc7
      refine KC.seq ?_
      have hs : Opc.sig op = ([], [], false) := by
        unfold Opc.sig
        repeat' split
        all_goals first | rfl | (exfalso; simp_all; done) | (exfalso; simp_all; omega) | (simp_all; done) | (exfalso; omega)
      have s0 : Sl 1 (EInt .u8) H (.slice none 0 0) [] := Sl.nil _ _ _
      refine KC.region ?_
      refine KL.op (R.assign rfl rfl) rfl rfl rfl ?_
      refine KL.op (R.assign rfl rfl) rfl rfl rfl ?_
      refine KL.op (R.assign rfl rfl) rfl rfl rfl ?_
      refine KL.nil ?_
      refine KQ.seq ?_
      refine KC.ret ?_
      refine KQ.retBlock ?_
      refine KQ.retThen ?_
      refine KQ.ofRet ?_
      refine KQ.fin3 Tryd.results8 rfl rfl rfl ?_
      exact ⟨o0, _, _, by rw [hs], by rw [hs]; first | exact sp | exact Sl.nil _ _ _, by rw [hs]; first | exact sr | exact Sl.nil _ _ _⟩
    · intro hc7
      try simp only [decide_eq_true_eq, decide_eq_false_iff_not, Bool.not_eq_true', Bool.not_eq_false', Bool.and_eq_true, Bool.or_eq_false_iff] at hc7
      refine KC.seq ?_
      refine KC.region ?_
      refine KL.op (R.move rfl rfl) rfl rfl rfl ?_
      refine KL.op (R.leq rfl rfl rfl) rfl rfl rfl ?_
      refine KL.op (R.assign rfl rfl) rfl rfl rfl ?_
      refine KL.nil ?_
      refine KQ.seq ?_
      refine KC.iteL rfl ?_ ?_
      · intro hc15
        try simp only [decide_eq_true_eq, decide_eq_false_iff_not, Bool.not_eq_true', Bool.not_eq_false', Bool.and_eq_true, Bool.or_eq_false_iff] at hc15
        refine KC.seq ?_
        have hs : Opc.sig op = ([127], [Opc.ty (Opc.wide op)], true) := by
          unfold Opc.sig
          repeat' split
          all_goals first | rfl | (exfalso; simp_all; done) | (exfalso; simp_all; omega) | (simp_all; done) | (exfalso; omega)
        have s0 : Sl 1 (EInt .u8) H (.slice none 0 0) [] := Sl.nil _ _ _
        refine KC.region ?_
        refine KL.opM (M.lit rfl Tryd.underlying27 zs5 (by decide) rfl rfl rfl) rfl rfl rfl ?_
        rintro _ H1 ⟨rfl, n1⟩
        have z1 := n1.2.1
        have o0 := o0.trans n1.1
        have b1 := n1.2.2
        have sp : Sl 1 (EInt .u8) H1 _ [127] := Sl.lits (l := [127]) n1 rfl (by simp) (by decide)
        refine KL.op (R.move rfl rfl) rfl rfl rfl ?_
        refine KL.op (R.move rfl rfl) rfl rfl rfl ?_
        refine KL.call rfl rfl rfl rfl Tryd.call22 rfl rfl rfl (wide_any _) ?_
        rintro _ _ ⟨rfl, rfl⟩
        refine KL.call rfl rfl rfl rfl Tryd.call21 rfl rfl rfl (of_any _) ?_
        rintro _ _ ⟨rfl, rfl⟩
        refine KL.opM (M.lit rfl Tryd.underlying27 zs5 (by decide) rfl rfl rfl) rfl rfl rfl ?_
        rintro _ H2 ⟨rfl, n2⟩
        have z2 := n2.2.1
        have o0 := o0.trans n2.1
        have sp := sp.old n2.1
        have b2 := n2.2.2
        have sr : Sl 1 (EInt .u8) H2 _ [Opc.ty (Opc.wide op)] := Sl.lits (l := [Opc.ty (Opc.wide op)]) n2 rfl (by simp) (by intro x hx; simp only [List.mem_cons, List.not_mem_nil, or_false] at hx; rcases hx with rfl; first | exact Opc.ty_range _ | decide)
        refine KL.op (R.assign rfl rfl) rfl rfl rfl ?_
        refine KL.op (R.assign rfl rfl) rfl rfl rfl ?_
        refine KL.op (R.assign rfl rfl) rfl rfl rfl ?_
        refine KL.nil ?_
        refine KQ.seq ?_
        refine KC.ret ?_
        refine KQ.retBlock ?_
        refine KQ.retThen ?_
        refine KQ.ofRet ?_
        refine KQ.fin3 Tryd.results8 rfl rfl rfl ?_
        exact ⟨o0, _, _, by rw [hs], by rw [hs]; first | exact sp | exact Sl.nil _ _ _, by rw [hs]; first | exact sr | exact Sl.nil _ _ _⟩
      · intro hc15
        try simp only [decide_eq_true_eq, decide_eq_false_iff_not, Bool.not_eq_true', Bool.not_eq_false', Bool.and_eq_true, Bool.or_eq_false_iff] at hc15
        refine KC.seq ?_
        refine KC.region ?_
        refine KL.op (R.move rfl rfl) rfl rfl rfl ?_
        refine KL.op (R.leq rfl rfl rfl) rfl rfl rfl ?_
        refine KL.op (R.assign rfl rfl) rfl rfl rfl ?_
        refine KL.nil ?_
        refine KQ.seq ?_
        refine KC.iteL rfl ?_ ?_
        · intro hc24
          try simp only [decide_eq_true_eq, decide_eq_false_iff_not, Bool.not_eq_true', Bool.not_eq_false', Bool.and_eq_true, Bool.or_eq_false_iff] at hc24
          refine KC.seq ?_
          have hs : Opc.sig op = ([127, Opc.ty (Opc.wide op)], [], true) := by
            unfold Opc.sig
            repeat' split
            all_goals first | rfl | (exfalso; simp_all; done) | (exfalso; simp_all; omega) | (simp_all; done) | (exfalso; omega)
          have s0 : Sl 1 (EInt .u8) H (.slice none 0 0) [] := Sl.nil _ _ _
          refine KC.region ?_
          refine KL.op (R.move rfl rfl) rfl rfl rfl ?_
          refine KL.op (R.move rfl rfl) rfl rfl rfl ?_
          refine KL.call rfl rfl rfl rfl Tryd.call22 rfl rfl rfl (wide_any _) ?_
          rintro _ _ ⟨rfl, rfl⟩
          refine KL.call rfl rfl rfl rfl Tryd.call21 rfl rfl rfl (of_any _) ?_
          rintro _ _ ⟨rfl, rfl⟩
          refine KL.opM (M.lit rfl Tryd.underlying27 zs5 (by decide) rfl rfl rfl) rfl rfl rfl ?_
          rintro _ H3 ⟨rfl, n3⟩
          have z3 := n3.2.1
          have o0 := o0.trans n3.1
          have b3 := n3.2.2
          have sp : Sl 1 (EInt .u8) H3 _ [127, Opc.ty (Opc.wide op)] := Sl.lits (l := [127, Opc.ty (Opc.wide op)]) n3 rfl (by simp) (by intro x hx; simp only [List.mem_cons, List.not_mem_nil, or_false] at hx; rcases hx with rfl | rfl <;> first | exact Opc.ty_range _ | decide)
          refine KL.op (R.assign rfl rfl) rfl rfl rfl ?_
          refine KL.op (R.assign rfl rfl) rfl rfl rfl ?_
          refine KL.op (R.assign rfl rfl) rfl rfl rfl ?_
          refine KL.nil ?_
          refine KQ.seq ?_
          refine KC.ret ?_
          refine KQ.retBlock ?_
          refine KQ.retThen ?_
          refine KQ.ofRet ?_
          refine KQ.fin3 Tryd.results8 rfl rfl rfl ?_
          exact ⟨o0, _, _, by rw [hs], by rw [hs]; first | exact sp | exact Sl.nil _ _ _, by rw [hs]; first | exact sr | exact Sl.nil _ _ _⟩
        · intro hc24
          try simp only [decide_eq_true_eq, decide_eq_false_iff_not, Bool.not_eq_true', Bool.not_eq_false', Bool.and_eq_true, Bool.or_eq_false_iff] at hc24
          refine KC.seq ?_
          refine KC.region ?_
          refine KL.op (R.move rfl rfl) rfl rfl rfl ?_
          refine KL.op (R.eql rfl rfl rfl) rfl rfl rfl ?_
          refine KL.op (R.assign rfl rfl) rfl rfl rfl ?_
          refine KL.nil ?_
          refine KQ.seq ?_
          refine KC.iteL rfl ?_ ?_
          · intro hc32
            try simp only [decide_eq_true_eq, decide_eq_false_iff_not, Bool.not_eq_true', Bool.not_eq_false', Bool.and_eq_true, Bool.or_eq_false_iff] at hc32
            refine KC.seq ?_
            have hs : Opc.sig op = ([], [127], true) := by
              unfold Opc.sig
              repeat' split
              all_goals first | rfl | (exfalso; simp_all; done) | (exfalso; simp_all; omega) | (simp_all; done) | (exfalso; omega)
            have s0 : Sl 1 (EInt .u8) H (.slice none 0 0) [] := Sl.nil _ _ _
            refine KC.region ?_
            refine KL.opM (M.lit rfl Tryd.underlying27 zs5 (by decide) rfl rfl rfl) rfl rfl rfl ?_
            rintro _ H4 ⟨rfl, n4⟩
            have z4 := n4.2.1
            have o0 := o0.trans n4.1
            have b4 := n4.2.2
            have sr : Sl 1 (EInt .u8) H4 _ [127] := Sl.lits (l := [127]) n4 rfl (by simp) (by decide)
            refine KL.op (R.assign rfl rfl) rfl rfl rfl ?_
            refine KL.op (R.assign rfl rfl) rfl rfl rfl ?_
            refine KL.op (R.assign rfl rfl) rfl rfl rfl ?_
            refine KL.nil ?_
            refine KQ.seq ?_
            refine KC.ret ?_
            refine KQ.retBlock ?_
            refine KQ.retThen ?_
            refine KQ.ofRet ?_
            refine KQ.fin3 Tryd.results8 rfl rfl rfl ?_
            exact ⟨o0, _, _, by rw [hs], by rw [hs]; first | exact sp | exact Sl.nil _ _ _, by rw [hs]; first | exact sr | exact Sl.nil _ _ _⟩
          · intro hc32
            try simp only [decide_eq_true_eq, decide_eq_false_iff_not, Bool.not_eq_true', Bool.not_eq_false', Bool.and_eq_true, Bool.or_eq_false_iff] at hc32
            refine KC.seq ?_
            refine KC.region ?_
            refine KL.op (R.move rfl rfl) rfl rfl rfl ?_
            refine KL.op (R.eql rfl rfl rfl) rfl rfl rfl ?_
            refine KL.op (R.move rfl rfl) rfl rfl rfl ?_
            refine KL.case (d := 39) rfl ?_ ?_
            · intro hg39
              try simp only [decide_eq_true_eq, decide_eq_false_iff_not, Bool.not_eq_true', Bool.not_eq_false', Bool.and_eq_true, Bool.or_eq_false_iff] at hg39
              refine KL.skip rfl rfl rfl ?_
              refine KL.skip rfl rfl rfl ?_
              refine KL.op (R.pick rfl rfl rfl) rfl rfl rfl ?_
              refine KL.op (R.move rfl rfl) rfl rfl rfl ?_
              refine KL.skip rfl rfl rfl ?_
              refine KL.skip rfl rfl rfl ?_
              refine KL.op (R.pick rfl rfl rfl) rfl rfl rfl ?_
              refine KL.op (R.assign rfl rfl) rfl rfl rfl ?_
              refine KL.nil ?_
              refine KQ.seq ?_
              refine KC.condT rfl ?_
              refine KC.seq ?_
              have hs : Opc.sig op = ([127], [127], true) := by
                unfold Opc.sig
                repeat' split
                all_goals first | rfl | (exfalso; simp_all; done) | (exfalso; simp_all; omega) | (simp_all; done) | (exfalso; omega)
              have s0 : Sl 1 (EInt .u8) H (.slice none 0 0) [] := Sl.nil _ _ _
              refine KC.region ?_
              refine KL.opM (M.lit rfl Tryd.underlying27 zs5 (by decide) rfl rfl rfl) rfl rfl rfl ?_
              rintro _ H5 ⟨rfl, n5⟩
              have z5 := n5.2.1
              have o0 := o0.trans n5.1
              have b5 := n5.2.2
              have sp : Sl 1 (EInt .u8) H5 _ [127] := Sl.lits (l := [127]) n5 rfl (by simp) (by decide)
              refine KL.opM (M.lit rfl Tryd.underlying27 zs5 (by decide) rfl rfl rfl) rfl rfl rfl ?_
              rintro _ H6 ⟨rfl, n6⟩
              have z6 := n6.2.1
              have o0 := o0.trans n6.1
              have sp := sp.old n6.1
              have b6 := n6.2.2
              have sr : Sl 1 (EInt .u8) H6 _ [127] := Sl.lits (l := [127]) n6 rfl (by simp) (by decide)
              refine KL.op (R.assign rfl rfl) rfl rfl rfl ?_
              refine KL.op (R.assign rfl rfl) rfl rfl rfl ?_
              refine KL.op (R.assign rfl rfl) rfl rfl rfl ?_
              refine KL.nil ?_
              refine KQ.seq ?_
              refine KC.ret ?_
              refine KQ.retBlock ?_
              refine KQ.retThen ?_
              refine KQ.ofRet ?_
              refine KQ.fin3 Tryd.results8 rfl rfl rfl ?_
              exact ⟨o0, _, _, by rw [hs], by rw [hs]; first | exact sp | exact Sl.nil _ _ _, by rw [hs]; first | exact sr | exact Sl.nil _ _ _⟩
            · intro hg39
              try simp only [decide_eq_true_eq, decide_eq_false_iff_not, Bool.not_eq_true', Bool.not_eq_false', Bool.and_eq_true, Bool.or_eq_false_iff] at hg39
              refine KL.op (R.move rfl rfl) rfl rfl rfl ?_
              refine KL.op (R.eql rfl rfl rfl) rfl rfl rfl ?_
              refine KL.op (R.pick rfl rfl rfl) rfl rfl rfl ?_
              refine KL.op (R.move rfl rfl) rfl rfl rfl ?_
              refine KL.case (d := 43) rfl ?_ ?_
              · intro hg43
                try simp only [decide_eq_true_eq, decide_eq_false_iff_not, Bool.not_eq_true', Bool.not_eq_false', Bool.and_eq_true, Bool.or_eq_false_iff] at hg43
                refine KL.skip rfl rfl rfl ?_
                refine KL.skip rfl rfl rfl ?_
                refine KL.op (R.pick rfl rfl rfl) rfl rfl rfl ?_
                refine KL.op (R.assign rfl rfl) rfl rfl rfl ?_
                refine KL.nil ?_
                refine KQ.seq ?_
                refine KC.condT rfl ?_
                refine KC.seq ?_
                have hs : Opc.sig op = ([127], [127], true) := by
                  unfold Opc.sig
                  repeat' split
                  all_goals first | rfl | (exfalso; simp_all; done) | (exfalso; simp_all; omega) | (simp_all; done) | (exfalso; omega)
                have s0 : Sl 1 (EInt .u8) H (.slice none 0 0) [] := Sl.nil _ _ _
                refine KC.region ?_
                refine KL.opM (M.lit rfl Tryd.underlying27 zs5 (by decide) rfl rfl rfl) rfl rfl rfl ?_
                rintro _ H7 ⟨rfl, n7⟩
                have z7 := n7.2.1
                have o0 := o0.trans n7.1
                have b7 := n7.2.2
                have sp : Sl 1 (EInt .u8) H7 _ [127] := Sl.lits (l := [127]) n7 rfl (by simp) (by decide)
                refine KL.opM (M.lit rfl Tryd.underlying27 zs5 (by decide) rfl rfl rfl) rfl rfl rfl ?_
                rintro _ H8 ⟨rfl, n8⟩
                have z8 := n8.2.1
                have o0 := o0.trans n8.1
                have sp := sp.old n8.1
                have b8 := n8.2.2
                have sr : Sl 1 (EInt .u8) H8 _ [127] := Sl.lits (l := [127]) n8 rfl (by simp) (by decide)
                refine KL.op (R.assign rfl rfl) rfl rfl rfl ?_
                refine KL.op (R.assign rfl rfl) rfl rfl rfl ?_
                refine KL.op (R.assign rfl rfl) rfl rfl rfl ?_
                refine KL.nil ?_
                refine KQ.seq ?_
                refine KC.ret ?_
                refine KQ.retBlock ?_
                refine KQ.retThen ?_
                refine KQ.ofRet ?_
                refine KQ.fin3 Tryd.results8 rfl rfl rfl ?_
                exact ⟨o0, _, _, by rw [hs], by rw [hs]; first | exact sp | exact Sl.nil _ _ _, by rw [hs]; first | exact sr | exact Sl.nil _ _ _⟩
              · intro hg43
                try simp only [decide_eq_true_eq, decide_eq_false_iff_not, Bool.not_eq_true', Bool.not_eq_false', Bool.and_eq_true, Bool.or_eq_false_iff] at hg43
                refine KL.op (R.move rfl rfl) rfl rfl rfl ?_
                refine KL.call rfl rfl rfl rfl Tryd.call23 rfl rfl rfl (in_k _ _ _) ?_
                rintro _ _ ⟨rfl, rfl⟩
                refine KL.op (R.pick rfl rfl rfl) rfl rfl rfl ?_
                refine KL.op (R.assign rfl rfl) rfl rfl rfl ?_
                refine KL.nil ?_
                refine KQ.seq ?_
                refine KC.iteL rfl ?_ ?_
                · intro hc36
                  try simp only [decide_eq_true_eq, decide_eq_false_iff_not, Bool.not_eq_true', Bool.not_eq_false', Bool.and_eq_true, Bool.or_eq_false_iff] at hc36
                  refine KC.seq ?_
                  have hs : Opc.sig op = ([127], [127], true) := by
                    unfold Opc.sig
                    repeat' split
                    all_goals first | rfl | (exfalso; simp_all; done) | (exfalso; simp_all; omega) | (simp_all; done) | (exfalso; omega)
                  have s0 : Sl 1 (EInt .u8) H (.slice none 0 0) [] := Sl.nil _ _ _
                  refine KC.region ?_
                  refine KL.opM (M.lit rfl Tryd.underlying27 zs5 (by decide) rfl rfl rfl) rfl rfl rfl ?_
                  rintro _ H9 ⟨rfl, n9⟩
                  have z9 := n9.2.1
                  have o0 := o0.trans n9.1
                  have b9 := n9.2.2
                  have sp : Sl 1 (EInt .u8) H9 _ [127] := Sl.lits (l := [127]) n9 rfl (by simp) (by decide)
                  refine KL.opM (M.lit rfl Tryd.underlying27 zs5 (by decide) rfl rfl rfl) rfl rfl rfl ?_
                  rintro _ H10 ⟨rfl, n10⟩
                  have z10 := n10.2.1
                  have o0 := o0.trans n10.1
                  have sp := sp.old n10.1
                  have b10 := n10.2.2
                  have sr : Sl 1 (EInt .u8) H10 _ [127] := Sl.lits (l := [127]) n10 rfl (by simp) (by decide)
                  refine KL.op (R.assign rfl rfl) rfl rfl rfl ?_
                  refine KL.op (R.assign rfl rfl) rfl rfl rfl ?_
                  refine KL.op (R.assign rfl rfl) rfl rfl rfl ?_
                  refine KL.nil ?_
                  refine KQ.seq ?_
                  refine KC.ret ?_
                  refine KQ.retBlock ?_
                  refine KQ.retThen ?_
                  refine KQ.ofRet ?_
                  refine KQ.fin3 Tryd.results8 rfl rfl rfl ?_
                  exact ⟨o0, _, _, by rw [hs], by rw [hs]; first | exact sp | exact Sl.nil _ _ _, by rw [hs]; first | exact sr | exact Sl.nil _ _ _⟩
                · intro hc36
                  try simp only [decide_eq_true_eq, decide_eq_false_iff_not, Bool.not_eq_true', Bool.not_eq_false', Bool.and_eq_true, Bool.or_eq_false_iff] at hc36
                  refine KC.seq ?_
                  refine KC.region ?_
                  refine KL.op (R.move rfl rfl) rfl rfl rfl ?_
                  refine KL.op (R.leq rfl rfl rfl) rfl rfl rfl ?_
                  refine KL.op (R.assign rfl rfl) rfl rfl rfl ?_
                  refine KL.nil ?_
                  refine KQ.seq ?_
                  refine KC.iteL rfl ?_ ?_
                  · intro hc49
                    try simp only [decide_eq_true_eq, decide_eq_false_iff_not, Bool.not_eq_true', Bool.not_eq_false', Bool.and_eq_true, Bool.or_eq_false_iff] at hc49
                    refine KC.seq ?_
                    have hs : Opc.sig op = ([], [Opc.ty (decide (op = 66))], true) := by
                      unfold Opc.sig
                      repeat' split
                      all_goals first | rfl | (exfalso; simp_all; done) | (exfalso; simp_all; omega) | (simp_all; done) | (exfalso; omega)
                    have s0 : Sl 1 (EInt .u8) H (.slice none 0 0) [] := Sl.nil _ _ _
                    refine KC.region ?_
                    refine KL.op (R.move rfl rfl) rfl rfl rfl ?_
                    refine KL.op (R.move rfl rfl) rfl rfl rfl ?_
                    refine KL.op (R.eql rfl rfl rfl) rfl rfl rfl ?_
                    refine KL.call rfl rfl rfl rfl Tryd.call21 rfl rfl rfl (of_any _) ?_
                    rintro _ _ ⟨rfl, rfl⟩
                    refine KL.opM (M.lit rfl Tryd.underlying27 zs5 (by decide) rfl rfl rfl) rfl rfl rfl ?_
                    rintro _ H11 ⟨rfl, n11⟩
                    have z11 := n11.2.1
                    have o0 := o0.trans n11.1
                    have b11 := n11.2.2
                    have sr : Sl 1 (EInt .u8) H11 _ [Opc.ty (decide (op = 66))] := Sl.lits (l := [Opc.ty (decide (op = 66))]) n11 rfl (by simp) (by intro x hx; simp only [List.mem_cons, List.not_mem_nil, or_false] at hx; rcases hx with rfl; first | exact Opc.ty_range _ | decide)
                    refine KL.op (R.assign rfl rfl) rfl rfl rfl ?_
                    refine KL.op (R.assign rfl rfl) rfl rfl rfl ?_
                    refine KL.op (R.assign rfl rfl) rfl rfl rfl ?_
                    refine KL.nil ?_
                    refine KQ.seq ?_
                    refine KC.ret ?_
                    refine KQ.retBlock ?_
                    refine KQ.retThen ?_
                    refine KQ.ofRet ?_
                    refine KQ.fin3 Tryd.results8 rfl rfl rfl ?_
                    exact ⟨o0, _, _, by rw [hs], by rw [hs]; first | exact sp | exact Sl.nil _ _ _, by rw [hs]; first | exact sr | exact Sl.nil _ _ _⟩
                  · intro hc49
                    try simp only [decide_eq_true_eq, decide_eq_false_iff_not, Bool.not_eq_true', Bool.not_eq_false', Bool.and_eq_true, Bool.or_eq_false_iff] at hc49
                    refine KC.seq ?_
                    refine KC.region ?_
                    refine KL.op (R.move rfl rfl) rfl rfl rfl ?_
                    refine KL.op (R.eql rfl rfl rfl) rfl rfl rfl ?_
                    refine KL.op (R.move rfl rfl) rfl rfl rfl ?_
                    refine KL.case (d := 60) rfl ?_ ?_
                    · intro hg60
                      try simp only [decide_eq_true_eq, decide_eq_false_iff_not, Bool.not_eq_true', Bool.not_eq_false', Bool.and_eq_true, Bool.or_eq_false_iff] at hg60
                      refine KL.skip rfl rfl rfl ?_
                      refine KL.skip rfl rfl rfl ?_
                      refine KL.op (R.pick rfl rfl rfl) rfl rfl rfl ?_
                      refine KL.op (R.assign rfl rfl) rfl rfl rfl ?_
                      refine KL.nil ?_
                      refine KQ.seq ?_
                      refine KC.condT rfl ?_
                      refine KC.seq ?_
                      have hs : Opc.sig op = ([126], [127], true) := by
                        unfold Opc.sig
                        repeat' split
                        all_goals first | rfl | (exfalso; simp_all; done) | (exfalso; simp_all; omega) | (simp_all; done) | (exfalso; omega)
                      have s0 : Sl 1 (EInt .u8) H (.slice none 0 0) [] := Sl.nil _ _ _
                      refine KC.region ?_
                      refine KL.opM (M.lit rfl Tryd.underlying27 zs5 (by decide) rfl rfl rfl) rfl rfl rfl ?_
                      rintro _ H12 ⟨rfl, n12⟩
                      have z12 := n12.2.1
                      have o0 := o0.trans n12.1
                      have b12 := n12.2.2
                      have sp : Sl 1 (EInt .u8) H12 _ [126] := Sl.lits (l := [126]) n12 rfl (by simp) (by decide)
                      refine KL.opM (M.lit rfl Tryd.underlying27 zs5 (by decide) rfl rfl rfl) rfl rfl rfl ?_
                      rintro _ H13 ⟨rfl, n13⟩
                      have z13 := n13.2.1
                      have o0 := o0.trans n13.1
                      have sp := sp.old n13.1
                      have b13 := n13.2.2
                      have sr : Sl 1 (EInt .u8) H13 _ [127] := Sl.lits (l := [127]) n13 rfl (by simp) (by decide)
                      refine KL.op (R.assign rfl rfl) rfl rfl rfl ?_
                      refine KL.op (R.assign rfl rfl) rfl rfl rfl ?_
                      refine KL.op (R.assign rfl rfl) rfl rfl rfl ?_
                      refine KL.nil ?_
                      refine KQ.seq ?_
                      refine KC.ret ?_
                      refine KQ.retBlock ?_
                      refine KQ.retThen ?_
                      refine KQ.ofRet ?_
                      refine KQ.fin3 Tryd.results8 rfl rfl rfl ?_
                      exact ⟨o0, _, _, by rw [hs], by rw [hs]; first | exact sp | exact Sl.nil _ _ _, by rw [hs]; first | exact sr | exact Sl.nil _ _ _⟩
                    · intro hg60
                      try simp only [decide_eq_true_eq, decide_eq_false_iff_not, Bool.not_eq_true', Bool.not_eq_false', Bool.and_eq_true, Bool.or_eq_false_iff] at hg60
                      refine KL.op (R.move rfl rfl) rfl rfl rfl ?_
                      refine KL.op (R.eql rfl rfl rfl) rfl rfl rfl ?_
                      refine KL.op (R.pick rfl rfl rfl) rfl rfl rfl ?_
                      refine KL.op (R.assign rfl rfl) rfl rfl rfl ?_
                      refine KL.nil ?_
                      refine KQ.seq ?_
                      refine KC.iteL rfl ?_ ?_
                      · intro hc57
                        try simp only [decide_eq_true_eq, decide_eq_false_iff_not, Bool.not_eq_true', Bool.not_eq_false', Bool.and_eq_true, Bool.or_eq_false_iff] at hc57
                        refine KC.seq ?_
                        have hs : Opc.sig op = ([126], [127], true) := by
                          unfold Opc.sig
                          repeat' split
                          all_goals first | rfl | (exfalso; simp_all; done) | (exfalso; simp_all; omega) | (simp_all; done) | (exfalso; omega)
                        have s0 : Sl 1 (EInt .u8) H (.slice none 0 0) [] := Sl.nil _ _ _
                        refine KC.region ?_
                        refine KL.opM (M.lit rfl Tryd.underlying27 zs5 (by decide) rfl rfl rfl) rfl rfl rfl ?_
                        rintro _ H14 ⟨rfl, n14⟩
                        have z14 := n14.2.1
                        have o0 := o0.trans n14.1
                        have b14 := n14.2.2
                        have sp : Sl 1 (EInt .u8) H14 _ [126] := Sl.lits (l := [126]) n14 rfl (by simp) (by decide)
                        refine KL.opM (M.lit rfl Tryd.underlying27 zs5 (by decide) rfl rfl rfl) rfl rfl rfl ?_
                        rintro _ H15 ⟨rfl, n15⟩
                        have z15 := n15.2.1
                        have o0 := o0.trans n15.1
                        have sp := sp.old n15.1
                        have b15 := n15.2.2
                        have sr : Sl 1 (EInt .u8) H15 _ [127] := Sl.lits (l := [127]) n15 rfl (by simp) (by decide)
                        refine KL.op (R.assign rfl rfl) rfl rfl rfl ?_
                        refine KL.op (R.assign rfl rfl) rfl rfl rfl ?_
                        refine KL.op (R.assign rfl rfl) rfl rfl rfl ?_
                        refine KL.nil ?_
                        refine KQ.seq ?_
                        refine KC.ret ?_
                        refine KQ.retBlock ?_
                        refine KQ.retThen ?_
                        refine KQ.ofRet ?_
                        refine KQ.fin3 Tryd.results8 rfl rfl rfl ?_
                        exact ⟨o0, _, _, by rw [hs], by rw [hs]; first | exact sp | exact Sl.nil _ _ _, by rw [hs]; first | exact sr | exact Sl.nil _ _ _⟩
                      · intro hc57
                        try simp only [decide_eq_true_eq, decide_eq_false_iff_not, Bool.not_eq_true', Bool.not_eq_false', Bool.and_eq_true, Bool.or_eq_false_iff] at hc57
                        refine KC.seq ?_
                        refine KC.region ?_
                        refine KL.op (R.move rfl rfl) rfl rfl rfl ?_
                        refine KL.call rfl rfl rfl rfl Tryd.call23 rfl rfl rfl (in_k _ _ _) ?_
                        rintro _ _ ⟨rfl, rfl⟩
                        refine KL.op (R.assign rfl rfl) rfl rfl rfl ?_
                        refine KL.nil ?_
                        refine KQ.seq ?_
                        refine KC.iteL rfl ?_ ?_
                        · intro hc66
                          try simp only [decide_eq_true_eq, decide_eq_false_iff_not, Bool.not_eq_true', Bool.not_eq_false', Bool.and_eq_true, Bool.or_eq_false_iff] at hc66
                          refine KC.seq ?_
                          have hs : Opc.sig op = ([126], [126], true) := by
                            unfold Opc.sig
                            repeat' split
                            all_goals first | rfl | (exfalso; simp_all; done) | (exfalso; simp_all; omega) | (simp_all; done) | (exfalso; omega)
                          have s0 : Sl 1 (EInt .u8) H (.slice none 0 0) [] := Sl.nil _ _ _
                          refine KC.region ?_
                          refine KL.opM (M.lit rfl Tryd.underlying27 zs5 (by decide) rfl rfl rfl) rfl rfl rfl ?_
                          rintro _ H16 ⟨rfl, n16⟩
                          have z16 := n16.2.1
                          have o0 := o0.trans n16.1
                          have b16 := n16.2.2
                          have sp : Sl 1 (EInt .u8) H16 _ [126] := Sl.lits (l := [126]) n16 rfl (by simp) (by decide)
                          refine KL.opM (M.lit rfl Tryd.underlying27 zs5 (by decide) rfl rfl rfl) rfl rfl rfl ?_
                          rintro _ H17 ⟨rfl, n17⟩
                          have z17 := n17.2.1
                          have o0 := o0.trans n17.1
                          have sp := sp.old n17.1
                          have b17 := n17.2.2
                          have sr : Sl 1 (EInt .u8) H17 _ [126] := Sl.lits (l := [126]) n17 rfl (by simp) (by decide)
                          refine KL.op (R.assign rfl rfl) rfl rfl rfl ?_
                          refine KL.op (R.assign rfl rfl) rfl rfl rfl ?_
                          refine KL.op (R.assign rfl rfl) rfl rfl rfl ?_
                          refine KL.nil ?_
                          refine KQ.seq ?_
                          refine KC.ret ?_
                          refine KQ.retBlock ?_
                          refine KQ.retThen ?_
                          refine KQ.ofRet ?_
                          refine KQ.fin3 Tryd.results8 rfl rfl rfl ?_
                          exact ⟨o0, _, _, by rw [hs], by rw [hs]; first | exact sp | exact Sl.nil _ _ _, by rw [hs]; first | exact sr | exact Sl.nil _ _ _⟩
                        · intro hc66
                          try simp only [decide_eq_true_eq, decide_eq_false_iff_not, Bool.not_eq_true', Bool.not_eq_false', Bool.and_eq_true, Bool.or_eq_false_iff] at hc66
                          refine KC.seq ?_
                          refine KC.region ?_
                          refine KL.op (R.move rfl rfl) rfl rfl rfl ?_
                          refine KL.op (R.geq rfl rfl rfl) rfl rfl rfl ?_
                          refine KL.op (R.assign rfl rfl) rfl rfl rfl ?_
                          refine KL.nil ?_
                          refine KQ.seq ?_
                          refine KC.iteL rfl ?_ ?_
                          · intro hc71
                            try simp only [decide_eq_true_eq, decide_eq_false_iff_not, Bool.not_eq_true', Bool.not_eq_false', Bool.and_eq_true, Bool.or_eq_false_iff] at hc71
                            refine KC.seq ?_
                            have hs : Opc.sig op = ([127], [126], true) := by
                              unfold Opc.sig
                              repeat' split
                              all_goals first | rfl | (exfalso; simp_all; done) | (exfalso; simp_all; omega) | (simp_all; done) | (exfalso; omega)
                            have s0 : Sl 1 (EInt .u8) H (.slice none 0 0) [] := Sl.nil _ _ _
                            refine KC.region ?_
                            refine KL.opM (M.lit rfl Tryd.underlying27 zs5 (by decide) rfl rfl rfl) rfl rfl rfl ?_
                            rintro _ H18 ⟨rfl, n18⟩
                            have z18 := n18.2.1
                            have o0 := o0.trans n18.1
                            have b18 := n18.2.2
                            have sp : Sl 1 (EInt .u8) H18 _ [127] := Sl.lits (l := [127]) n18 rfl (by simp) (by decide)
                            refine KL.opM (M.lit rfl Tryd.underlying27 zs5 (by decide) rfl rfl rfl) rfl rfl rfl ?_
                            rintro _ H19 ⟨rfl, n19⟩
                            have z19 := n19.2.1
                            have o0 := o0.trans n19.1
                            have sp := sp.old n19.1
                            have b19 := n19.2.2
                            have sr : Sl 1 (EInt .u8) H19 _ [126] := Sl.lits (l := [126]) n19 rfl (by simp) (by decide)
                            refine KL.op (R.assign rfl rfl) rfl rfl rfl ?_
                            refine KL.op (R.assign rfl rfl) rfl rfl rfl ?_
                            refine KL.op (R.assign rfl rfl) rfl rfl rfl ?_
                            refine KL.nil ?_
                            refine KQ.seq ?_
                            refine KC.ret ?_
                            refine KQ.retBlock ?_
                            refine KQ.retThen ?_
                            refine KQ.ofRet ?_
                            refine KQ.fin3 Tryd.results8 rfl rfl rfl ?_
                            exact ⟨o0, _, _, by rw [hs], by rw [hs]; first | exact sp | exact Sl.nil _ _ _, by rw [hs]; first | exact sr | exact Sl.nil _ _ _⟩
                          · intro hc71
                            try simp only [decide_eq_true_eq, decide_eq_false_iff_not, Bool.not_eq_true', Bool.not_eq_false', Bool.and_eq_true, Bool.or_eq_false_iff] at hc71
                            refine KC.skip ?_
                            refine KQ.normBlock ?_
                            refine KQ.seq ?_
                            refine KC.seq ?_
                            have hs : Opc.sig op = ([Opc.ty (Opc.inR op 81 90 || decide (124 ≤ op)), Opc.ty (Opc.inR op 81 90 || decide (124 ≤ op))], [Opc.ty (decide (124 ≤ op))], true) := by
                              unfold Opc.sig
                              repeat' split
                              all_goals first | rfl | (exfalso; simp_all; done) | (exfalso; simp_all; omega) | (simp_all; done) | (exfalso; omega)
                            have s0 : Sl 1 (EInt .u8) H (.slice none 0 0) [] := Sl.nil _ _ _
                            refine KC.region ?_
                            refine KL.op (R.move rfl rfl) rfl rfl rfl ?_
                            refine KL.call rfl rfl rfl rfl Tryd.call23 rfl rfl rfl (in_k _ _ _) ?_
                            rintro _ _ ⟨rfl, rfl⟩
                            refine KL.op (R.move rfl rfl) rfl rfl rfl ?_
                            refine KL.case (d := 78) rfl ?_ ?_
                            · intro hg78
                              try simp only [decide_eq_true_eq, decide_eq_false_iff_not, Bool.not_eq_true', Bool.not_eq_false', Bool.and_eq_true, Bool.or_eq_false_iff] at hg78
                              have hlong : (Opc.inR op 81 90 || decide (124 ≤ op)) = true := by simp_all
                              refine KL.skip rfl rfl rfl ?_
                              refine KL.skip rfl rfl rfl ?_
                              refine KL.op (R.pick rfl rfl rfl) rfl rfl rfl ?_
                              refine KL.op (R.assign rfl rfl) rfl rfl rfl ?_
                              refine KL.nil ?_
                              refine KQ.seq ?_
                              refine KC.seq ?_
                              refine KC.region ?_
                              refine KL.op (R.move rfl rfl) rfl rfl rfl ?_
                              refine KL.op (R.move rfl rfl) rfl rfl rfl ?_
                              refine KL.call rfl rfl rfl rfl Tryd.call21 rfl rfl rfl (of_any _) ?_
                              rintro _ _ ⟨rfl, rfl⟩
                              refine KL.op (R.move rfl rfl) rfl rfl rfl ?_
                              refine KL.op (R.move rfl rfl) rfl rfl rfl ?_
                              refine KL.call rfl rfl rfl rfl Tryd.call21 rfl rfl rfl (of_any _) ?_
                              rintro _ _ ⟨rfl, rfl⟩
                              refine KL.opM (M.lit rfl Tryd.underlying27 zs5 (by decide) rfl rfl rfl) rfl rfl rfl ?_
                              rintro _ H20 ⟨rfl, n20⟩
                              have z20 := n20.2.1
                              have o0 := o0.trans n20.1
                              have b20 := n20.2.2
                              have sp : Sl 1 (EInt .u8) H20 (.slice (some ⟨Array.size H, 0, none⟩) 2 2) [Opc.ty (Opc.inR op 81 90 || decide (124 ≤ op)), Opc.ty (Opc.inR op 81 90 || decide (124 ≤ op))] := by
                                first
                                  | (simp only [hlong]; exact Sl.lits (l := [Opc.ty true, Opc.ty true]) n20 rfl (by simp) (by decide))
                                  | (simp only [hlong]; exact Sl.lits (l := [Opc.ty (decide (124 ≤ op)), Opc.ty (decide (124 ≤ op))]) n20 rfl (by simp) (by intro x hx; simp only [List.mem_cons, List.not_mem_nil, or_false] at hx; rcases hx with rfl | rfl <;> first | exact Opc.ty_range _ | decide))
                              refine KL.op (R.move rfl rfl) rfl rfl rfl ?_
                              refine KL.op (R.move rfl rfl) rfl rfl rfl ?_
                              refine KL.op (R.geq rfl rfl rfl) rfl rfl rfl ?_
                              refine KL.call rfl rfl rfl rfl Tryd.call21 rfl rfl rfl (of_any _) ?_
                              rintro _ _ ⟨rfl, rfl⟩
                              refine KL.opM (M.lit rfl Tryd.underlying27 zs5 (by decide) rfl rfl rfl) rfl rfl rfl ?_
                              rintro _ H21 ⟨rfl, n21⟩
                              have z21 := n21.2.1
                              have o0 := o0.trans n21.1
                              have sp := sp.old n21.1
                              have b21 := n21.2.2
                              have sr : Sl 1 (EInt .u8) H21 _ [Opc.ty (decide (124 ≤ op))] := Sl.lits (l := [Opc.ty (decide (124 ≤ op))]) n21 rfl (by simp) (by intro x hx; simp only [List.mem_cons, List.not_mem_nil, or_false] at hx; rcases hx with rfl; first | exact Opc.ty_range _ | decide)
                              refine KL.op (R.assign rfl rfl) rfl rfl rfl ?_
                              refine KL.op (R.assign rfl rfl) rfl rfl rfl ?_
                              refine KL.op (R.assign rfl rfl) rfl rfl rfl ?_
                              refine KL.nil ?_
                              refine KQ.seq ?_
                              refine KC.ret ?_
                              refine KQ.ofRet ?_
                              refine KQ.fin3 Tryd.results8 rfl rfl rfl ?_
                              exact ⟨o0, _, _, by rw [hs], by rw [hs]; first | exact sp | exact Sl.nil _ _ _, by rw [hs]; first | exact sr | exact Sl.nil _ _ _⟩
                            · intro hg78
                              try simp only [decide_eq_true_eq, decide_eq_false_iff_not, Bool.not_eq_true', Bool.not_eq_false', Bool.and_eq_true, Bool.or_eq_false_iff] at hg78
                              have hlong : (Opc.inR op 81 90 || decide (124 ≤ op)) = decide (124 ≤ op) := by simp_all
                              refine KL.op (R.move rfl rfl) rfl rfl rfl ?_
                              refine KL.op (R.geq rfl rfl rfl) rfl rfl rfl ?_
                              refine KL.op (R.pick rfl rfl rfl) rfl rfl rfl ?_
                              refine KL.op (R.assign rfl rfl) rfl rfl rfl ?_
                              refine KL.nil ?_
                              refine KQ.seq ?_
                              refine KC.seq ?_
                              refine KC.region ?_
                              refine KL.op (R.move rfl rfl) rfl rfl rfl ?_
                              refine KL.op (R.move rfl rfl) rfl rfl rfl ?_
                              refine KL.call rfl rfl rfl rfl Tryd.call21 rfl rfl rfl (of_any _) ?_
                              rintro _ _ ⟨rfl, rfl⟩
                              refine KL.op (R.move rfl rfl) rfl rfl rfl ?_
                              refine KL.op (R.move rfl rfl) rfl rfl rfl ?_
                              refine KL.call rfl rfl rfl rfl Tryd.call21 rfl rfl rfl (of_any _) ?_
                              rintro _ _ ⟨rfl, rfl⟩
                              refine KL.opM (M.lit rfl Tryd.underlying27 zs5 (by decide) rfl rfl rfl) rfl rfl rfl ?_
                              rintro _ H22 ⟨rfl, n22⟩
                              have z22 := n22.2.1
                              have o0 := o0.trans n22.1
                              have b22 := n22.2.2
                              have sp : Sl 1 (EInt .u8) H22 (.slice (some ⟨Array.size H, 0, none⟩) 2 2) [Opc.ty (Opc.inR op 81 90 || decide (124 ≤ op)), Opc.ty (Opc.inR op 81 90 || decide (124 ≤ op))] := by
                                first
                                  | (simp only [hlong]; exact Sl.lits (l := [Opc.ty true, Opc.ty true]) n22 rfl (by simp) (by decide))
                                  | (simp only [hlong]; exact Sl.lits (l := [Opc.ty (decide (124 ≤ op)), Opc.ty (decide (124 ≤ op))]) n22 rfl (by simp) (by intro x hx; simp only [List.mem_cons, List.not_mem_nil, or_false] at hx; rcases hx with rfl | rfl <;> first | exact Opc.ty_range _ | decide))
                              refine KL.op (R.move rfl rfl) rfl rfl rfl ?_
                              refine KL.op (R.move rfl rfl) rfl rfl rfl ?_
                              refine KL.op (R.geq rfl rfl rfl) rfl rfl rfl ?_
                              refine KL.call rfl rfl rfl rfl Tryd.call21 rfl rfl rfl (of_any _) ?_
                              rintro _ _ ⟨rfl, rfl⟩
                              refine KL.opM (M.lit rfl Tryd.underlying27 zs5 (by decide) rfl rfl rfl) rfl rfl rfl ?_
                              rintro _ H23 ⟨rfl, n23⟩
                              have z23 := n23.2.1
                              have o0 := o0.trans n23.1
                              have sp := sp.old n23.1
                              have b23 := n23.2.2
                              have sr : Sl 1 (EInt .u8) H23 _ [Opc.ty (decide (124 ≤ op))] := Sl.lits (l := [Opc.ty (decide (124 ≤ op))]) n23 rfl (by simp) (by intro x hx; simp only [List.mem_cons, List.not_mem_nil, or_false] at hx; rcases hx with rfl; first | exact Opc.ty_range _ | decide)
                              refine KL.op (R.assign rfl rfl) rfl rfl rfl ?_
                              refine KL.op (R.assign rfl rfl) rfl rfl rfl ?_
                              refine KL.op (R.assign rfl rfl) rfl rfl rfl ?_
                              refine KL.nil ?_
                              refine KQ.seq ?_
                              refine KC.ret ?_
                              refine KQ.ofRet ?_
                              refine KQ.fin3 Tryd.results8 rfl rfl rfl ?_
                              exact ⟨o0, _, _, by rw [hs], by rw [hs]; first | exact sp | exact Sl.nil _ _ _, by rw [hs]; first | exact sr | exact Sl.nil _ _ _⟩

set_option maxRecDepth 100000 in
set_option maxHeartbeats 4000000 in
theorem Width_any {H : Heap} (op : Int) : Ct Tryd.prog 14 [.int .u8 op] H (fun u H' => u = .int .i64 (Opc.width op) ∧ H = H') := by
  refine Ct.mk Tryd.func14 rfl Tryd.ntmps14 rfl ?_
  intro W0 hW0
  have o0 : Old H H := Old.refl H
  refine KC.seq ?_
  refine KC.region ?_
  refine KL.op (R.assign rfl rfl) rfl rfl rfl ?_
  refine KL.nil ?_
  refine KQ.seq ?_
  refine KC.seq ?_
  refine KC.seq ?_
  refine KC.region ?_
  refine KL.op (R.move rfl rfl) rfl rfl rfl ?_
  refine KL.nil ?_
  refine KQ.seq ?_
  refine KC.block ?_
  refine KC.seq ?_
  refine KC.seq ?_
  refine KC.region ?_
  refine KL.op (R.eql rfl rfl rfl) rfl rfl rfl ?_
  refine KL.op (R.assign rfl rfl) rfl rfl rfl ?_
  refine KL.nil ?_
  refine KQ.seq ?_
  refine KC.iteL rfl ?_ ?_
  · intro hc4
    try simp only [decide_eq_true_eq, decide_eq_false_iff_not, Bool.not_eq_true', Bool.not_eq_false', Bool.and_eq_true, Bool.or_eq_false_iff] at hc4
    refine KC.skip ?_
    refine KQ.seq ?_
    refine KC.condT rfl ?_
    refine KC.seq ?_
    refine KC.region ?_
    refine KL.op (R.assign rfl rfl) rfl rfl rfl ?_
    refine KL.nil ?_
    refine KQ.seq ?_
    refine KC.ret ?_
    refine KQ.retBlock ?_
    refine KQ.retThen ?_
    refine KQ.ofRet ?_
    refine KQ.fin1 Tryd.results14 rfl ?_
    refine ⟨congrArg (Value.int .i64) ?_, rfl⟩
    unfold Opc.width
    repeat' split
    all_goals first | rfl | omega
  · intro hc4
    try simp only [decide_eq_true_eq, decide_eq_false_iff_not, Bool.not_eq_true', Bool.not_eq_false', Bool.and_eq_true, Bool.or_eq_false_iff] at hc4
    refine KC.seq ?_
    refine KC.region ?_
    refine KL.op (R.eql rfl rfl rfl) rfl rfl rfl ?_
    refine KL.op (R.assign rfl rfl) rfl rfl rfl ?_
    refine KL.nil ?_
    refine KQ.seq ?_
    refine KC.iteL rfl ?_ ?_
    · intro hc4
      try simp only [decide_eq_true_eq, decide_eq_false_iff_not, Bool.not_eq_true', Bool.not_eq_false', Bool.and_eq_true, Bool.or_eq_false_iff] at hc4
      refine KC.skip ?_
      refine KQ.seq ?_
      refine KC.condT rfl ?_
      refine KC.seq ?_
      refine KC.region ?_
      refine KL.op (R.assign rfl rfl) rfl rfl rfl ?_
      refine KL.nil ?_
      refine KQ.seq ?_
      refine KC.ret ?_
      refine KQ.retBlock ?_
      refine KQ.retThen ?_
      refine KQ.ofRet ?_
      refine KQ.fin1 Tryd.results14 rfl ?_
      refine ⟨congrArg (Value.int .i64) ?_, rfl⟩
      unfold Opc.width
      repeat' split
      all_goals first | rfl | omega
    · intro hc4
      try simp only [decide_eq_true_eq, decide_eq_false_iff_not, Bool.not_eq_true', Bool.not_eq_false', Bool.and_eq_true, Bool.or_eq_false_iff] at hc4
      refine KC.seq ?_
      refine KC.region ?_
      refine KL.op (R.eql rfl rfl rfl) rfl rfl rfl ?_
      refine KL.op (R.assign rfl rfl) rfl rfl rfl ?_
      refine KL.nil ?_
      refine KQ.seq ?_
      refine KC.iteL rfl ?_ ?_
      · intro hc4
        try simp only [decide_eq_true_eq, decide_eq_false_iff_not, Bool.not_eq_true', Bool.not_eq_false', Bool.and_eq_true, Bool.or_eq_false_iff] at hc4
        refine KC.skip ?_
        refine KQ.seq ?_
        refine KC.condT rfl ?_
        refine KC.seq ?_
        refine KC.region ?_
        refine KL.op (R.assign rfl rfl) rfl rfl rfl ?_
        refine KL.nil ?_
        refine KQ.seq ?_
        refine KC.ret ?_
        refine KQ.retBlock ?_
        refine KQ.retThen ?_
        refine KQ.ofRet ?_
        refine KQ.fin1 Tryd.results14 rfl ?_
        refine ⟨congrArg (Value.int .i64) ?_, rfl⟩
        unfold Opc.width
        repeat' split
        all_goals first | rfl | omega
      · intro hc4
        try simp only [decide_eq_true_eq, decide_eq_false_iff_not, Bool.not_eq_true', Bool.not_eq_false', Bool.and_eq_true, Bool.or_eq_false_iff] at hc4
        refine KC.seq ?_
        refine KC.region ?_
        refine KL.op (R.eql rfl rfl rfl) rfl rfl rfl ?_
        refine KL.op (R.assign rfl rfl) rfl rfl rfl ?_
        refine KL.nil ?_
        refine KQ.seq ?_
        refine KC.iteL rfl ?_ ?_
        · intro hc4
          try simp only [decide_eq_true_eq, decide_eq_false_iff_not, Bool.not_eq_true', Bool.not_eq_false', Bool.and_eq_true, Bool.or_eq_false_iff] at hc4
          refine KC.skip ?_
          refine KQ.seq ?_
          refine KC.condT rfl ?_
          refine KC.seq ?_
          refine KC.region ?_
          refine KL.op (R.assign rfl rfl) rfl rfl rfl ?_
          refine KL.nil ?_
          refine KQ.seq ?_
          refine KC.ret ?_
          refine KQ.retBlock ?_
          refine KQ.retThen ?_
          refine KQ.ofRet ?_
          refine KQ.fin1 Tryd.results14 rfl ?_
          refine ⟨congrArg (Value.int .i64) ?_, rfl⟩
          unfold Opc.width
          repeat' split
          all_goals first | rfl | omega
        · intro hc4
          try simp only [decide_eq_true_eq, decide_eq_false_iff_not, Bool.not_eq_true', Bool.not_eq_false', Bool.and_eq_true, Bool.or_eq_false_iff] at hc4
          refine KC.seq ?_
          refine KC.region ?_
          refine KL.op (R.eql rfl rfl rfl) rfl rfl rfl ?_
          refine KL.op (R.assign rfl rfl) rfl rfl rfl ?_
          refine KL.nil ?_
          refine KQ.seq ?_
          refine KC.iteL rfl ?_ ?_
          · intro hc4
            try simp only [decide_eq_true_eq, decide_eq_false_iff_not, Bool.not_eq_true', Bool.not_eq_false', Bool.and_eq_true, Bool.or_eq_false_iff] at hc4
            refine KC.skip ?_
            refine KQ.seq ?_
            refine KC.condT rfl ?_
            refine KC.seq ?_
            refine KC.region ?_
            refine KL.op (R.assign rfl rfl) rfl rfl rfl ?_
            refine KL.nil ?_
            refine KQ.seq ?_
            refine KC.ret ?_
            refine KQ.retBlock ?_
            refine KQ.retThen ?_
            refine KQ.ofRet ?_
            refine KQ.fin1 Tryd.results14 rfl ?_
            refine ⟨congrArg (Value.int .i64) ?_, rfl⟩
            unfold Opc.width
            repeat' split
            all_goals first | rfl | omega
          · intro hc4
            try simp only [decide_eq_true_eq, decide_eq_false_iff_not, Bool.not_eq_true', Bool.not_eq_false', Bool.and_eq_true, Bool.or_eq_false_iff] at hc4
            refine KC.region ?_
            refine KL.op (R.eql rfl rfl rfl) rfl rfl rfl ?_
            refine KL.op (R.assign rfl rfl) rfl rfl rfl ?_
            refine KL.nil ?_
            refine KQ.seq ?_
            refine KC.iteL rfl ?_ ?_
            · intro hc4
              try simp only [decide_eq_true_eq, decide_eq_false_iff_not, Bool.not_eq_true', Bool.not_eq_false', Bool.and_eq_true, Bool.or_eq_false_iff] at hc4
              refine KC.seq ?_
              refine KC.region ?_
              refine KL.op (R.assign rfl rfl) rfl rfl rfl ?_
              refine KL.nil ?_
              refine KQ.seq ?_
              refine KC.ret ?_
              refine KQ.retBlock ?_
              refine KQ.retThen ?_
              refine KQ.ofRet ?_
              refine KQ.fin1 Tryd.results14 rfl ?_
              refine ⟨congrArg (Value.int .i64) ?_, rfl⟩
              unfold Opc.width
              repeat' split
              all_goals first | rfl | omega
            · intro hc4
              try simp only [decide_eq_true_eq, decide_eq_false_iff_not, Bool.not_eq_true', Bool.not_eq_false', Bool.and_eq_true, Bool.or_eq_false_iff] at hc4
              refine KC.seq ?_
              refine KC.seq ?_
              refine KC.region ?_
              refine KL.op (R.eql rfl rfl rfl) rfl rfl rfl ?_
              refine KL.op (R.assign rfl rfl) rfl rfl rfl ?_
              refine KL.nil ?_
              refine KQ.seq ?_
              refine KC.iteL rfl ?_ ?_
              · intro hc11
                try simp only [decide_eq_true_eq, decide_eq_false_iff_not, Bool.not_eq_true', Bool.not_eq_false', Bool.and_eq_true, Bool.or_eq_false_iff] at hc11
                refine KC.skip ?_
                refine KQ.seq ?_
                refine KC.condT rfl ?_
                refine KC.seq ?_
                refine KC.region ?_
                refine KL.op (R.assign rfl rfl) rfl rfl rfl ?_
                refine KL.nil ?_
                refine KQ.seq ?_
                refine KC.ret ?_
                refine KQ.retBlock ?_
                refine KQ.retThen ?_
                refine KQ.ofRet ?_
                refine KQ.fin1 Tryd.results14 rfl ?_
                refine ⟨congrArg (Value.int .i64) ?_, rfl⟩
                unfold Opc.width
                repeat' split
                all_goals first | rfl | omega
              · intro hc11
                try simp only [decide_eq_true_eq, decide_eq_false_iff_not, Bool.not_eq_true', Bool.not_eq_false', Bool.and_eq_true, Bool.or_eq_false_iff] at hc11
                refine KC.seq ?_
                refine KC.region ?_
                refine KL.op (R.eql rfl rfl rfl) rfl rfl rfl ?_
                refine KL.op (R.assign rfl rfl) rfl rfl rfl ?_
                refine KL.nil ?_
                refine KQ.seq ?_
                refine KC.iteL rfl ?_ ?_
                · intro hc11
                  try simp only [decide_eq_true_eq, decide_eq_false_iff_not, Bool.not_eq_true', Bool.not_eq_false', Bool.and_eq_true, Bool.or_eq_false_iff] at hc11
                  refine KC.skip ?_
                  refine KQ.seq ?_
                  refine KC.condT rfl ?_
                  refine KC.seq ?_
                  refine KC.region ?_
                  refine KL.op (R.assign rfl rfl) rfl rfl rfl ?_
                  refine KL.nil ?_
                  refine KQ.seq ?_
                  refine KC.ret ?_
                  refine KQ.retBlock ?_
                  refine KQ.retThen ?_
                  refine KQ.ofRet ?_
                  refine KQ.fin1 Tryd.results14 rfl ?_
                  refine ⟨congrArg (Value.int .i64) ?_, rfl⟩
                  unfold Opc.width
                  repeat' split
                  all_goals first | rfl | omega
                · intro hc11
                  try simp only [decide_eq_true_eq, decide_eq_false_iff_not, Bool.not_eq_true', Bool.not_eq_false', Bool.and_eq_true, Bool.or_eq_false_iff] at hc11
                  refine KC.seq ?_
                  refine KC.region ?_
                  refine KL.op (R.eql rfl rfl rfl) rfl rfl rfl ?_
                  refine KL.op (R.assign rfl rfl) rfl rfl rfl ?_
                  refine KL.nil ?_
                  refine KQ.seq ?_
                  refine KC.iteL rfl ?_ ?_
                  · intro hc11
                    try simp only [decide_eq_true_eq, decide_eq_false_iff_not, Bool.not_eq_true', Bool.not_eq_false', Bool.and_eq_true, Bool.or_eq_false_iff] at hc11
                    refine KC.skip ?_
                    refine KQ.seq ?_
                    refine KC.condT rfl ?_
                    refine KC.seq ?_
                    refine KC.region ?_
                    refine KL.op (R.assign rfl rfl) rfl rfl rfl ?_
                    refine KL.nil ?_
                    refine KQ.seq ?_
                    refine KC.ret ?_
                    refine KQ.retBlock ?_
                    refine KQ.retThen ?_
                    refine KQ.ofRet ?_
                    refine KQ.fin1 Tryd.results14 rfl ?_
                    refine ⟨congrArg (Value.int .i64) ?_, rfl⟩
                    unfold Opc.width
                    repeat' split
                    all_goals first | rfl | omega
                  · intro hc11
                    try simp only [decide_eq_true_eq, decide_eq_false_iff_not, Bool.not_eq_true', Bool.not_eq_false', Bool.and_eq_true, Bool.or_eq_false_iff] at hc11
                    refine KC.seq ?_
                    refine KC.region ?_
                    refine KL.op (R.eql rfl rfl rfl) rfl rfl rfl ?_
                    refine KL.op (R.assign rfl rfl) rfl rfl rfl ?_
                    refine KL.nil ?_
                    refine KQ.seq ?_
                    refine KC.iteL rfl ?_ ?_
                    · intro hc11
                      try simp only [decide_eq_true_eq, decide_eq_false_iff_not, Bool.not_eq_true', Bool.not_eq_false', Bool.and_eq_true, Bool.or_eq_false_iff] at hc11
                      refine KC.skip ?_
                      refine KQ.seq ?_
                      refine KC.condT rfl ?_
                      refine KC.seq ?_
                      refine KC.region ?_
                      refine KL.op (R.assign rfl rfl) rfl rfl rfl ?_
                      refine KL.nil ?_
                      refine KQ.seq ?_
                      refine KC.ret ?_
                      refine KQ.retBlock ?_
                      refine KQ.retThen ?_
                      refine KQ.ofRet ?_
                      refine KQ.fin1 Tryd.results14 rfl ?_
                      refine ⟨congrArg (Value.int .i64) ?_, rfl⟩
                      unfold Opc.width
                      repeat' split
                      all_goals first | rfl | omega
                    · intro hc11
                      try simp only [decide_eq_true_eq, decide_eq_false_iff_not, Bool.not_eq_true', Bool.not_eq_false', Bool.and_eq_true, Bool.or_eq_false_iff] at hc11
                      refine KC.seq ?_
                      refine KC.region ?_
                      refine KL.op (R.eql rfl rfl rfl) rfl rfl rfl ?_
                      refine KL.op (R.assign rfl rfl) rfl rfl rfl ?_
                      refine KL.nil ?_
                      refine KQ.seq ?_
                      refine KC.iteL rfl ?_ ?_
                      · intro hc11
                        try simp only [decide_eq_true_eq, decide_eq_false_iff_not, Bool.not_eq_true', Bool.not_eq_false', Bool.and_eq_true, Bool.or_eq_false_iff] at hc11
                        refine KC.skip ?_
                        refine KQ.seq ?_
                        refine KC.condT rfl ?_
                        refine KC.seq ?_
                        refine KC.region ?_
                        refine KL.op (R.assign rfl rfl) rfl rfl rfl ?_
                        refine KL.nil ?_
                        refine KQ.seq ?_
                        refine KC.ret ?_
                        refine KQ.retBlock ?_
                        refine KQ.retThen ?_
                        refine KQ.ofRet ?_
                        refine KQ.fin1 Tryd.results14 rfl ?_
                        refine ⟨congrArg (Value.int .i64) ?_, rfl⟩
                        unfold Opc.width
                        repeat' split
                        all_goals first | rfl | omega
                      · intro hc11
                        try simp only [decide_eq_true_eq, decide_eq_false_iff_not, Bool.not_eq_true', Bool.not_eq_false', Bool.and_eq_true, Bool.or_eq_false_iff] at hc11
                        refine KC.region ?_
                        refine KL.op (R.eql rfl rfl rfl) rfl rfl rfl ?_
                        refine KL.op (R.assign rfl rfl) rfl rfl rfl ?_
                        refine KL.nil ?_
                        refine KQ.seq ?_
                        refine KC.iteL rfl ?_ ?_
                        · intro hc11
                          try simp only [decide_eq_true_eq, decide_eq_false_iff_not, Bool.not_eq_true', Bool.not_eq_false', Bool.and_eq_true, Bool.or_eq_false_iff] at hc11
                          refine KC.seq ?_
                          refine KC.region ?_
                          refine KL.op (R.assign rfl rfl) rfl rfl rfl ?_
                          refine KL.nil ?_
                          refine KQ.seq ?_
                          refine KC.ret ?_
                          refine KQ.retBlock ?_
                          refine KQ.retThen ?_
                          refine KQ.ofRet ?_
                          refine KQ.fin1 Tryd.results14 rfl ?_
                          refine ⟨congrArg (Value.int .i64) ?_, rfl⟩
                          unfold Opc.width
                          repeat' split
                          all_goals first | rfl | omega
                        · intro hc11
                          try simp only [decide_eq_true_eq, decide_eq_false_iff_not, Bool.not_eq_true', Bool.not_eq_false', Bool.and_eq_true, Bool.or_eq_false_iff] at hc11
                          refine KC.seq ?_
                          refine KC.seq ?_
                          refine KC.region ?_
                          refine KL.op (R.eql rfl rfl rfl) rfl rfl rfl ?_
                          refine KL.op (R.assign rfl rfl) rfl rfl rfl ?_
                          refine KL.nil ?_
                          refine KQ.seq ?_
                          refine KC.iteL rfl ?_ ?_
                          · intro hc18
                            try simp only [decide_eq_true_eq, decide_eq_false_iff_not, Bool.not_eq_true', Bool.not_eq_false', Bool.and_eq_true, Bool.or_eq_false_iff] at hc18
                            refine KC.skip ?_
                            refine KQ.seq ?_
                            refine KC.condT rfl ?_
                            refine KC.seq ?_
                            refine KC.region ?_
                            refine KL.op (R.assign rfl rfl) rfl rfl rfl ?_
                            refine KL.nil ?_
                            refine KQ.seq ?_
                            refine KC.ret ?_
                            refine KQ.retBlock ?_
                            refine KQ.retThen ?_
                            refine KQ.ofRet ?_
                            refine KQ.fin1 Tryd.results14 rfl ?_
                            refine ⟨congrArg (Value.int .i64) ?_, rfl⟩
                            unfold Opc.width
                            repeat' split
                            all_goals first | rfl | omega
                          · intro hc18
                            try simp only [decide_eq_true_eq, decide_eq_false_iff_not, Bool.not_eq_true', Bool.not_eq_false', Bool.and_eq_true, Bool.or_eq_false_iff] at hc18
                            refine KC.seq ?_
                            refine KC.region ?_
                            refine KL.op (R.eql rfl rfl rfl) rfl rfl rfl ?_
                            refine KL.op (R.assign rfl rfl) rfl rfl rfl ?_
                            refine KL.nil ?_
                            refine KQ.seq ?_
                            refine KC.iteL rfl ?_ ?_
                            · intro hc18
                              try simp only [decide_eq_true_eq, decide_eq_false_iff_not, Bool.not_eq_true', Bool.not_eq_false', Bool.and_eq_true, Bool.or_eq_false_iff] at hc18
                              refine KC.skip ?_
                              refine KQ.seq ?_
                              refine KC.condT rfl ?_
                              refine KC.seq ?_
                              refine KC.region ?_
                              refine KL.op (R.assign rfl rfl) rfl rfl rfl ?_
                              refine KL.nil ?_
                              refine KQ.seq ?_
                              refine KC.ret ?_
                              refine KQ.retBlock ?_
                              refine KQ.retThen ?_
                              refine KQ.ofRet ?_
                              refine KQ.fin1 Tryd.results14 rfl ?_
                              refine ⟨congrArg (Value.int .i64) ?_, rfl⟩
                              unfold Opc.width
                              repeat' split
                              all_goals first | rfl | omega
                            · intro hc18
                              try simp only [decide_eq_true_eq, decide_eq_false_iff_not, Bool.not_eq_true', Bool.not_eq_false', Bool.and_eq_true, Bool.or_eq_false_iff] at hc18
                              refine KC.seq ?_
                              refine KC.region ?_
                              refine KL.op (R.eql rfl rfl rfl) rfl rfl rfl ?_
                              refine KL.op (R.assign rfl rfl) rfl rfl rfl ?_
                              refine KL.nil ?_
                              refine KQ.seq ?_
                              refine KC.iteL rfl ?_ ?_
                              · intro hc18
                                try simp only [decide_eq_true_eq, decide_eq_false_iff_not, Bool.not_eq_true', Bool.not_eq_false', Bool.and_eq_true, Bool.or_eq_false_iff] at hc18
                                refine KC.skip ?_
                                refine KQ.seq ?_
                                refine KC.condT rfl ?_
                                refine KC.seq ?_
                                refine KC.region ?_
                                refine KL.op (R.assign rfl rfl) rfl rfl rfl ?_
                                refine KL.nil ?_
                                refine KQ.seq ?_
                                refine KC.ret ?_
                                refine KQ.retBlock ?_
                                refine KQ.retThen ?_
                                refine KQ.ofRet ?_
                                refine KQ.fin1 Tryd.results14 rfl ?_
                                refine ⟨congrArg (Value.int .i64) ?_, rfl⟩
                                unfold Opc.width
                                repeat' split
                                all_goals first | rfl | omega
                              · intro hc18
                                try simp only [decide_eq_true_eq, decide_eq_false_iff_not, Bool.not_eq_true', Bool.not_eq_false', Bool.and_eq_true, Bool.or_eq_false_iff] at hc18
                                refine KC.seq ?_
                                refine KC.region ?_
                                refine KL.op (R.eql rfl rfl rfl) rfl rfl rfl ?_
                                refine KL.op (R.assign rfl rfl) rfl rfl rfl ?_
                                refine KL.nil ?_
                                refine KQ.seq ?_
                                refine KC.iteL rfl ?_ ?_
                                · intro hc18
                                  try simp only [decide_eq_true_eq, decide_eq_false_iff_not, Bool.not_eq_true', Bool.not_eq_false', Bool.and_eq_true, Bool.or_eq_false_iff] at hc18
                                  refine KC.skip ?_
                                  refine KQ.seq ?_
                                  refine KC.condT rfl ?_
                                  refine KC.seq ?_
                                  refine KC.region ?_
                                  refine KL.op (R.assign rfl rfl) rfl rfl rfl ?_
                                  refine KL.nil ?_
                                  refine KQ.seq ?_
                                  refine KC.ret ?_
                                  refine KQ.retBlock ?_
                                  refine KQ.retThen ?_
                                  refine KQ.ofRet ?_
                                  refine KQ.fin1 Tryd.results14 rfl ?_
                                  refine ⟨congrArg (Value.int .i64) ?_, rfl⟩
                                  unfold Opc.width
                                  repeat' split
                                  all_goals first | rfl | omega
                                · intro hc18
                                  try simp only [decide_eq_true_eq, decide_eq_false_iff_not, Bool.not_eq_true', Bool.not_eq_false', Bool.and_eq_true, Bool.or_eq_false_iff] at hc18
                                  refine KC.region ?_
                                  refine KL.op (R.eql rfl rfl rfl) rfl rfl rfl ?_
                                  refine KL.op (R.assign rfl rfl) rfl rfl rfl ?_
                                  refine KL.nil ?_
                                  refine KQ.seq ?_
                                  refine KC.iteL rfl ?_ ?_
                                  · intro hc18
                                    try simp only [decide_eq_true_eq, decide_eq_false_iff_not, Bool.not_eq_true', Bool.not_eq_false', Bool.and_eq_true, Bool.or_eq_false_iff] at hc18
                                    refine KC.seq ?_
                                    refine KC.region ?_
                                    refine KL.op (R.assign rfl rfl) rfl rfl rfl ?_
                                    refine KL.nil ?_
                                    refine KQ.seq ?_
                                    refine KC.ret ?_
                                    refine KQ.retBlock ?_
                                    refine KQ.retThen ?_
                                    refine KQ.ofRet ?_
                                    refine KQ.fin1 Tryd.results14 rfl ?_
                                    refine ⟨congrArg (Value.int .i64) ?_, rfl⟩
                                    unfold Opc.width
                                    repeat' split
                                    all_goals first | rfl | omega
                                  · intro hc18
                                    try simp only [decide_eq_true_eq, decide_eq_false_iff_not, Bool.not_eq_true', Bool.not_eq_false', Bool.and_eq_true, Bool.or_eq_false_iff] at hc18
                                    refine KC.seq ?_
                                    refine KC.seq ?_
                                    refine KC.region ?_
                                    refine KL.op (R.eql rfl rfl rfl) rfl rfl rfl ?_
                                    refine KL.op (R.assign rfl rfl) rfl rfl rfl ?_
                                    refine KL.nil ?_
                                    refine KQ.seq ?_
                                    refine KC.iteL rfl ?_ ?_
                                    · intro hc24
                                      try simp only [decide_eq_true_eq, decide_eq_false_iff_not, Bool.not_eq_true', Bool.not_eq_false', Bool.and_eq_true, Bool.or_eq_false_iff] at hc24
                                      refine KC.skip ?_
                                      refine KQ.seq ?_
                                      refine KC.condT rfl ?_
                                      refine KC.seq ?_
                                      refine KC.region ?_
                                      refine KL.op (R.assign rfl rfl) rfl rfl rfl ?_
                                      refine KL.nil ?_
                                      refine KQ.seq ?_
                                      refine KC.ret ?_
                                      refine KQ.retBlock ?_
                                      refine KQ.retThen ?_
                                      refine KQ.ofRet ?_
                                      refine KQ.fin1 Tryd.results14 rfl ?_
                                      refine ⟨congrArg (Value.int .i64) ?_, rfl⟩
                                      unfold Opc.width
                                      repeat' split
                                      all_goals first | rfl | omega
                                    · intro hc24
                                      try simp only [decide_eq_true_eq, decide_eq_false_iff_not, Bool.not_eq_true', Bool.not_eq_false', Bool.and_eq_true, Bool.or_eq_false_iff] at hc24
                                      refine KC.region ?_
                                      refine KL.op (R.eql rfl rfl rfl) rfl rfl rfl ?_
                                      refine KL.op (R.assign rfl rfl) rfl rfl rfl ?_
                                      refine KL.nil ?_
                                      refine KQ.seq ?_
                                      refine KC.iteL rfl ?_ ?_
                                      · intro hc24
                                        try simp only [decide_eq_true_eq, decide_eq_false_iff_not, Bool.not_eq_true', Bool.not_eq_false', Bool.and_eq_true, Bool.or_eq_false_iff] at hc24
                                        refine KC.seq ?_
                                        refine KC.region ?_
                                        refine KL.op (R.assign rfl rfl) rfl rfl rfl ?_
                                        refine KL.nil ?_
                                        refine KQ.seq ?_
                                        refine KC.ret ?_
                                        refine KQ.retBlock ?_
                                        refine KQ.retThen ?_
                                        refine KQ.ofRet ?_
                                        refine KQ.fin1 Tryd.results14 rfl ?_
                                        refine ⟨congrArg (Value.int .i64) ?_, rfl⟩
                                        unfold Opc.width
                                        repeat' split
                                        all_goals first | rfl | omega
                                      · intro hc24
                                        try simp only [decide_eq_true_eq, decide_eq_false_iff_not, Bool.not_eq_true', Bool.not_eq_false', Bool.and_eq_true, Bool.or_eq_false_iff] at hc24
                                        refine KC.skip ?_
                                        refine KQ.normBlock ?_
                                        refine KQ.seq ?_
                                        refine KC.seq ?_
                                        refine KC.region ?_
                                        refine KL.op (R.assign rfl rfl) rfl rfl rfl ?_
                                        refine KL.nil ?_
                                        refine KQ.seq ?_
                                        refine KC.ret ?_
                                        refine KQ.ofRet ?_
                                        refine KQ.fin1 Tryd.results14 rfl ?_
                                        refine ⟨congrArg (Value.int .i64) ?_, rfl⟩
                                        unfold Opc.width
                                        repeat' split
                                        all_goals first | rfl | omega

end Go.Proofs.YthgdaacbhcondaaDoor
