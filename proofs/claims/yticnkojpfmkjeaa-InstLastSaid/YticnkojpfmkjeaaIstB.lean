/- The value of an expression; whether things lie in others; what is asked. No condition but those that each states. -/
import Derived.Test.YticnkojpfmkjeaaIstP
namespace Go.Proofs.Yticnkojpfmkjeaa
open Go Go.RowKit
set_option linter.unusedVariables false
set_option linter.unusedSimpArgs false
set_option linter.unnecessarySimpa false

/-- what is thrown -/
def amissV : Value := .iface 67 (.agg #[])
theorem iv_cons (x : Ins) (r : List Ins) : iv (x :: r) = if x.op = 65 then x.c % 4294967296 else if x.op = 66 then x.c % 18446744073709551616 else 0 := rfl
theorem iv65 (c : Int) : IntKind.u64.wrap (IntKind.u32.wrap c) = c % 4294967296 := by
  rw [IntKind.wrap_u64, show IntKind.u32.wrap c = c % 4294967296 from by simp [IntKind.wrap, IntKind.bits, IntKind.signed]]; omega
theorem iv65r (c : Int) : IntKind.u64.wrap c % 4294967296 = c % 4294967296 := by rw [IntKind.wrap_u64]; omega
theorem iv66 (c : Int) : IntKind.u64.wrap c = c % 18446744073709551616 := IntKind.wrap_u64 c


set_option maxRecDepth 100000 in
set_option maxHeartbeats 4000000 in
theorem value_any {H : Heap} (v : Value) (l : List Ins) (hs : Sl 5 EIns H v l) : Ct Try.prog 27 [v] H (fun u H' => u = .int .u64 (iv l) ∧ H = H') := by
  refine Ct.mk Try.func27 rfl Try.ntmps27 rfl ?_
  intro W0 hW0
  have o0 : Old H H := Old.refl H
  have hl := hs.len
  refine KC.seq ?_
  refine KC.region ?_
  refine KL.op (R.assign rfl rfl) rfl rfl rfl ?_
  refine KL.nil ?_
  refine KQ.seq ?_
  refine KC.seq ?_
  refine KC.block ?_
  refine KC.seq ?_
  refine KC.region ?_
  refine KL.op (R.move rfl rfl) rfl rfl rfl ?_
  refine KL.op (R.lenS rfl Try.underlying43 rfl hs) rfl rfl rfl ?_
  refine KL.op (R.eql rfl rfl rfl) rfl rfl rfl ?_
  refine KL.op (R.assign rfl rfl) rfl rfl rfl ?_
  refine KL.nil ?_
  refine KQ.seq ?_
  refine KC.iteL rfl ?_ ?_
  · intro hc3
    try simp only [decide_eq_true_eq, decide_eq_false_iff_not, Bool.not_eq_true', Bool.not_eq_false', Bool.and_eq_true, Bool.or_eq_false_iff] at hc3
    refine KC.seq ?_
    refine KC.region ?_
    refine KL.op (R.assign rfl rfl) rfl rfl rfl ?_
    refine KL.nil ?_
    refine KQ.seq ?_
    refine KC.ret ?_
    refine KQ.retBlock ?_
    refine KQ.retThen ?_
    refine KQ.ofRet ?_
    refine KQ.fin1 Try.results27 rfl ?_
    refine ⟨congrArg (Value.int .u64) ?_, rfl⟩
    first
      | (have : l = [] := List.eq_nil_of_length_eq_zero (by omega)
         subst this; rfl)
      | (cases l with
         | nil => exact absurd hl0 (by simp)
         | cons x r =>
           simp only [List.getD_cons_zero] at *
           rw [iv_cons]
           first
             | (rw [if_pos (by omega)]; first | exact iv65 _ | exact iv65r _)
             | (rw [if_neg (by omega), if_pos (by omega)]; exact iv66 _)
             | rw [if_neg (by omega), if_neg (by omega)])
  · intro hc3
    try simp only [decide_eq_true_eq, decide_eq_false_iff_not, Bool.not_eq_true', Bool.not_eq_false', Bool.and_eq_true, Bool.or_eq_false_iff] at hc3
    have hl0 : 0 < l.length := by omega
    obtain ⟨vx, hx, _, rx1, rx2, rx3, rx4⟩ := hs.insAt 0 (by omega)
    refine KC.seq ?_
    refine KC.region ?_
    refine KL.op (R.move rfl rfl) rfl rfl rfl ?_
    refine KL.op (R.index (j := 0) rfl Try.underlying43 sz70 rfl rfl hs rfl (by omega)) rfl rfl rfl ?_
    refine KL.op ((by first | exact R.fieldAddr rfl Try.underlying70 rfl rfl sz5 rfl | exact R.fieldAddrP rfl Try.underlying70 rfl rfl sz5 rfl)) rfl rfl rfl ?_
    refine KL.op (R.load rfl Try.underlying5 rfl rfl (hx 0 _ rfl)) rfl rfl rfl ?_
    refine KL.op (R.eql rfl rfl rfl) rfl rfl rfl ?_
    refine KL.op (R.assign rfl rfl) rfl rfl rfl ?_
    refine KL.nil ?_
    refine KQ.seq ?_
    refine KC.iteL rfl ?_ ?_
    · intro hc7
      try simp only [decide_eq_true_eq, decide_eq_false_iff_not, Bool.not_eq_true', Bool.not_eq_false', Bool.and_eq_true, Bool.or_eq_false_iff] at hc7
      refine KC.seq ?_
      refine KC.region ?_
      refine KL.op (R.move rfl rfl) rfl rfl rfl ?_
      refine KL.op (R.index (j := 0) rfl Try.underlying43 sz70 rfl rfl hs rfl (by omega)) rfl rfl rfl ?_
      refine KL.op ((by first | exact R.fieldAddr rfl Try.underlying70 rfl rfl sz2 rfl | exact R.fieldAddrP rfl Try.underlying70 rfl rfl sz2 rfl)) rfl rfl rfl ?_
      refine KL.op (R.load rfl Try.underlying2 rfl rfl (hx 3 _ rfl)) rfl rfl rfl ?_
      refine KL.op (R.convW rfl Try.underlying2 Try.underlying28 rfl) rfl rfl rfl ?_
      refine KL.op (R.convW rfl Try.underlying28 Try.underlying39 rfl) rfl rfl rfl ?_
      refine KL.op (R.assign rfl rfl) rfl rfl rfl ?_
      refine KL.nil ?_
      refine KQ.seq ?_
      refine KC.ret ?_
      refine KQ.retBlock ?_
      refine KQ.retThen ?_
      refine KQ.ofRet ?_
      refine KQ.fin1 Try.results27 rfl ?_
      refine ⟨congrArg (Value.int .u64) ?_, rfl⟩
      first
        | (have : l = [] := List.eq_nil_of_length_eq_zero (by omega)
           subst this; rfl)
        | (cases l with
           | nil => exact absurd hl0 (by simp)
           | cons x r =>
             simp only [List.getD_cons_zero] at *
             rw [iv_cons]
             first
               | (rw [if_pos (by omega)]; first | exact iv65 _ | exact iv65r _)
               | (rw [if_neg (by omega), if_pos (by omega)]; exact iv66 _)
               | rw [if_neg (by omega), if_neg (by omega)])
    · intro hc7
      try simp only [decide_eq_true_eq, decide_eq_false_iff_not, Bool.not_eq_true', Bool.not_eq_false', Bool.and_eq_true, Bool.or_eq_false_iff] at hc7
      refine KC.seq ?_
      refine KC.region ?_
      refine KL.op (R.move rfl rfl) rfl rfl rfl ?_
      refine KL.op (R.index (j := 0) rfl Try.underlying43 sz70 rfl rfl hs rfl (by omega)) rfl rfl rfl ?_
      refine KL.op ((by first | exact R.fieldAddr rfl Try.underlying70 rfl rfl sz5 rfl | exact R.fieldAddrP rfl Try.underlying70 rfl rfl sz5 rfl)) rfl rfl rfl ?_
      refine KL.op (R.load rfl Try.underlying5 rfl rfl (hx 0 _ rfl)) rfl rfl rfl ?_
      refine KL.op (R.eql rfl rfl rfl) rfl rfl rfl ?_
      refine KL.op (R.assign rfl rfl) rfl rfl rfl ?_
      refine KL.nil ?_
      refine KQ.seq ?_
      refine KC.iteL rfl ?_ ?_
      · intro hc19
        try simp only [decide_eq_true_eq, decide_eq_false_iff_not, Bool.not_eq_true', Bool.not_eq_false', Bool.and_eq_true, Bool.or_eq_false_iff] at hc19
        refine KC.seq ?_
        refine KC.region ?_
        refine KL.op (R.move rfl rfl) rfl rfl rfl ?_
        refine KL.op (R.index (j := 0) rfl Try.underlying43 sz70 rfl rfl hs rfl (by omega)) rfl rfl rfl ?_
        refine KL.op ((by first | exact R.fieldAddr rfl Try.underlying70 rfl rfl sz2 rfl | exact R.fieldAddrP rfl Try.underlying70 rfl rfl sz2 rfl)) rfl rfl rfl ?_
        refine KL.op (R.load rfl Try.underlying2 rfl rfl (hx 3 _ rfl)) rfl rfl rfl ?_
        refine KL.op (R.convW rfl Try.underlying2 Try.underlying39 rfl) rfl rfl rfl ?_
        refine KL.op (R.assign rfl rfl) rfl rfl rfl ?_
        refine KL.nil ?_
        refine KQ.seq ?_
        refine KC.ret ?_
        refine KQ.retBlock ?_
        refine KQ.retThen ?_
        refine KQ.ofRet ?_
        refine KQ.fin1 Try.results27 rfl ?_
        refine ⟨congrArg (Value.int .u64) ?_, rfl⟩
        first
          | (have : l = [] := List.eq_nil_of_length_eq_zero (by omega)
             subst this; rfl)
          | (cases l with
             | nil => exact absurd hl0 (by simp)
             | cons x r =>
               simp only [List.getD_cons_zero] at *
               rw [iv_cons]
               first
                 | (rw [if_pos (by omega)]; first | exact iv65 _ | exact iv65r _)
                 | (rw [if_neg (by omega), if_pos (by omega)]; exact iv66 _)
                 | rw [if_neg (by omega), if_neg (by omega)])
      · intro hc19
        try simp only [decide_eq_true_eq, decide_eq_false_iff_not, Bool.not_eq_true', Bool.not_eq_false', Bool.and_eq_true, Bool.or_eq_false_iff] at hc19
        refine KC.skip ?_
        refine KQ.normBlock ?_
        refine KQ.seq ?_
        refine KC.seq ?_
        refine KC.region ?_
        refine KL.op (R.assign rfl rfl) rfl rfl rfl ?_
        refine KL.nil ?_
        refine KQ.seq ?_
        refine KC.ret ?_
        refine KQ.ofRet ?_
        refine KQ.fin1 Try.results27 rfl ?_
        refine ⟨congrArg (Value.int .u64) ?_, rfl⟩
        first
          | (have : l = [] := List.eq_nil_of_length_eq_zero (by omega)
             subst this; rfl)
          | (cases l with
             | nil => exact absurd hl0 (by simp)
             | cons x r =>
               simp only [List.getD_cons_zero] at *
               rw [iv_cons]
               first
                 | (rw [if_pos (by omega)]; first | exact iv65 _ | exact iv65r _)
                 | (rw [if_neg (by omega), if_pos (by omega)]; exact iv66 _)
                 | rw [if_neg (by omega), if_neg (by omega)])

set_option maxRecDepth 100000 in
set_option maxHeartbeats 4000000 in
theorem Value_any {H : Heap} (v : Value) (l : List Ins) (hs : Sl 5 EIns H v l) : Ct Try.prog 8 [v] H (fun u H' => u = .int .u64 (iv l) ∧ H = H') := by
  refine Ct.mk Try.func8 rfl Try.ntmps8 rfl ?_
  intro W0 hW0
  have o0 : Old H H := Old.refl H
  have hl := hs.len
  refine KC.seq ?_
  refine KC.region ?_
  refine KL.op (R.assign rfl rfl) rfl rfl rfl ?_
  refine KL.nil ?_
  refine KQ.seq ?_
  refine KC.seq ?_
  refine KC.seq ?_
  refine KC.region ?_
  refine KL.op (R.move rfl rfl) rfl rfl rfl ?_
  refine KL.op (R.lenS rfl Try.underlying43 rfl hs) rfl rfl rfl ?_
  refine KL.op (R.gtr rfl rfl rfl) rfl rfl rfl ?_
  refine KL.op (R.move rfl rfl) rfl rfl rfl ?_
  refine KL.case (d := 6) rfl ?_ ?_
  · intro hg6
    try simp only [decide_eq_true_eq, decide_eq_false_iff_not, Bool.not_eq_true', Bool.not_eq_false', Bool.and_eq_true, Bool.or_eq_false_iff] at hg6
    have hl0 : 0 < l.length := by omega
    obtain ⟨vx, hx, _, rx1, rx2, rx3, rx4⟩ := hs.insAt 0 (by omega)
    refine KL.op (R.move rfl rfl) rfl rfl rfl ?_
    refine KL.op (R.index (j := 0) rfl Try.underlying43 sz70 rfl rfl hs rfl (by omega)) rfl rfl rfl ?_
    refine KL.op ((by first | exact R.fieldAddr rfl Try.underlying70 rfl rfl sz5 rfl | exact R.fieldAddrP rfl Try.underlying70 rfl rfl sz5 rfl)) rfl rfl rfl ?_
    refine KL.op (R.load rfl Try.underlying5 rfl rfl (hx 0 _ rfl)) rfl rfl rfl ?_
    refine KL.op (R.eql rfl rfl rfl) rfl rfl rfl ?_
    refine KL.op (R.pick rfl rfl rfl) rfl rfl rfl ?_
    refine KL.nil ?_
    refine KQ.seq ?_
    refine KC.iteL rfl ?_ ?_
    · intro hc12
      try simp only [decide_eq_true_eq, decide_eq_false_iff_not, Bool.not_eq_true', Bool.not_eq_false', Bool.and_eq_true, Bool.or_eq_false_iff] at hc12
      refine KC.seq ?_
      refine KC.region ?_
      refine KL.op (R.move rfl rfl) rfl rfl rfl ?_
      refine KL.op (R.index (j := 0) rfl Try.underlying43 sz70 rfl rfl hs rfl (by omega)) rfl rfl rfl ?_
      refine KL.op ((by first | exact R.fieldAddr rfl Try.underlying70 rfl rfl sz2 rfl | exact R.fieldAddrP rfl Try.underlying70 rfl rfl sz2 rfl)) rfl rfl rfl ?_
      refine KL.op (R.load rfl Try.underlying2 rfl rfl (hx 3 _ rfl)) rfl rfl rfl ?_
      refine KL.op (R.convW rfl Try.underlying2 Try.underlying39 rfl) rfl rfl rfl ?_
      refine KL.op (R.rem rfl rfl rfl (by rw [IntKind.wrap_u64]; omega) (by decide)) rfl rfl rfl ?_
      refine KL.op (R.assign rfl rfl) rfl rfl rfl ?_
      refine KL.nil ?_
      refine KQ.seq ?_
      refine KC.ret ?_
      refine KQ.retThen ?_
      refine KQ.ofRet ?_
      refine KQ.fin1 Try.results8 rfl ?_
      refine ⟨congrArg (Value.int .u64) ?_, rfl⟩
      first
        | (have : l = [] := List.eq_nil_of_length_eq_zero (by omega)
           subst this; rfl)
        | (cases l with
           | nil => exact absurd hl0 (by simp)
           | cons x r =>
             simp only [List.getD_cons_zero] at *
             rw [iv_cons]
             first
               | (rw [if_pos (by omega)]; first | exact iv65 _ | exact iv65r _)
               | (rw [if_neg (by omega), if_pos (by omega)]; exact iv66 _)
               | rw [if_neg (by omega), if_neg (by omega)])
    · intro hc12
      try simp only [decide_eq_true_eq, decide_eq_false_iff_not, Bool.not_eq_true', Bool.not_eq_false', Bool.and_eq_true, Bool.or_eq_false_iff] at hc12
      refine KC.skip ?_
      refine KQ.seq ?_
      refine KC.seq ?_
      refine KC.seq ?_
      refine KC.region ?_
      refine KL.op (R.move rfl rfl) rfl rfl rfl ?_
      refine KL.op (R.lenS rfl Try.underlying43 rfl hs) rfl rfl rfl ?_
      refine KL.op (R.gtr rfl rfl rfl) rfl rfl rfl ?_
      refine KL.op (R.move rfl rfl) rfl rfl rfl ?_
      refine KL.case (d := 22) rfl ?_ ?_
      · intro hg22
        try simp only [decide_eq_true_eq, decide_eq_false_iff_not, Bool.not_eq_true', Bool.not_eq_false', Bool.and_eq_true, Bool.or_eq_false_iff] at hg22
        have hl0 : 0 < l.length := by omega
        obtain ⟨vx, hx, _, rx1, rx2, rx3, rx4⟩ := hs.insAt 0 (by omega)
        refine KL.op (R.move rfl rfl) rfl rfl rfl ?_
        refine KL.op (R.index (j := 0) rfl Try.underlying43 sz70 rfl rfl hs rfl (by omega)) rfl rfl rfl ?_
        refine KL.op ((by first | exact R.fieldAddr rfl Try.underlying70 rfl rfl sz5 rfl | exact R.fieldAddrP rfl Try.underlying70 rfl rfl sz5 rfl)) rfl rfl rfl ?_
        refine KL.op (R.load rfl Try.underlying5 rfl rfl (hx 0 _ rfl)) rfl rfl rfl ?_
        refine KL.op (R.eql rfl rfl rfl) rfl rfl rfl ?_
        refine KL.op (R.pick rfl rfl rfl) rfl rfl rfl ?_
        refine KL.nil ?_
        refine KQ.seq ?_
        refine KC.iteL rfl ?_ ?_
        · intro hc28
          try simp only [decide_eq_true_eq, decide_eq_false_iff_not, Bool.not_eq_true', Bool.not_eq_false', Bool.and_eq_true, Bool.or_eq_false_iff] at hc28
          refine KC.seq ?_
          refine KC.region ?_
          refine KL.op (R.move rfl rfl) rfl rfl rfl ?_
          refine KL.op (R.index (j := 0) rfl Try.underlying43 sz70 rfl rfl hs rfl (by omega)) rfl rfl rfl ?_
          refine KL.op ((by first | exact R.fieldAddr rfl Try.underlying70 rfl rfl sz2 rfl | exact R.fieldAddrP rfl Try.underlying70 rfl rfl sz2 rfl)) rfl rfl rfl ?_
          refine KL.op (R.load rfl Try.underlying2 rfl rfl (hx 3 _ rfl)) rfl rfl rfl ?_
          refine KL.op (R.convW rfl Try.underlying2 Try.underlying39 rfl) rfl rfl rfl ?_
          refine KL.op (R.assign rfl rfl) rfl rfl rfl ?_
          refine KL.nil ?_
          refine KQ.seq ?_
          refine KC.ret ?_
          refine KQ.retThen ?_
          refine KQ.ofRet ?_
          refine KQ.fin1 Try.results8 rfl ?_
          refine ⟨congrArg (Value.int .u64) ?_, rfl⟩
          first
            | (have : l = [] := List.eq_nil_of_length_eq_zero (by omega)
               subst this; rfl)
            | (cases l with
               | nil => exact absurd hl0 (by simp)
               | cons x r =>
                 simp only [List.getD_cons_zero] at *
                 rw [iv_cons]
                 first
                   | (rw [if_pos (by omega)]; first | exact iv65 _ | exact iv65r _)
                   | (rw [if_neg (by omega), if_pos (by omega)]; exact iv66 _)
                   | rw [if_neg (by omega), if_neg (by omega)])
        · intro hc28
          try simp only [decide_eq_true_eq, decide_eq_false_iff_not, Bool.not_eq_true', Bool.not_eq_false', Bool.and_eq_true, Bool.or_eq_false_iff] at hc28
          refine KC.skip ?_
          refine KQ.seq ?_
          refine KC.seq ?_
          refine KC.region ?_
          refine KL.op (R.assign rfl rfl) rfl rfl rfl ?_
          refine KL.nil ?_
          refine KQ.seq ?_
          refine KC.ret ?_
          refine KQ.ofRet ?_
          refine KQ.fin1 Try.results8 rfl ?_
          refine ⟨congrArg (Value.int .u64) ?_, rfl⟩
          first
            | (have : l = [] := List.eq_nil_of_length_eq_zero (by omega)
               subst this; rfl)
            | (cases l with
               | nil => exact absurd hl0 (by simp)
               | cons x r =>
                 simp only [List.getD_cons_zero] at *
                 rw [iv_cons]
                 first
                   | (rw [if_pos (by omega)]; first | exact iv65 _ | exact iv65r _)
                   | (rw [if_neg (by omega), if_pos (by omega)]; exact iv66 _)
                   | rw [if_neg (by omega), if_neg (by omega)])
      · intro hg22
        try simp only [decide_eq_true_eq, decide_eq_false_iff_not, Bool.not_eq_true', Bool.not_eq_false', Bool.and_eq_true, Bool.or_eq_false_iff] at hg22
        refine KL.skip rfl rfl rfl ?_
        refine KL.skip rfl rfl rfl ?_
        refine KL.skip rfl rfl rfl ?_
        refine KL.skip rfl rfl rfl ?_
        refine KL.skip rfl rfl rfl ?_
        refine KL.op (R.pick rfl rfl rfl) rfl rfl rfl ?_
        refine KL.nil ?_
        refine KQ.seq ?_
        refine KC.condF rfl ?_
        refine KC.skip ?_
        refine KQ.seq ?_
        refine KC.seq ?_
        refine KC.region ?_
        refine KL.op (R.assign rfl rfl) rfl rfl rfl ?_
        refine KL.nil ?_
        refine KQ.seq ?_
        refine KC.ret ?_
        refine KQ.ofRet ?_
        refine KQ.fin1 Try.results8 rfl ?_
        refine ⟨congrArg (Value.int .u64) ?_, rfl⟩
        first
          | (have : l = [] := List.eq_nil_of_length_eq_zero (by omega)
             subst this; rfl)
          | (cases l with
             | nil => exact absurd hl0 (by simp)
             | cons x r =>
               simp only [List.getD_cons_zero] at *
               rw [iv_cons]
               first
                 | (rw [if_pos (by omega)]; first | exact iv65 _ | exact iv65r _)
                 | (rw [if_neg (by omega), if_pos (by omega)]; exact iv66 _)
                 | rw [if_neg (by omega), if_neg (by omega)])
  · intro hg6
    try simp only [decide_eq_true_eq, decide_eq_false_iff_not, Bool.not_eq_true', Bool.not_eq_false', Bool.and_eq_true, Bool.or_eq_false_iff] at hg6
    refine KL.skip rfl rfl rfl ?_
    refine KL.skip rfl rfl rfl ?_
    refine KL.skip rfl rfl rfl ?_
    refine KL.skip rfl rfl rfl ?_
    refine KL.skip rfl rfl rfl ?_
    refine KL.op (R.pick rfl rfl rfl) rfl rfl rfl ?_
    refine KL.nil ?_
    refine KQ.seq ?_
    refine KC.condF rfl ?_
    refine KC.skip ?_
    refine KQ.seq ?_
    refine KC.seq ?_
    refine KC.seq ?_
    refine KC.region ?_
    refine KL.op (R.move rfl rfl) rfl rfl rfl ?_
    refine KL.op (R.lenS rfl Try.underlying43 rfl hs) rfl rfl rfl ?_
    refine KL.op (R.gtr rfl rfl rfl) rfl rfl rfl ?_
    refine KL.op (R.move rfl rfl) rfl rfl rfl ?_
    refine KL.case (d := 22) rfl ?_ ?_
    · intro hg22
      try simp only [decide_eq_true_eq, decide_eq_false_iff_not, Bool.not_eq_true', Bool.not_eq_false', Bool.and_eq_true, Bool.or_eq_false_iff] at hg22
      have hl0 : 0 < l.length := by omega
      obtain ⟨vx, hx, _, rx1, rx2, rx3, rx4⟩ := hs.insAt 0 (by omega)
      refine KL.op (R.move rfl rfl) rfl rfl rfl ?_
      refine KL.op (R.index (j := 0) rfl Try.underlying43 sz70 rfl rfl hs rfl (by omega)) rfl rfl rfl ?_
      refine KL.op ((by first | exact R.fieldAddr rfl Try.underlying70 rfl rfl sz5 rfl | exact R.fieldAddrP rfl Try.underlying70 rfl rfl sz5 rfl)) rfl rfl rfl ?_
      refine KL.op (R.load rfl Try.underlying5 rfl rfl (hx 0 _ rfl)) rfl rfl rfl ?_
      refine KL.op (R.eql rfl rfl rfl) rfl rfl rfl ?_
      refine KL.op (R.pick rfl rfl rfl) rfl rfl rfl ?_
      refine KL.nil ?_
      refine KQ.seq ?_
      refine KC.iteL rfl ?_ ?_
      · intro hc28
        try simp only [decide_eq_true_eq, decide_eq_false_iff_not, Bool.not_eq_true', Bool.not_eq_false', Bool.and_eq_true, Bool.or_eq_false_iff] at hc28
        refine KC.seq ?_
        refine KC.region ?_
        refine KL.op (R.move rfl rfl) rfl rfl rfl ?_
        refine KL.op (R.index (j := 0) rfl Try.underlying43 sz70 rfl rfl hs rfl (by omega)) rfl rfl rfl ?_
        refine KL.op ((by first | exact R.fieldAddr rfl Try.underlying70 rfl rfl sz2 rfl | exact R.fieldAddrP rfl Try.underlying70 rfl rfl sz2 rfl)) rfl rfl rfl ?_
        refine KL.op (R.load rfl Try.underlying2 rfl rfl (hx 3 _ rfl)) rfl rfl rfl ?_
        refine KL.op (R.convW rfl Try.underlying2 Try.underlying39 rfl) rfl rfl rfl ?_
        refine KL.op (R.assign rfl rfl) rfl rfl rfl ?_
        refine KL.nil ?_
        refine KQ.seq ?_
        refine KC.ret ?_
        refine KQ.retThen ?_
        refine KQ.ofRet ?_
        refine KQ.fin1 Try.results8 rfl ?_
        refine ⟨congrArg (Value.int .u64) ?_, rfl⟩
        first
          | (have : l = [] := List.eq_nil_of_length_eq_zero (by omega)
             subst this; rfl)
          | (cases l with
             | nil => exact absurd hl0 (by simp)
             | cons x r =>
               simp only [List.getD_cons_zero] at *
               rw [iv_cons]
               first
                 | (rw [if_pos (by omega)]; first | exact iv65 _ | exact iv65r _)
                 | (rw [if_neg (by omega), if_pos (by omega)]; exact iv66 _)
                 | rw [if_neg (by omega), if_neg (by omega)])
      · intro hc28
        try simp only [decide_eq_true_eq, decide_eq_false_iff_not, Bool.not_eq_true', Bool.not_eq_false', Bool.and_eq_true, Bool.or_eq_false_iff] at hc28
        refine KC.skip ?_
        refine KQ.seq ?_
        refine KC.seq ?_
        refine KC.region ?_
        refine KL.op (R.assign rfl rfl) rfl rfl rfl ?_
        refine KL.nil ?_
        refine KQ.seq ?_
        refine KC.ret ?_
        refine KQ.ofRet ?_
        refine KQ.fin1 Try.results8 rfl ?_
        refine ⟨congrArg (Value.int .u64) ?_, rfl⟩
        first
          | (have : l = [] := List.eq_nil_of_length_eq_zero (by omega)
             subst this; rfl)
          | (cases l with
             | nil => exact absurd hl0 (by simp)
             | cons x r =>
               simp only [List.getD_cons_zero] at *
               rw [iv_cons]
               first
                 | (rw [if_pos (by omega)]; first | exact iv65 _ | exact iv65r _)
                 | (rw [if_neg (by omega), if_pos (by omega)]; exact iv66 _)
                 | rw [if_neg (by omega), if_neg (by omega)])
    · intro hg22
      try simp only [decide_eq_true_eq, decide_eq_false_iff_not, Bool.not_eq_true', Bool.not_eq_false', Bool.and_eq_true, Bool.or_eq_false_iff] at hg22
      refine KL.skip rfl rfl rfl ?_
      refine KL.skip rfl rfl rfl ?_
      refine KL.skip rfl rfl rfl ?_
      refine KL.skip rfl rfl rfl ?_
      refine KL.skip rfl rfl rfl ?_
      refine KL.op (R.pick rfl rfl rfl) rfl rfl rfl ?_
      refine KL.nil ?_
      refine KQ.seq ?_
      refine KC.condF rfl ?_
      refine KC.skip ?_
      refine KQ.seq ?_
      refine KC.seq ?_
      refine KC.region ?_
      refine KL.op (R.assign rfl rfl) rfl rfl rfl ?_
      refine KL.nil ?_
      refine KQ.seq ?_
      refine KC.ret ?_
      refine KQ.ofRet ?_
      refine KQ.fin1 Try.results8 rfl ?_
      refine ⟨congrArg (Value.int .u64) ?_, rfl⟩
      first
        | (have : l = [] := List.eq_nil_of_length_eq_zero (by omega)
           subst this; rfl)
        | (cases l with
           | nil => exact absurd hl0 (by simp)
           | cons x r =>
             simp only [List.getD_cons_zero] at *
             rw [iv_cons]
             first
               | (rw [if_pos (by omega)]; first | exact iv65 _ | exact iv65r _)
               | (rw [if_neg (by omega), if_pos (by omega)]; exact iv66 _)
               | rw [if_neg (by omega), if_neg (by omega)])

set_option maxRecDepth 100000 in
set_option maxHeartbeats 4000000 in
theorem fits_any {H : Heap} (a n all : Int) (ra : InR .u64 a) (rn : InR .u64 n) (rl : InR .u64 all) : Ct Try.prog 28 [.int .u64 a, .int .u64 n, .int .u64 all] H (fun u H' => u = .bool (decide (a + n ≤ all)) ∧ H = H') := by
  refine Ct.mk Try.func28 rfl Try.ntmps28 rfl ?_
  intro W0 hW0
  have o0 : Old H H := Old.refl H
  dsimp only [InR] at ra rn rl
  refine KC.seq ?_
  refine KC.region ?_
  refine KL.op (R.assign rfl rfl) rfl rfl rfl ?_
  refine KL.nil ?_
  refine KQ.seq ?_
  refine KC.seq ?_
  refine KC.region ?_
  refine KL.op (R.move rfl rfl) rfl rfl rfl ?_
  refine KL.op (R.move rfl rfl) rfl rfl rfl ?_
  refine KL.op (R.leq rfl rfl rfl) rfl rfl rfl ?_
  refine KL.op (R.move rfl rfl) rfl rfl rfl ?_
  refine KL.case (d := 10) rfl ?_ ?_
  · intro hg10
    try simp only [decide_eq_true_eq, decide_eq_false_iff_not, Bool.not_eq_true', Bool.not_eq_false', Bool.and_eq_true, Bool.or_eq_false_iff] at hg10
    refine KL.op (R.move rfl rfl) rfl rfl rfl ?_
    refine KL.op (R.move rfl rfl) rfl rfl rfl ?_
    refine KL.op (R.move rfl rfl) rfl rfl rfl ?_
    refine KL.op (R.sub rfl rfl rfl (by dsimp only [InR]; omega)) rfl rfl rfl ?_
    refine KL.op (R.leq rfl rfl rfl) rfl rfl rfl ?_
    refine KL.op (R.pick rfl rfl rfl) rfl rfl rfl ?_
    refine KL.op (R.assign rfl rfl) rfl rfl rfl ?_
    refine KL.nil ?_
    refine KQ.seq ?_
    refine KC.ret ?_
    refine KQ.ofRet ?_
    refine KQ.fin1 Try.results28 rfl ?_
    refine ⟨congrArg Value.bool ?_, rfl⟩
    first
      | (symm; exact decide_eq_false (by omega))
      | (exact decide_eq_decide.2 (by omega))
  · intro hg10
    try simp only [decide_eq_true_eq, decide_eq_false_iff_not, Bool.not_eq_true', Bool.not_eq_false', Bool.and_eq_true, Bool.or_eq_false_iff] at hg10
    refine KL.skip rfl rfl rfl ?_
    refine KL.skip rfl rfl rfl ?_
    refine KL.skip rfl rfl rfl ?_
    refine KL.skip rfl rfl rfl ?_
    refine KL.skip rfl rfl rfl ?_
    refine KL.op (R.pick rfl rfl rfl) rfl rfl rfl ?_
    refine KL.op (R.assign rfl rfl) rfl rfl rfl ?_
    refine KL.nil ?_
    refine KQ.seq ?_
    refine KC.ret ?_
    refine KQ.ofRet ?_
    refine KQ.fin1 Try.results28 rfl ?_
    refine ⟨congrArg Value.bool ?_, rfl⟩
    first
      | (symm; exact decide_eq_false (by omega))
      | (exact decide_eq_decide.2 (by omega))

set_option maxRecDepth 100000 in
set_option maxHeartbeats 4000000 in
theorem asks_yes {H : Heap} : Ct Try.prog 25 [.bool true] H (fun u H' => H = H') := by
  refine Ct.mk Try.func25 rfl Try.ntmps25 rfl ?_
  intro W0 hW0
  have o0 : Old H H := Old.refl H
  refine KC.seq ?_
  refine KC.region ?_
  refine KL.op (R.move rfl rfl) rfl rfl rfl ?_
  refine KL.op ((R.not rfl rfl).val (show _ = Value.bool false from rfl)) rfl rfl rfl ?_
  refine KL.nil ?_
  refine KQ.seq ?_
  refine KC.condF rfl ?_
  refine KC.skip ?_
  refine KQ.fin0 Try.results25 ?_
  rfl

set_option maxRecDepth 100000 in
set_option maxHeartbeats 4000000 in
theorem asks_no {H : Heap} : CtX Try.prog 25 [.bool false] H (fun u H' => False) (fun v H' => v = amissV ∧ H' = H) := by
  refine CtX.mk Try.func25 rfl Try.ntmps25 rfl ?_
  intro W0 hW0
  have o0 : Old H H := Old.refl H
  refine KC.seq ?_
  refine KC.region ?_
  refine KL.op (R.move rfl rfl) rfl rfl rfl ?_
  refine KL.op ((R.not rfl rfl).val (show _ = Value.bool true from rfl)) rfl rfl rfl ?_
  refine KL.nil ?_
  refine KQ.seq ?_
  refine KC.condT rfl ?_
  refine KC.region ?_
  refine KL.op (R.buildL rfl Try.underlying67 zr67 [] (fun w => by kernel_rfl) rfl trivial rfl rfl trivial rfl) rfl rfl rfl ?_
  refine KL.op (R.makeIface rfl Try.underlying67 rfl rfl) rfl rfl rfl ?_
  refine KL.panic rfl rfl rfl ?_
  exact KQ.pan (⟨rfl, rfl⟩)

end Go.Proofs.Yticnkojpfmkjeaa
