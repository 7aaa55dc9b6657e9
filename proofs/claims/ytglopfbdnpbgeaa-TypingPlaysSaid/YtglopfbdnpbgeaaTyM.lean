/- TypingDead walked. No condition. -/
import Derived.Test.YtglopfbdnpbgeaaTyL
namespace Go.Proofs.Ytglopfbdnpbgeaa
open Go Go.RowKit
set_option linter.unusedVariables false
set_option linter.unusedSimpArgs false
set_option linter.unnecessarySimpa false

theorem d_pushM (l own : List Int) (d : Bool) (m : Nat) (x : List Int) : (stD l own d m).push x = stD l (own ++ x) d (max m (own.length + x.length)) := by
  have h := stD_all l own d m
  unfold DS.push
  rw [h]
  unfold stD
  rw [DS.add_yes (ne_app _ _ _ _), top_app, put_app]
theorem ff_no {own l : List Int} {d : Bool} {k : Nat} (h : fitsF own l d k = false) : false = fitsF own l d (k + 1) := by simp [fitsF, h]
theorem ff_yes {own l : List Int} {d : Bool} {k : Nat} (h : fitsF own l d k = true) (ho : okAt (own.getD (own.length - 1 - k) default) (l.getD (l.length - 1 - k) default)) : true = fitsF own l d (k + 1) := by
  simp only [fitsF, h, Bool.true_and]; exact (decide_eq_true ho).symm
theorem ff_last {own l : List Int} {d : Bool} {k : Nat} (h : fitsF own l d k = true) (h1 : ¬ own.getD (own.length - 1 - k) default = l.getD (l.length - 1 - k) default) (h2 : ¬ own.getD (own.length - 1 - k) default = 0) : decide (l.getD (l.length - 1 - k) default = 0) = fitsF own l d (k + 1) := by
  simp only [fitsF, h, Bool.true_and]
  refine decide_eq_decide.2 ⟨fun h => .inr (.inr h), fun h => ?_⟩
  rcases h with h | h | h
  · exact absurd h h1
  · exact absurd h h2
  · exact h
/-- whether they can be taken, and what is left then -/
theorem d_want {l own : List Int} {d : Bool} {m i : Nat} (hi : i = min own.length l.length) : (fitsF own l d i = false ∧ (stD l own d m).want l = (false, stD l own d m)) ∨ (fitsF own l d i = true ∧ (stD l own d m).want l = (true, stD l (own.take (own.length - l.length)) d m)) := by
  have h := fits_all (own := own) (l := l) (d := d) hi
  have h2 := d_left l own d m l
  cases hf : fitN d own own.length l.reverse with
  | none =>
    rw [hf] at h h2
    exact .inl ⟨h.symm, DS.want_no h2⟩
  | some j =>
    rw [hf] at h h2
    have hj := fit_res hf
    rw [List.length_reverse] at hj
    subst hj
    exact .inr ⟨h.symm, by rw [DS.want_yes h2, d_cut]⟩
theorem d_close2 {l own : List Int} {d : Bool} {m : Nat} : (own.length ≤ l.length ∧ (stD l (own.take (own.length - l.length) ++ l) d m).close = (l, true, ⟨[⟨[], [], [], false⟩], [], m⟩)) ∨ (l.length < own.length ∧ (stD l (own.take (own.length - l.length) ++ l) d m).close = ([], false, stD l (own.take (own.length - l.length) ++ l) d m)) := by
  have h := d_close l (own.take (own.length - l.length)) d m
  rw [List.length_take] at h
  by_cases hl : own.length ≤ l.length
  · refine .inl ⟨hl, ?_⟩
    rw [show min (own.length - l.length) own.length = 0 by omega] at h
    rw [DS.close_yes h, d_top]
    exact congrArg (fun s : DS => (l, true, s)) (less_app _ _ _ _)
  · refine .inr ⟨by omega, DS.close_no ?_⟩
    rw [h]
    intro e
    injection e with e
    omega

set_option maxRecDepth 100000 in
set_option maxHeartbeats 4000000 in
theorem TypingDead_t {H : Heap} {v u : Value} {own l : List Int} (hs : Sl 1 (EInt .u8) H v own) (ht : Sl 1 (EInt .u8) H u l) : Ct Try.prog 4 [v, u, .bool true] H (fun u H' => u = .bool true ∧ Old H H') := by
  refine Ct.mk Try.func4 rfl Try.ntmps4 rfl ?_
  intro W0 hW0
  have o0 : Old H H := Old.refl H
  have hll := hs.len
  have hlu := ht.len
  refine KC.seq ?_
  refine KC.region ?_
  refine KL.op (R.assign rfl rfl) rfl rfl rfl ?_
  refine KL.nil ?_
  refine KQ.seq ?_
  refine KC.seq ?_
  refine KC.seq ?_
  refine KC.region ?_
  refine KL.call rfl rfl rfl rfl Try.call6 rfl rfl rfl (known_k) ?_
  rintro _ H1 ⟨rfl, ox⟩
  have zc_H1 := (ox).1
  have o0 := o0.trans ox
  refine KL.op (R.not rfl rfl) rfl rfl rfl ?_
  refine KL.nil ?_
  refine KQ.seq ?_
  refine KC.condF rfl ?_
  refine KC.skip ?_
  refine KQ.seq ?_
  refine KC.seq ?_
  refine KC.seq ?_
  refine KC.region ?_
  refine KL.op (R.move rfl rfl) rfl rfl rfl ?_
  refine KL.op (R.lenS rfl Try.underlying22 rfl hs) rfl rfl rfl ?_
  refine KL.op (R.gtr rfl rfl rfl) rfl rfl rfl ?_
  refine KL.op (R.move rfl rfl) rfl rfl rfl ?_
  refine KL.case (d := 19) rfl ?_ ?_
  · intro hg19
    try simp only [decide_eq_true_eq, decide_eq_false_iff_not, Bool.not_eq_true', Bool.not_eq_false', Bool.and_eq_true, Bool.or_eq_false_iff] at hg19
    refine KL.skip rfl rfl rfl ?_
    refine KL.skip rfl rfl rfl ?_
    refine KL.skip rfl rfl rfl ?_
    refine KL.op (R.pick rfl rfl rfl) rfl rfl rfl ?_
    refine KL.nil ?_
    refine KQ.seq ?_
    refine KC.condT rfl ?_
    refine KC.seq ?_
    refine KC.region ?_
    refine KL.op (R.assign rfl rfl) rfl rfl rfl ?_
    refine KL.nil ?_
    refine KQ.seq ?_
    refine KC.ret ?_
    refine KQ.retThen ?_
    refine KQ.ofRet ?_
    refine KQ.fin1 Try.results4 rfl ?_
    exact ⟨rfl, o0⟩
  · intro hg19
    try simp only [decide_eq_true_eq, decide_eq_false_iff_not, Bool.not_eq_true', Bool.not_eq_false', Bool.and_eq_true, Bool.or_eq_false_iff] at hg19
    have hg19b := hg19
    refine KL.op (R.move rfl rfl) rfl rfl rfl ?_
    refine KL.op (R.lenS rfl Try.underlying22 rfl ht) rfl rfl rfl ?_
    refine KL.op (R.gtr rfl rfl rfl) rfl rfl rfl ?_
    refine KL.op (R.pick rfl rfl rfl) rfl rfl rfl ?_
    refine KL.nil ?_
    refine KQ.seq ?_
    refine KC.iteL rfl ?_ ?_
    · intro hc23
      try simp only [decide_eq_true_eq, decide_eq_false_iff_not, Bool.not_eq_true', Bool.not_eq_false', Bool.and_eq_true, Bool.or_eq_false_iff] at hc23
      refine KC.seq ?_
      refine KC.region ?_
      refine KL.op (R.assign rfl rfl) rfl rfl rfl ?_
      refine KL.nil ?_
      refine KQ.seq ?_
      refine KC.ret ?_
      refine KQ.retThen ?_
      refine KQ.ofRet ?_
      refine KQ.fin1 Try.results4 rfl ?_
      exact ⟨rfl, o0⟩
    · intro hc23
      try simp only [decide_eq_true_eq, decide_eq_false_iff_not, Bool.not_eq_true', Bool.not_eq_false', Bool.and_eq_true, Bool.or_eq_false_iff] at hc23
      have hlo : own.length ≤ 500 := by omega
      have hlt : l.length ≤ 500 := by omega
      refine KC.skip ?_
      refine KQ.seq ?_
      refine KC.seq ?_
      refine KC.region ?_
      refine KL.call rfl rfl rfl rfl Try.call8 rfl rfl rfl (New_k (Sl.nil _ _ _) (by simp)) ?_
      rintro _ H2 ⟨g, vl, vf, rfl, ts0, ox⟩
      have ts : TS H.size (fun _ => False) H2 g vl vf (DS.new []) := TS.base_le ts0 (by have := o0.1; omega)
      have zc_H2 := (ox).1
      have o0 := o0.trans ox
      refine KL.op (R.assign rfl rfl) rfl rfl rfl ?_
      refine KL.nil ?_
      refine KQ.seq ?_
      refine KC.seq ?_
      refine KC.region ?_
      refine KL.op (R.move rfl rfl) rfl rfl rfl ?_
      refine KL.op (R.move rfl rfl) rfl rfl rfl ?_
      refine KL.call rfl rfl rfl rfl Try.call16 rfl rfl rfl (Open_k ts (Sl.nil _ _ _) (ht.old o0) (by simp) (by omega) (by show (1 : Nat) < _; omega)) ?_
      rintro uu H3 ⟨vf, ts1, st⟩
      have hob := st.oldB (B0 := H.size) (by have := o0.1; omega) (fun b hb => (ts.low b hb).1)
      have ts : TS H.size (fun _ => False) H3 g _ _ (stD l [] false 0) := ts1
      have z_hob := hob.1
      have o0 := o0.then hob (by omega)
      refine KL.nil ?_
      refine KQ.seq ?_
      refine KC.seq ?_
      refine KC.seq ?_
      refine KC.region ?_
      refine KL.op (R.move rfl rfl) rfl rfl rfl ?_
      refine KL.nil ?_
      refine KQ.seq ?_
      refine KC.condT rfl ?_
      refine KC.region ?_
      refine KL.op (R.move rfl rfl) rfl rfl rfl ?_
      refine KL.call rfl rfl rfl rfl Try.call20 rfl rfl rfl (Dead_k ts) ?_
      rintro uu H4 ⟨vl, ts1, st⟩
      have hob := st.oldB (B0 := H.size) (by have := o0.1; omega) (fun b hb => (ts.low b hb).1)
      rw [d_kill] at ts1
      have ts : TS H.size (fun _ => False) H4 g _ _ (stD l [] true 0) := ts1
      have z_hob := hob.1
      have o0 := o0.then hob (by omega)
      refine KL.nil ?_
      refine KQ.seq ?_
      refine KC.seq ?_
      refine KC.region ?_
      refine KL.op (R.move rfl rfl) rfl rfl rfl ?_
      refine KL.op (R.move rfl rfl) rfl rfl rfl ?_
      refine KL.call rfl rfl rfl rfl Try.call10 rfl rfl rfl (Push_k ts (hs.old o0) (by rw [stD_all]; simp; omega)) ?_
      rintro uu H5 ⟨vl, ts1, st⟩
      have hob := st.oldB (B0 := H.size) (by have := o0.1; omega) (fun b hb => (ts.low b hb).1)
      rw [d_pushM] at ts1
      have ts : TS H.size (fun _ => False) H5 g _ _ (stD l own true (max 0 (([] : List Int).length + own.length))) := ts1
      have z_hob := hob.1
      have o0 := o0.then hob (by omega)
      refine KL.nil ?_
      refine KQ.seq ?_
      refine KC.seq ?_
      refine KC.region ?_
      refine KL.op (R.move rfl rfl) rfl rfl rfl ?_
      refine KL.op (R.move rfl rfl) rfl rfl rfl ?_
      refine KL.skip rfl rfl rfl ?_
      refine KL.skip rfl rfl rfl ?_
      refine KL.skip rfl rfl rfl ?_
      refine KL.skip rfl rfl rfl ?_
      refine KL.skip rfl rfl rfl ?_
      refine KL.op (R.pick rfl rfl rfl) rfl rfl rfl ?_
      refine KL.op (R.assign rfl rfl) rfl rfl rfl ?_
      refine KL.nil ?_
      refine KQ.seq ?_
      refine KC.seq ?_
      refine KC.seq ?_
      refine KC.region ?_
      refine KL.op (R.move rfl rfl) rfl rfl rfl ?_
      refine KL.op (R.lenS rfl Try.underlying22 rfl hs) rfl rfl rfl ?_
      refine KL.op (R.move rfl rfl) rfl rfl rfl ?_
      refine KL.op (R.lenS rfl Try.underlying22 rfl ht) rfl rfl rfl ?_
      refine KL.op (R.min rfl rfl rfl) rfl rfl rfl ?_
      refine KL.op (R.move rfl rfl) rfl rfl rfl ?_
      refine KL.nil ?_
      refine KQ.seq ?_
      refine KC.block ?_
      refine KC.loopD (κ := Nat) [48, 49, 9, 50, 51, 52, 53, 54, 55, 56, 57, 58, 59, 60, 61, 62, 63, 64, 65, 10, 11, 66, 67, 68, 69, 70, 71, 72, 73, 74, 75, 76, 77, 78, 79, 8, 80, 47] (fun k => [(47, .int .i64 (k : Nat)), (8, .bool (fitsF own l true k))]) (fun k Hl => k ≤ min own.length l.length ∧ H5 = Hl) (fun k => min own.length l.length - k) 0 ?_ ?_ ?_
      · exact (Sub.cons rfl (Sub.cons rfl (Ext.sub (Ext.refl _ _))))
      · exact ⟨Nat.zero_le _, rfl⟩
      · rintro k H6 ⟨hk, rfl⟩
        refine KC.seq ?_
        refine KC.region ?_
        refine KL.op (R.lss rfl rfl rfl) rfl rfl rfl ?_
        refine KL.nil ?_
        refine KQ.seq ?_
        refine KC.seq ?_
        refine KC.iteL rfl ?_ ?_
        · intro hc48
          try simp only [decide_eq_true_eq, decide_eq_false_iff_not, Bool.not_eq_true', Bool.not_eq_false', Bool.and_eq_true, Bool.or_eq_false_iff] at hc48
          have hk2 : k < min own.length l.length := by omega
          obtain ⟨hcx, hcr⟩ := hs.int (own.length - 1 - k) (by omega)
          obtain ⟨hcy, hcs⟩ := ht.int (l.length - 1 - k) (by omega)
          refine KC.skip ?_
          refine KQ.seq ?_
          refine KC.seq ?_
          refine KC.block ?_
          refine KC.seq ?_
          refine KC.region ?_
          refine KL.op (R.move rfl rfl) rfl rfl rfl ?_
          refine KL.op (R.assign rfl rfl) rfl rfl rfl ?_
          refine KL.nil ?_
          refine KQ.seq ?_
          refine KC.seq ?_
          refine KC.quiet (by kernel_rfl) (by kernel_rfl) ?_
          refine KD.op (R.move rfl rfl) rfl rfl rfl ?_
          refine KD.op (R.move rfl rfl) rfl rfl rfl ?_
          refine KD.op (R.lenS rfl Try.underlying22 rfl hs) rfl rfl rfl ?_
          refine KD.op ((R.sub rfl rfl rfl (by dsimp only [InR]; omega)).val (congrArg (Value.int .i64) (show (own.length : Int) - 1 = ((own.length - 1 : Nat) : Int) by omega))) rfl rfl rfl ?_
          refine KD.op (R.move rfl rfl) rfl rfl rfl ?_
          refine KD.op ((R.sub rfl rfl rfl (by dsimp only [InR]; omega)).val (congrArg (Value.int .i64) (show ((own.length - 1 : Nat) : Int) - (k : Nat) = ((own.length - 1 - k : Nat) : Int) by omega))) rfl rfl rfl ?_
          refine KD.op (R.index1 (j := own.length - 1 - k) rfl Try.underlying22 sz5 rfl rfl hs rfl (by omega)) rfl rfl rfl ?_
          refine KD.op (R.load rfl Try.underlying5 rfl rfl (o0.cell hcx)) rfl rfl rfl ?_
          refine KD.op (R.move rfl rfl) rfl rfl rfl ?_
          refine KD.op (R.move rfl rfl) rfl rfl rfl ?_
          refine KD.op (R.lenS rfl Try.underlying22 rfl ht) rfl rfl rfl ?_
          refine KD.op ((R.sub rfl rfl rfl (by dsimp only [InR]; omega)).val (congrArg (Value.int .i64) (show (l.length : Int) - 1 = ((l.length - 1 : Nat) : Int) by omega))) rfl rfl rfl ?_
          refine KD.op (R.move rfl rfl) rfl rfl rfl ?_
          refine KD.op ((R.sub rfl rfl rfl (by dsimp only [InR]; omega)).val (congrArg (Value.int .i64) (show ((l.length - 1 : Nat) : Int) - (k : Nat) = ((l.length - 1 - k : Nat) : Int) by omega))) rfl rfl rfl ?_
          refine KD.op (R.index1 (j := l.length - 1 - k) rfl Try.underlying22 sz5 rfl rfl ht rfl (by omega)) rfl rfl rfl ?_
          refine KD.op (R.load rfl Try.underlying5 rfl rfl (o0.cell hcy)) rfl rfl rfl ?_
          refine KD.op (R.assign rfl rfl) rfl rfl rfl ?_
          refine KD.op (R.assign rfl rfl) rfl rfl rfl ?_
          refine KD.nil ?_
          refine KQ.seq ?_
          refine KC.region ?_
          refine KL.op (R.move rfl rfl) rfl rfl rfl ?_
          refine KL.op (R.move rfl rfl) rfl rfl rfl ?_
          refine KL.case (d := 67) rfl ?_ ?_
          · intro hg67
            try simp only [decide_eq_true_eq, decide_eq_false_iff_not, Bool.not_eq_true', Bool.not_eq_false', Bool.and_eq_true, Bool.or_eq_false_iff] at hg67
            refine KL.op (R.move rfl rfl) rfl rfl rfl ?_
            refine KL.op (R.move rfl rfl) rfl rfl rfl ?_
            refine KL.op (R.eql rfl rfl rfl) rfl rfl rfl ?_
            refine KL.op (R.move rfl rfl) rfl rfl rfl ?_
            refine KL.case (d := 71) rfl ?_ ?_
            · intro hg71
              try simp only [decide_eq_true_eq, decide_eq_false_iff_not, Bool.not_eq_true', Bool.not_eq_false', Bool.and_eq_true, Bool.or_eq_false_iff] at hg71
              refine KL.skip rfl rfl rfl ?_
              refine KL.skip rfl rfl rfl ?_
              refine KL.op (R.pick rfl rfl rfl) rfl rfl rfl ?_
              refine KL.op (R.move rfl rfl) rfl rfl rfl ?_
              refine KL.skip rfl rfl rfl ?_
              refine KL.skip rfl rfl rfl ?_
              refine KL.op (R.pick rfl rfl rfl) rfl rfl rfl ?_
              refine KL.op ((R.pick rfl rfl rfl).val (congrArg Value.bool (by first | exact ff_no hg67 | exact ff_yes hg67 (.inl hg71) | exact ff_yes hg67 (.inr (.inl hg75)) | exact ff_last hg67 hg71 hg75))) rfl rfl rfl ?_
              refine KL.op (R.assign rfl rfl) rfl rfl rfl ?_
              refine KL.nil ?_
              refine KQ.normBlock ?_
              refine KQ.seq ?_
              refine KC.region ?_
              refine KL.op ((R.add rfl rfl rfl (by dsimp only [InR]; omega)).val (congrArg (Value.int .i64) (show (k : Int) + 1 = ((k + 1 : Nat) : Int) by omega))) rfl rfl rfl ?_
              refine KL.op (R.move rfl rfl) rfl rfl rfl ?_
              refine KL.nil ?_
              refine KQ.again (k + 1) ?_ ?_ ?_
              · exact (Sub.cons rfl (Sub.cons rfl (Ext.sub (by repeat (first | exact Ext.refl _ _ | refine Ext.put rfl ?_ | refine Ext.drop rfl ?_)))))
              · omega
              · exact ⟨by omega, rfl⟩
            · intro hg71
              try simp only [decide_eq_true_eq, decide_eq_false_iff_not, Bool.not_eq_true', Bool.not_eq_false', Bool.and_eq_true, Bool.or_eq_false_iff] at hg71
              refine KL.op (R.move rfl rfl) rfl rfl rfl ?_
              refine KL.op (R.eql rfl rfl rfl) rfl rfl rfl ?_
              refine KL.op (R.pick rfl rfl rfl) rfl rfl rfl ?_
              refine KL.op (R.move rfl rfl) rfl rfl rfl ?_
              refine KL.case (d := 75) rfl ?_ ?_
              · intro hg75
                try simp only [decide_eq_true_eq, decide_eq_false_iff_not, Bool.not_eq_true', Bool.not_eq_false', Bool.and_eq_true, Bool.or_eq_false_iff] at hg75
                refine KL.skip rfl rfl rfl ?_
                refine KL.skip rfl rfl rfl ?_
                refine KL.op (R.pick rfl rfl rfl) rfl rfl rfl ?_
                refine KL.op ((R.pick rfl rfl rfl).val (congrArg Value.bool (by first | exact ff_no hg67 | exact ff_yes hg67 (.inl hg71) | exact ff_yes hg67 (.inr (.inl hg75)) | exact ff_last hg67 hg71 hg75))) rfl rfl rfl ?_
                refine KL.op (R.assign rfl rfl) rfl rfl rfl ?_
                refine KL.nil ?_
                refine KQ.normBlock ?_
                refine KQ.seq ?_
                refine KC.region ?_
                refine KL.op ((R.add rfl rfl rfl (by dsimp only [InR]; omega)).val (congrArg (Value.int .i64) (show (k : Int) + 1 = ((k + 1 : Nat) : Int) by omega))) rfl rfl rfl ?_
                refine KL.op (R.move rfl rfl) rfl rfl rfl ?_
                refine KL.nil ?_
                refine KQ.again (k + 1) ?_ ?_ ?_
                · exact (Sub.cons rfl (Sub.cons rfl (Ext.sub (by repeat (first | exact Ext.refl _ _ | refine Ext.put rfl ?_ | refine Ext.drop rfl ?_)))))
                · omega
                · exact ⟨by omega, rfl⟩
              · intro hg75
                try simp only [decide_eq_true_eq, decide_eq_false_iff_not, Bool.not_eq_true', Bool.not_eq_false', Bool.and_eq_true, Bool.or_eq_false_iff] at hg75
                refine KL.op (R.move rfl rfl) rfl rfl rfl ?_
                refine KL.op (R.eql rfl rfl rfl) rfl rfl rfl ?_
                refine KL.op (R.pick rfl rfl rfl) rfl rfl rfl ?_
                refine KL.op ((R.pick rfl rfl rfl).val (congrArg Value.bool (by first | exact ff_no hg67 | exact ff_yes hg67 (.inl hg71) | exact ff_yes hg67 (.inr (.inl hg75)) | exact ff_last hg67 hg71 hg75))) rfl rfl rfl ?_
                refine KL.op (R.assign rfl rfl) rfl rfl rfl ?_
                refine KL.nil ?_
                refine KQ.normBlock ?_
                refine KQ.seq ?_
                refine KC.region ?_
                refine KL.op ((R.add rfl rfl rfl (by dsimp only [InR]; omega)).val (congrArg (Value.int .i64) (show (k : Int) + 1 = ((k + 1 : Nat) : Int) by omega))) rfl rfl rfl ?_
                refine KL.op (R.move rfl rfl) rfl rfl rfl ?_
                refine KL.nil ?_
                refine KQ.again (k + 1) ?_ ?_ ?_
                · exact (Sub.cons rfl (Sub.cons rfl (Ext.sub (by repeat (first | exact Ext.refl _ _ | refine Ext.put rfl ?_ | refine Ext.drop rfl ?_)))))
                · omega
                · exact ⟨by omega, rfl⟩
          · intro hg67
            try simp only [decide_eq_true_eq, decide_eq_false_iff_not, Bool.not_eq_true', Bool.not_eq_false', Bool.and_eq_true, Bool.or_eq_false_iff] at hg67
            refine KL.skip rfl rfl rfl ?_
            refine KL.skip rfl rfl rfl ?_
            refine KL.skip rfl rfl rfl ?_
            refine KL.skip rfl rfl rfl ?_
            refine KL.skip rfl rfl rfl ?_
            refine KL.skip rfl rfl rfl ?_
            refine KL.skip rfl rfl rfl ?_
            refine KL.skip rfl rfl rfl ?_
            refine KL.skip rfl rfl rfl ?_
            refine KL.skip rfl rfl rfl ?_
            refine KL.skip rfl rfl rfl ?_
            refine KL.op ((R.pick rfl rfl rfl).val (congrArg Value.bool (by first | exact ff_no hg67 | exact ff_yes hg67 (.inl hg71) | exact ff_yes hg67 (.inr (.inl hg75)) | exact ff_last hg67 hg71 hg75))) rfl rfl rfl ?_
            refine KL.op (R.assign rfl rfl) rfl rfl rfl ?_
            refine KL.nil ?_
            refine KQ.normBlock ?_
            refine KQ.seq ?_
            refine KC.region ?_
            refine KL.op ((R.add rfl rfl rfl (by dsimp only [InR]; omega)).val (congrArg (Value.int .i64) (show (k : Int) + 1 = ((k + 1 : Nat) : Int) by omega))) rfl rfl rfl ?_
            refine KL.op (R.move rfl rfl) rfl rfl rfl ?_
            refine KL.nil ?_
            refine KQ.again (k + 1) ?_ ?_ ?_
            · exact (Sub.cons rfl (Sub.cons rfl (Ext.sub (by repeat (first | exact Ext.refl _ _ | refine Ext.put rfl ?_ | refine Ext.drop rfl ?_)))))
            · omega
            · exact ⟨by omega, rfl⟩
        · intro hc48
          try simp only [decide_eq_true_eq, decide_eq_false_iff_not, Bool.not_eq_true', Bool.not_eq_false', Bool.and_eq_true, Bool.or_eq_false_iff] at hc48
          have hkm : k = min own.length l.length := by omega
          refine KC.exit ?_
          refine KQ.exitThen ?_
          refine KQ.exitThen ?_
          refine KQ.hit ?_
          refine KQ.seq ?_
          refine KC.seq ?_
          refine KC.seq ?_
          refine KC.region ?_
          refine KL.op (R.move rfl rfl) rfl rfl rfl ?_
          refine KL.op (R.move rfl rfl) rfl rfl rfl ?_
          refine KL.call rfl rfl rfl rfl Try.call14 rfl rfl rfl (Want_k ts (ht.old o0)) ?_
          rintro uu H7 ⟨vl, hu, ts1, st⟩
          have hob := st.oldB (B0 := H.size) (by have := o0.1; omega) (fun b hb => (ts.low b hb).1)
          have hR := d_want (l := l) (own := own) (d := true) (m := max 0 (([] : List Int).length + own.length)) hkm
          have z_hob := hob.1
          have o0 := o0.then hob (by omega)
          rcases hR with ⟨hff, hw⟩ | ⟨hff, hw⟩
          · skip
            rw [hw] at hu ts1
            have hu : uu = .bool false := hu
            subst hu
            have ts : TS H.size (fun _ => False) H7 g _ _ (stD l own true _) := ts1
            refine KL.op ((R.move rfl rfl).val (congrArg Value.bool hff)) rfl rfl rfl ?_
            refine KL.op (R.neqB rfl Try.underlying4 rfl rfl) rfl rfl rfl ?_
            refine KL.nil ?_
            refine KQ.seq ?_
            refine KC.condF rfl ?_
            refine KC.skip ?_
            refine KQ.seq ?_
            refine KC.seq ?_
            refine KC.seq ?_
            refine KC.region ?_
            refine KL.op ((R.move rfl rfl).val (congrArg Value.bool hff)) rfl rfl rfl ?_
            refine KL.op (R.not rfl rfl) rfl rfl rfl ?_
            refine KL.nil ?_
            refine KQ.seq ?_
            refine KC.condT rfl ?_
            refine KC.seq ?_
            refine KC.region ?_
            refine KL.op (R.move rfl rfl) rfl rfl rfl ?_
            refine KL.call rfl rfl rfl rfl Try.call25 rfl rfl rfl (Height_k ts) ?_
            rintro _ _ ⟨rfl, rfl⟩
            refine KL.op (R.move rfl rfl) rfl rfl rfl ?_
            refine KL.op (R.lenS rfl Try.underlying22 rfl hs) rfl rfl rfl ?_
            refine KL.op ((R.eql rfl rfl rfl).val (congrArg Value.bool (decide_eq_true (by rw [stD_all])))) rfl rfl rfl ?_
            refine KL.op (R.assign rfl rfl) rfl rfl rfl ?_
            refine KL.nil ?_
            refine KQ.seq ?_
            refine KC.ret ?_
            refine KQ.retThen ?_
            refine KQ.ofRet ?_
            refine KQ.fin1 Try.results4 rfl ?_
            exact ⟨rfl, o0⟩
          · skip
            rw [hw] at hu ts1
            have hu : uu = .bool true := hu
            subst hu
            have ts : TS H.size (fun _ => False) H7 g _ _ (stD l (own.take (own.length - l.length)) true _) := ts1
            refine KL.op ((R.move rfl rfl).val (congrArg Value.bool hff)) rfl rfl rfl ?_
            refine KL.op (R.neqB rfl Try.underlying4 rfl rfl) rfl rfl rfl ?_
            refine KL.nil ?_
            refine KQ.seq ?_
            refine KC.condF rfl ?_
            refine KC.skip ?_
            refine KQ.seq ?_
            refine KC.seq ?_
            refine KC.seq ?_
            refine KC.region ?_
            refine KL.op ((R.move rfl rfl).val (congrArg Value.bool hff)) rfl rfl rfl ?_
            refine KL.op (R.not rfl rfl) rfl rfl rfl ?_
            refine KL.nil ?_
            refine KQ.seq ?_
            refine KC.condF rfl ?_
            refine KC.skip ?_
            refine KQ.seq ?_
            refine KC.seq ?_
            refine KC.region ?_
            refine KL.op (R.move rfl rfl) rfl rfl rfl ?_
            refine KL.op (R.move rfl rfl) rfl rfl rfl ?_
            refine KL.call rfl rfl rfl rfl Try.call10 rfl rfl rfl (Push_k ts (ht.old o0) (by rw [stD_all, List.length_take]; omega)) ?_
            rintro uu H8 ⟨vl, ts1, st⟩
            have hob := st.oldB (B0 := H.size) (by have := o0.1; omega) (fun b hb => (ts.low b hb).1)
            rw [d_pushM] at ts1
            have ts : TS H.size (fun _ => False) H8 g _ _ (stD l (own.take (own.length - l.length) ++ l) true (max (max 0 (([] : List Int).length + own.length)) ((own.take (own.length - l.length)).length + l.length))) := ts1
            have z_hob := hob.1
            have o0 := o0.then hob (by omega)
            refine KL.nil ?_
            refine KQ.seq ?_
            refine KC.seq ?_
            refine KC.region ?_
            refine KL.op (R.move rfl rfl) rfl rfl rfl ?_
            refine KL.call rfl rfl rfl rfl Try.call18 rfl rfl rfl (Close_k ts) ?_
            rintro uu H9 ⟨ev, vl, vf, hu, hx, ts1, st⟩
            have hob := st.oldB (B0 := H.size) (by have := o0.1; omega) (fun b hb => (ts.low b hb).1)
            have hR := d_close2 (l := l) (own := own) (d := true) (m := max (max 0 (([] : List Int).length + own.length)) ((own.take (own.length - l.length)).length + l.length))
            have z_hob := hob.1
            have o0 := o0.then hob (by omega)
            rcases hR with ⟨hle, hw⟩ | ⟨hle, hw⟩
            · skip
              rw [hw] at hu hx ts1
              have hu : uu = .tuple #[ev, .bool true] := hu
              subst hu
              have hx : Sl 1 (EInt .u8) H9 ev l := hx
              have ts : TS H.size (fun _ => False) H9 g _ _ ⟨[⟨[], [], [], false⟩], [], _⟩ := ts1
              refine KL.op (R.move rfl rfl) rfl rfl rfl ?_
              refine KL.op (R.extract rfl rfl rfl) rfl rfl rfl ?_
              refine KL.op (R.extract rfl rfl rfl) rfl rfl rfl ?_
              refine KL.op (R.assign rfl rfl) rfl rfl rfl ?_
              refine KL.op (R.assign rfl rfl) rfl rfl rfl ?_
              refine KL.nil ?_
              refine KQ.seq ?_
              refine KC.seq ?_
              refine KC.region ?_
              refine KL.op (R.move rfl rfl) rfl rfl rfl ?_
              refine KL.op (R.move rfl rfl) rfl rfl rfl ?_
              refine KL.op (R.lenS rfl Try.underlying22 rfl hs) rfl rfl rfl ?_
              refine KL.op (R.move rfl rfl) rfl rfl rfl ?_
              refine KL.op (R.lenS rfl Try.underlying22 rfl ht) rfl rfl rfl ?_
              refine KL.op ((R.leq rfl rfl rfl).val (congrArg Value.bool (decide_eq_true (by omega)))) rfl rfl rfl ?_
              refine KL.op (R.eqlB rfl Try.underlying4 rfl rfl) rfl rfl rfl ?_
              refine KL.op (R.move rfl rfl) rfl rfl rfl ?_
              refine KL.op (R.move rfl rfl) rfl rfl rfl ?_
              refine KL.op (R.not rfl rfl) rfl rfl rfl ?_
              refine KL.op (R.move rfl rfl) rfl rfl rfl ?_
              refine KL.op (R.move rfl rfl) rfl rfl rfl ?_
              refine KL.op (R.convBS rfl Try.underlying22 Try.underlying5 Try.underlying9 rfl (hx)) rfl rfl rfl ?_
              refine KL.op (R.move rfl rfl) rfl rfl rfl ?_
              refine KL.op (R.convBS rfl Try.underlying22 Try.underlying5 Try.underlying9 rfl (ht.old o0)) rfl rfl rfl ?_
              refine KL.op ((R.eqlStr rfl rfl rfl).val (congrArg Value.bool (beq_self_eq_true _))) rfl rfl rfl ?_
              refine KL.op (R.pick rfl rfl rfl) rfl rfl rfl ?_
              refine KL.op (R.pick rfl rfl rfl) rfl rfl rfl ?_
              refine KL.op (R.move rfl rfl) rfl rfl rfl ?_
              refine KL.op (R.move rfl rfl) rfl rfl rfl ?_
              refine KL.call rfl rfl rfl rfl Try.call27 rfl rfl rfl (Most_k ts) ?_
              rintro _ _ ⟨rfl, rfl⟩
              refine KL.op (R.move rfl rfl) rfl rfl rfl ?_
              refine KL.call rfl rfl rfl rfl Try.call25 rfl rfl rfl (Height_k ts) ?_
              rintro _ _ ⟨rfl, rfl⟩
              refine KL.op ((R.geq rfl rfl rfl).val (congrArg Value.bool (decide_eq_true (by show ((0 : Nat) : Int) ≤ _; omega)))) rfl rfl rfl ?_
              refine KL.op (R.pick rfl rfl rfl) rfl rfl rfl ?_
              refine KL.op (R.assign rfl rfl) rfl rfl rfl ?_
              refine KL.nil ?_
              refine KQ.seq ?_
              refine KC.ret ?_
              refine KQ.ofRet ?_
              refine KQ.fin1 Try.results4 rfl ?_
              exact ⟨rfl, o0⟩
            · skip
              rw [hw] at hu ts1
              have hu : uu = .tuple #[ev, .bool false] := hu
              subst hu
              have ts : TS H.size (fun _ => False) H9 g _ _ (stD l (own.take (own.length - l.length) ++ l) true _) := ts1
              refine KL.op (R.move rfl rfl) rfl rfl rfl ?_
              refine KL.op (R.extract rfl rfl rfl) rfl rfl rfl ?_
              refine KL.op (R.extract rfl rfl rfl) rfl rfl rfl ?_
              refine KL.op (R.assign rfl rfl) rfl rfl rfl ?_
              refine KL.op (R.assign rfl rfl) rfl rfl rfl ?_
              refine KL.nil ?_
              refine KQ.seq ?_
              refine KC.seq ?_
              refine KC.region ?_
              refine KL.op (R.move rfl rfl) rfl rfl rfl ?_
              refine KL.op (R.move rfl rfl) rfl rfl rfl ?_
              refine KL.op (R.lenS rfl Try.underlying22 rfl hs) rfl rfl rfl ?_
              refine KL.op (R.move rfl rfl) rfl rfl rfl ?_
              refine KL.op (R.lenS rfl Try.underlying22 rfl ht) rfl rfl rfl ?_
              refine KL.op ((R.leq rfl rfl rfl).val (congrArg Value.bool (decide_eq_false (by omega)))) rfl rfl rfl ?_
              refine KL.op (R.eqlB rfl Try.underlying4 rfl rfl) rfl rfl rfl ?_
              refine KL.op (R.move rfl rfl) rfl rfl rfl ?_
              refine KL.op (R.move rfl rfl) rfl rfl rfl ?_
              refine KL.op (R.not rfl rfl) rfl rfl rfl ?_
              refine KL.op (R.move rfl rfl) rfl rfl rfl ?_
              refine KL.skip rfl rfl rfl ?_
              refine KL.skip rfl rfl rfl ?_
              refine KL.skip rfl rfl rfl ?_
              refine KL.skip rfl rfl rfl ?_
              refine KL.skip rfl rfl rfl ?_
              refine KL.op (R.pick rfl rfl rfl) rfl rfl rfl ?_
              refine KL.op (R.pick rfl rfl rfl) rfl rfl rfl ?_
              refine KL.op (R.move rfl rfl) rfl rfl rfl ?_
              refine KL.op (R.move rfl rfl) rfl rfl rfl ?_
              refine KL.call rfl rfl rfl rfl Try.call27 rfl rfl rfl (Most_k ts) ?_
              rintro _ _ ⟨rfl, rfl⟩
              refine KL.op (R.move rfl rfl) rfl rfl rfl ?_
              refine KL.call rfl rfl rfl rfl Try.call25 rfl rfl rfl (Height_k ts) ?_
              rintro _ _ ⟨rfl, rfl⟩
              refine KL.op ((R.geq rfl rfl rfl).val (congrArg Value.bool (decide_eq_true (by rw [stD_all, List.length_append]; show _ ≥ _; unfold stD; dsimp only; omega)))) rfl rfl rfl ?_
              refine KL.op (R.pick rfl rfl rfl) rfl rfl rfl ?_
              refine KL.op (R.assign rfl rfl) rfl rfl rfl ?_
              refine KL.nil ?_
              refine KQ.seq ?_
              refine KC.ret ?_
              refine KQ.ofRet ?_
              refine KQ.fin1 Try.results4 rfl ?_
              exact ⟨rfl, o0⟩

set_option maxRecDepth 100000 in
set_option maxHeartbeats 4000000 in
theorem TypingDead_f {H : Heap} {v u : Value} {own l : List Int} (hs : Sl 1 (EInt .u8) H v own) (ht : Sl 1 (EInt .u8) H u l) : Ct Try.prog 4 [v, u, .bool false] H (fun u H' => u = .bool true ∧ Old H H') := by
  refine Ct.mk Try.func4 rfl Try.ntmps4 rfl ?_
  intro W0 hW0
  have o0 : Old H H := Old.refl H
  have hll := hs.len
  have hlu := ht.len
  refine KC.seq ?_
  refine KC.region ?_
  refine KL.op (R.assign rfl rfl) rfl rfl rfl ?_
  refine KL.nil ?_
  refine KQ.seq ?_
  refine KC.seq ?_
  refine KC.seq ?_
  refine KC.region ?_
  refine KL.call rfl rfl rfl rfl Try.call6 rfl rfl rfl (known_k) ?_
  rintro _ H1 ⟨rfl, ox⟩
  have zc_H1 := (ox).1
  have o0 := o0.trans ox
  refine KL.op (R.not rfl rfl) rfl rfl rfl ?_
  refine KL.nil ?_
  refine KQ.seq ?_
  refine KC.condF rfl ?_
  refine KC.skip ?_
  refine KQ.seq ?_
  refine KC.seq ?_
  refine KC.seq ?_
  refine KC.region ?_
  refine KL.op (R.move rfl rfl) rfl rfl rfl ?_
  refine KL.op (R.lenS rfl Try.underlying22 rfl hs) rfl rfl rfl ?_
  refine KL.op (R.gtr rfl rfl rfl) rfl rfl rfl ?_
  refine KL.op (R.move rfl rfl) rfl rfl rfl ?_
  refine KL.case (d := 19) rfl ?_ ?_
  · intro hg19
    try simp only [decide_eq_true_eq, decide_eq_false_iff_not, Bool.not_eq_true', Bool.not_eq_false', Bool.and_eq_true, Bool.or_eq_false_iff] at hg19
    refine KL.skip rfl rfl rfl ?_
    refine KL.skip rfl rfl rfl ?_
    refine KL.skip rfl rfl rfl ?_
    refine KL.op (R.pick rfl rfl rfl) rfl rfl rfl ?_
    refine KL.nil ?_
    refine KQ.seq ?_
    refine KC.condT rfl ?_
    refine KC.seq ?_
    refine KC.region ?_
    refine KL.op (R.assign rfl rfl) rfl rfl rfl ?_
    refine KL.nil ?_
    refine KQ.seq ?_
    refine KC.ret ?_
    refine KQ.retThen ?_
    refine KQ.ofRet ?_
    refine KQ.fin1 Try.results4 rfl ?_
    exact ⟨rfl, o0⟩
  · intro hg19
    try simp only [decide_eq_true_eq, decide_eq_false_iff_not, Bool.not_eq_true', Bool.not_eq_false', Bool.and_eq_true, Bool.or_eq_false_iff] at hg19
    have hg19b := hg19
    refine KL.op (R.move rfl rfl) rfl rfl rfl ?_
    refine KL.op (R.lenS rfl Try.underlying22 rfl ht) rfl rfl rfl ?_
    refine KL.op (R.gtr rfl rfl rfl) rfl rfl rfl ?_
    refine KL.op (R.pick rfl rfl rfl) rfl rfl rfl ?_
    refine KL.nil ?_
    refine KQ.seq ?_
    refine KC.iteL rfl ?_ ?_
    · intro hc23
      try simp only [decide_eq_true_eq, decide_eq_false_iff_not, Bool.not_eq_true', Bool.not_eq_false', Bool.and_eq_true, Bool.or_eq_false_iff] at hc23
      refine KC.seq ?_
      refine KC.region ?_
      refine KL.op (R.assign rfl rfl) rfl rfl rfl ?_
      refine KL.nil ?_
      refine KQ.seq ?_
      refine KC.ret ?_
      refine KQ.retThen ?_
      refine KQ.ofRet ?_
      refine KQ.fin1 Try.results4 rfl ?_
      exact ⟨rfl, o0⟩
    · intro hc23
      try simp only [decide_eq_true_eq, decide_eq_false_iff_not, Bool.not_eq_true', Bool.not_eq_false', Bool.and_eq_true, Bool.or_eq_false_iff] at hc23
      have hlo : own.length ≤ 500 := by omega
      have hlt : l.length ≤ 500 := by omega
      refine KC.skip ?_
      refine KQ.seq ?_
      refine KC.seq ?_
      refine KC.region ?_
      refine KL.call rfl rfl rfl rfl Try.call8 rfl rfl rfl (New_k (Sl.nil _ _ _) (by simp)) ?_
      rintro _ H2 ⟨g, vl, vf, rfl, ts0, ox⟩
      have ts : TS H.size (fun _ => False) H2 g vl vf (DS.new []) := TS.base_le ts0 (by have := o0.1; omega)
      have zc_H2 := (ox).1
      have o0 := o0.trans ox
      refine KL.op (R.assign rfl rfl) rfl rfl rfl ?_
      refine KL.nil ?_
      refine KQ.seq ?_
      refine KC.seq ?_
      refine KC.region ?_
      refine KL.op (R.move rfl rfl) rfl rfl rfl ?_
      refine KL.op (R.move rfl rfl) rfl rfl rfl ?_
      refine KL.call rfl rfl rfl rfl Try.call16 rfl rfl rfl (Open_k ts (Sl.nil _ _ _) (ht.old o0) (by simp) (by omega) (by show (1 : Nat) < _; omega)) ?_
      rintro uu H3 ⟨vf, ts1, st⟩
      have hob := st.oldB (B0 := H.size) (by have := o0.1; omega) (fun b hb => (ts.low b hb).1)
      have ts : TS H.size (fun _ => False) H3 g _ _ (stD l [] false 0) := ts1
      have z_hob := hob.1
      have o0 := o0.then hob (by omega)
      refine KL.nil ?_
      refine KQ.seq ?_
      refine KC.seq ?_
      refine KC.seq ?_
      refine KC.region ?_
      refine KL.op (R.move rfl rfl) rfl rfl rfl ?_
      refine KL.nil ?_
      refine KQ.seq ?_
      refine KC.condF rfl ?_
      refine KC.skip ?_
      refine KQ.seq ?_
      refine KC.seq ?_
      refine KC.region ?_
      refine KL.op (R.move rfl rfl) rfl rfl rfl ?_
      refine KL.op (R.move rfl rfl) rfl rfl rfl ?_
      refine KL.call rfl rfl rfl rfl Try.call10 rfl rfl rfl (Push_k ts (hs.old o0) (by rw [stD_all]; simp; omega)) ?_
      rintro uu H4 ⟨vl, ts1, st⟩
      have hob := st.oldB (B0 := H.size) (by have := o0.1; omega) (fun b hb => (ts.low b hb).1)
      rw [d_pushM] at ts1
      have ts : TS H.size (fun _ => False) H4 g _ _ (stD l own false (max 0 (([] : List Int).length + own.length))) := ts1
      have z_hob := hob.1
      have o0 := o0.then hob (by omega)
      refine KL.nil ?_
      refine KQ.seq ?_
      refine KC.seq ?_
      refine KC.region ?_
      refine KL.op (R.move rfl rfl) rfl rfl rfl ?_
      refine KL.op (R.move rfl rfl) rfl rfl rfl ?_
      refine KL.op (R.move rfl rfl) rfl rfl rfl ?_
      refine KL.op (R.lenS rfl Try.underlying22 rfl hs) rfl rfl rfl ?_
      refine KL.op (R.move rfl rfl) rfl rfl rfl ?_
      refine KL.op (R.lenS rfl Try.underlying22 rfl ht) rfl rfl rfl ?_
      refine KL.op ((R.geq rfl rfl rfl).val (congrArg Value.bool (show _ = fitsF own l false 0 by unfold fitsF; rw [Bool.false_or]; exact decide_eq_decide.2 (by omega)))) rfl rfl rfl ?_
      refine KL.op (R.pick rfl rfl rfl) rfl rfl rfl ?_
      refine KL.op (R.assign rfl rfl) rfl rfl rfl ?_
      refine KL.nil ?_
      refine KQ.seq ?_
      refine KC.seq ?_
      refine KC.seq ?_
      refine KC.region ?_
      refine KL.op (R.move rfl rfl) rfl rfl rfl ?_
      refine KL.op (R.lenS rfl Try.underlying22 rfl hs) rfl rfl rfl ?_
      refine KL.op (R.move rfl rfl) rfl rfl rfl ?_
      refine KL.op (R.lenS rfl Try.underlying22 rfl ht) rfl rfl rfl ?_
      refine KL.op (R.min rfl rfl rfl) rfl rfl rfl ?_
      refine KL.op (R.move rfl rfl) rfl rfl rfl ?_
      refine KL.nil ?_
      refine KQ.seq ?_
      refine KC.block ?_
      refine KC.loopD (κ := Nat) [48, 49, 9, 50, 51, 52, 53, 54, 55, 56, 57, 58, 59, 60, 61, 62, 63, 64, 65, 10, 11, 66, 67, 68, 69, 70, 71, 72, 73, 74, 75, 76, 77, 78, 79, 8, 80, 47] (fun k => [(47, .int .i64 (k : Nat)), (8, .bool (fitsF own l false k))]) (fun k Hl => k ≤ min own.length l.length ∧ H4 = Hl) (fun k => min own.length l.length - k) 0 ?_ ?_ ?_
      · exact (Sub.cons rfl (Sub.cons rfl (Ext.sub (Ext.refl _ _))))
      · exact ⟨Nat.zero_le _, rfl⟩
      · rintro k H5 ⟨hk, rfl⟩
        refine KC.seq ?_
        refine KC.region ?_
        refine KL.op (R.lss rfl rfl rfl) rfl rfl rfl ?_
        refine KL.nil ?_
        refine KQ.seq ?_
        refine KC.seq ?_
        refine KC.iteL rfl ?_ ?_
        · intro hc48
          try simp only [decide_eq_true_eq, decide_eq_false_iff_not, Bool.not_eq_true', Bool.not_eq_false', Bool.and_eq_true, Bool.or_eq_false_iff] at hc48
          have hk2 : k < min own.length l.length := by omega
          obtain ⟨hcx, hcr⟩ := hs.int (own.length - 1 - k) (by omega)
          obtain ⟨hcy, hcs⟩ := ht.int (l.length - 1 - k) (by omega)
          refine KC.skip ?_
          refine KQ.seq ?_
          refine KC.seq ?_
          refine KC.block ?_
          refine KC.seq ?_
          refine KC.region ?_
          refine KL.op (R.move rfl rfl) rfl rfl rfl ?_
          refine KL.op (R.assign rfl rfl) rfl rfl rfl ?_
          refine KL.nil ?_
          refine KQ.seq ?_
          refine KC.seq ?_
          refine KC.quiet (by kernel_rfl) (by kernel_rfl) ?_
          refine KD.op (R.move rfl rfl) rfl rfl rfl ?_
          refine KD.op (R.move rfl rfl) rfl rfl rfl ?_
          refine KD.op (R.lenS rfl Try.underlying22 rfl hs) rfl rfl rfl ?_
          refine KD.op ((R.sub rfl rfl rfl (by dsimp only [InR]; omega)).val (congrArg (Value.int .i64) (show (own.length : Int) - 1 = ((own.length - 1 : Nat) : Int) by omega))) rfl rfl rfl ?_
          refine KD.op (R.move rfl rfl) rfl rfl rfl ?_
          refine KD.op ((R.sub rfl rfl rfl (by dsimp only [InR]; omega)).val (congrArg (Value.int .i64) (show ((own.length - 1 : Nat) : Int) - (k : Nat) = ((own.length - 1 - k : Nat) : Int) by omega))) rfl rfl rfl ?_
          refine KD.op (R.index1 (j := own.length - 1 - k) rfl Try.underlying22 sz5 rfl rfl hs rfl (by omega)) rfl rfl rfl ?_
          refine KD.op (R.load rfl Try.underlying5 rfl rfl (o0.cell hcx)) rfl rfl rfl ?_
          refine KD.op (R.move rfl rfl) rfl rfl rfl ?_
          refine KD.op (R.move rfl rfl) rfl rfl rfl ?_
          refine KD.op (R.lenS rfl Try.underlying22 rfl ht) rfl rfl rfl ?_
          refine KD.op ((R.sub rfl rfl rfl (by dsimp only [InR]; omega)).val (congrArg (Value.int .i64) (show (l.length : Int) - 1 = ((l.length - 1 : Nat) : Int) by omega))) rfl rfl rfl ?_
          refine KD.op (R.move rfl rfl) rfl rfl rfl ?_
          refine KD.op ((R.sub rfl rfl rfl (by dsimp only [InR]; omega)).val (congrArg (Value.int .i64) (show ((l.length - 1 : Nat) : Int) - (k : Nat) = ((l.length - 1 - k : Nat) : Int) by omega))) rfl rfl rfl ?_
          refine KD.op (R.index1 (j := l.length - 1 - k) rfl Try.underlying22 sz5 rfl rfl ht rfl (by omega)) rfl rfl rfl ?_
          refine KD.op (R.load rfl Try.underlying5 rfl rfl (o0.cell hcy)) rfl rfl rfl ?_
          refine KD.op (R.assign rfl rfl) rfl rfl rfl ?_
          refine KD.op (R.assign rfl rfl) rfl rfl rfl ?_
          refine KD.nil ?_
          refine KQ.seq ?_
          refine KC.region ?_
          refine KL.op (R.move rfl rfl) rfl rfl rfl ?_
          refine KL.op (R.move rfl rfl) rfl rfl rfl ?_
          refine KL.case (d := 67) rfl ?_ ?_
          · intro hg67
            try simp only [decide_eq_true_eq, decide_eq_false_iff_not, Bool.not_eq_true', Bool.not_eq_false', Bool.and_eq_true, Bool.or_eq_false_iff] at hg67
            refine KL.op (R.move rfl rfl) rfl rfl rfl ?_
            refine KL.op (R.move rfl rfl) rfl rfl rfl ?_
            refine KL.op (R.eql rfl rfl rfl) rfl rfl rfl ?_
            refine KL.op (R.move rfl rfl) rfl rfl rfl ?_
            refine KL.case (d := 71) rfl ?_ ?_
            · intro hg71
              try simp only [decide_eq_true_eq, decide_eq_false_iff_not, Bool.not_eq_true', Bool.not_eq_false', Bool.and_eq_true, Bool.or_eq_false_iff] at hg71
              refine KL.skip rfl rfl rfl ?_
              refine KL.skip rfl rfl rfl ?_
              refine KL.op (R.pick rfl rfl rfl) rfl rfl rfl ?_
              refine KL.op (R.move rfl rfl) rfl rfl rfl ?_
              refine KL.skip rfl rfl rfl ?_
              refine KL.skip rfl rfl rfl ?_
              refine KL.op (R.pick rfl rfl rfl) rfl rfl rfl ?_
              refine KL.op ((R.pick rfl rfl rfl).val (congrArg Value.bool (by first | exact ff_no hg67 | exact ff_yes hg67 (.inl hg71) | exact ff_yes hg67 (.inr (.inl hg75)) | exact ff_last hg67 hg71 hg75))) rfl rfl rfl ?_
              refine KL.op (R.assign rfl rfl) rfl rfl rfl ?_
              refine KL.nil ?_
              refine KQ.normBlock ?_
              refine KQ.seq ?_
              refine KC.region ?_
              refine KL.op ((R.add rfl rfl rfl (by dsimp only [InR]; omega)).val (congrArg (Value.int .i64) (show (k : Int) + 1 = ((k + 1 : Nat) : Int) by omega))) rfl rfl rfl ?_
              refine KL.op (R.move rfl rfl) rfl rfl rfl ?_
              refine KL.nil ?_
              refine KQ.again (k + 1) ?_ ?_ ?_
              · exact (Sub.cons rfl (Sub.cons rfl (Ext.sub (by repeat (first | exact Ext.refl _ _ | refine Ext.put rfl ?_ | refine Ext.drop rfl ?_)))))
              · omega
              · exact ⟨by omega, rfl⟩
            · intro hg71
              try simp only [decide_eq_true_eq, decide_eq_false_iff_not, Bool.not_eq_true', Bool.not_eq_false', Bool.and_eq_true, Bool.or_eq_false_iff] at hg71
              refine KL.op (R.move rfl rfl) rfl rfl rfl ?_
              refine KL.op (R.eql rfl rfl rfl) rfl rfl rfl ?_
              refine KL.op (R.pick rfl rfl rfl) rfl rfl rfl ?_
              refine KL.op (R.move rfl rfl) rfl rfl rfl ?_
              refine KL.case (d := 75) rfl ?_ ?_
              · intro hg75
                try simp only [decide_eq_true_eq, decide_eq_false_iff_not, Bool.not_eq_true', Bool.not_eq_false', Bool.and_eq_true, Bool.or_eq_false_iff] at hg75
                refine KL.skip rfl rfl rfl ?_
                refine KL.skip rfl rfl rfl ?_
                refine KL.op (R.pick rfl rfl rfl) rfl rfl rfl ?_
                refine KL.op ((R.pick rfl rfl rfl).val (congrArg Value.bool (by first | exact ff_no hg67 | exact ff_yes hg67 (.inl hg71) | exact ff_yes hg67 (.inr (.inl hg75)) | exact ff_last hg67 hg71 hg75))) rfl rfl rfl ?_
                refine KL.op (R.assign rfl rfl) rfl rfl rfl ?_
                refine KL.nil ?_
                refine KQ.normBlock ?_
                refine KQ.seq ?_
                refine KC.region ?_
                refine KL.op ((R.add rfl rfl rfl (by dsimp only [InR]; omega)).val (congrArg (Value.int .i64) (show (k : Int) + 1 = ((k + 1 : Nat) : Int) by omega))) rfl rfl rfl ?_
                refine KL.op (R.move rfl rfl) rfl rfl rfl ?_
                refine KL.nil ?_
                refine KQ.again (k + 1) ?_ ?_ ?_
                · exact (Sub.cons rfl (Sub.cons rfl (Ext.sub (by repeat (first | exact Ext.refl _ _ | refine Ext.put rfl ?_ | refine Ext.drop rfl ?_)))))
                · omega
                · exact ⟨by omega, rfl⟩
              · intro hg75
                try simp only [decide_eq_true_eq, decide_eq_false_iff_not, Bool.not_eq_true', Bool.not_eq_false', Bool.and_eq_true, Bool.or_eq_false_iff] at hg75
                refine KL.op (R.move rfl rfl) rfl rfl rfl ?_
                refine KL.op (R.eql rfl rfl rfl) rfl rfl rfl ?_
                refine KL.op (R.pick rfl rfl rfl) rfl rfl rfl ?_
                refine KL.op ((R.pick rfl rfl rfl).val (congrArg Value.bool (by first | exact ff_no hg67 | exact ff_yes hg67 (.inl hg71) | exact ff_yes hg67 (.inr (.inl hg75)) | exact ff_last hg67 hg71 hg75))) rfl rfl rfl ?_
                refine KL.op (R.assign rfl rfl) rfl rfl rfl ?_
                refine KL.nil ?_
                refine KQ.normBlock ?_
                refine KQ.seq ?_
                refine KC.region ?_
                refine KL.op ((R.add rfl rfl rfl (by dsimp only [InR]; omega)).val (congrArg (Value.int .i64) (show (k : Int) + 1 = ((k + 1 : Nat) : Int) by omega))) rfl rfl rfl ?_
                refine KL.op (R.move rfl rfl) rfl rfl rfl ?_
                refine KL.nil ?_
                refine KQ.again (k + 1) ?_ ?_ ?_
                · exact (Sub.cons rfl (Sub.cons rfl (Ext.sub (by repeat (first | exact Ext.refl _ _ | refine Ext.put rfl ?_ | refine Ext.drop rfl ?_)))))
                · omega
                · exact ⟨by omega, rfl⟩
          · intro hg67
            try simp only [decide_eq_true_eq, decide_eq_false_iff_not, Bool.not_eq_true', Bool.not_eq_false', Bool.and_eq_true, Bool.or_eq_false_iff] at hg67
            refine KL.skip rfl rfl rfl ?_
            refine KL.skip rfl rfl rfl ?_
            refine KL.skip rfl rfl rfl ?_
            refine KL.skip rfl rfl rfl ?_
            refine KL.skip rfl rfl rfl ?_
            refine KL.skip rfl rfl rfl ?_
            refine KL.skip rfl rfl rfl ?_
            refine KL.skip rfl rfl rfl ?_
            refine KL.skip rfl rfl rfl ?_
            refine KL.skip rfl rfl rfl ?_
            refine KL.skip rfl rfl rfl ?_
            refine KL.op ((R.pick rfl rfl rfl).val (congrArg Value.bool (by first | exact ff_no hg67 | exact ff_yes hg67 (.inl hg71) | exact ff_yes hg67 (.inr (.inl hg75)) | exact ff_last hg67 hg71 hg75))) rfl rfl rfl ?_
            refine KL.op (R.assign rfl rfl) rfl rfl rfl ?_
            refine KL.nil ?_
            refine KQ.normBlock ?_
            refine KQ.seq ?_
            refine KC.region ?_
            refine KL.op ((R.add rfl rfl rfl (by dsimp only [InR]; omega)).val (congrArg (Value.int .i64) (show (k : Int) + 1 = ((k + 1 : Nat) : Int) by omega))) rfl rfl rfl ?_
            refine KL.op (R.move rfl rfl) rfl rfl rfl ?_
            refine KL.nil ?_
            refine KQ.again (k + 1) ?_ ?_ ?_
            · exact (Sub.cons rfl (Sub.cons rfl (Ext.sub (by repeat (first | exact Ext.refl _ _ | refine Ext.put rfl ?_ | refine Ext.drop rfl ?_)))))
            · omega
            · exact ⟨by omega, rfl⟩
        · intro hc48
          try simp only [decide_eq_true_eq, decide_eq_false_iff_not, Bool.not_eq_true', Bool.not_eq_false', Bool.and_eq_true, Bool.or_eq_false_iff] at hc48
          have hkm : k = min own.length l.length := by omega
          refine KC.exit ?_
          refine KQ.exitThen ?_
          refine KQ.exitThen ?_
          refine KQ.hit ?_
          refine KQ.seq ?_
          refine KC.seq ?_
          refine KC.seq ?_
          refine KC.region ?_
          refine KL.op (R.move rfl rfl) rfl rfl rfl ?_
          refine KL.op (R.move rfl rfl) rfl rfl rfl ?_
          refine KL.call rfl rfl rfl rfl Try.call14 rfl rfl rfl (Want_k ts (ht.old o0)) ?_
          rintro uu H6 ⟨vl, hu, ts1, st⟩
          have hob := st.oldB (B0 := H.size) (by have := o0.1; omega) (fun b hb => (ts.low b hb).1)
          have hR := d_want (l := l) (own := own) (d := false) (m := max 0 (([] : List Int).length + own.length)) hkm
          have z_hob := hob.1
          have o0 := o0.then hob (by omega)
          rcases hR with ⟨hff, hw⟩ | ⟨hff, hw⟩
          · skip
            rw [hw] at hu ts1
            have hu : uu = .bool false := hu
            subst hu
            have ts : TS H.size (fun _ => False) H6 g _ _ (stD l own false _) := ts1
            refine KL.op ((R.move rfl rfl).val (congrArg Value.bool hff)) rfl rfl rfl ?_
            refine KL.op (R.neqB rfl Try.underlying4 rfl rfl) rfl rfl rfl ?_
            refine KL.nil ?_
            refine KQ.seq ?_
            refine KC.condF rfl ?_
            refine KC.skip ?_
            refine KQ.seq ?_
            refine KC.seq ?_
            refine KC.seq ?_
            refine KC.region ?_
            refine KL.op ((R.move rfl rfl).val (congrArg Value.bool hff)) rfl rfl rfl ?_
            refine KL.op (R.not rfl rfl) rfl rfl rfl ?_
            refine KL.nil ?_
            refine KQ.seq ?_
            refine KC.condT rfl ?_
            refine KC.seq ?_
            refine KC.region ?_
            refine KL.op (R.move rfl rfl) rfl rfl rfl ?_
            refine KL.call rfl rfl rfl rfl Try.call25 rfl rfl rfl (Height_k ts) ?_
            rintro _ _ ⟨rfl, rfl⟩
            refine KL.op (R.move rfl rfl) rfl rfl rfl ?_
            refine KL.op (R.lenS rfl Try.underlying22 rfl hs) rfl rfl rfl ?_
            refine KL.op ((R.eql rfl rfl rfl).val (congrArg Value.bool (decide_eq_true (by rw [stD_all])))) rfl rfl rfl ?_
            refine KL.op (R.assign rfl rfl) rfl rfl rfl ?_
            refine KL.nil ?_
            refine KQ.seq ?_
            refine KC.ret ?_
            refine KQ.retThen ?_
            refine KQ.ofRet ?_
            refine KQ.fin1 Try.results4 rfl ?_
            exact ⟨rfl, o0⟩
          · skip
            rw [hw] at hu ts1
            have hu : uu = .bool true := hu
            subst hu
            have ts : TS H.size (fun _ => False) H6 g _ _ (stD l (own.take (own.length - l.length)) false _) := ts1
            refine KL.op ((R.move rfl rfl).val (congrArg Value.bool hff)) rfl rfl rfl ?_
            refine KL.op (R.neqB rfl Try.underlying4 rfl rfl) rfl rfl rfl ?_
            refine KL.nil ?_
            refine KQ.seq ?_
            refine KC.condF rfl ?_
            refine KC.skip ?_
            refine KQ.seq ?_
            refine KC.seq ?_
            refine KC.seq ?_
            refine KC.region ?_
            refine KL.op ((R.move rfl rfl).val (congrArg Value.bool hff)) rfl rfl rfl ?_
            refine KL.op (R.not rfl rfl) rfl rfl rfl ?_
            refine KL.nil ?_
            refine KQ.seq ?_
            refine KC.condF rfl ?_
            refine KC.skip ?_
            refine KQ.seq ?_
            refine KC.seq ?_
            refine KC.region ?_
            refine KL.op (R.move rfl rfl) rfl rfl rfl ?_
            refine KL.op (R.move rfl rfl) rfl rfl rfl ?_
            refine KL.call rfl rfl rfl rfl Try.call10 rfl rfl rfl (Push_k ts (ht.old o0) (by rw [stD_all, List.length_take]; omega)) ?_
            rintro uu H7 ⟨vl, ts1, st⟩
            have hob := st.oldB (B0 := H.size) (by have := o0.1; omega) (fun b hb => (ts.low b hb).1)
            rw [d_pushM] at ts1
            have ts : TS H.size (fun _ => False) H7 g _ _ (stD l (own.take (own.length - l.length) ++ l) false (max (max 0 (([] : List Int).length + own.length)) ((own.take (own.length - l.length)).length + l.length))) := ts1
            have z_hob := hob.1
            have o0 := o0.then hob (by omega)
            refine KL.nil ?_
            refine KQ.seq ?_
            refine KC.seq ?_
            refine KC.region ?_
            refine KL.op (R.move rfl rfl) rfl rfl rfl ?_
            refine KL.call rfl rfl rfl rfl Try.call18 rfl rfl rfl (Close_k ts) ?_
            rintro uu H8 ⟨ev, vl, vf, hu, hx, ts1, st⟩
            have hob := st.oldB (B0 := H.size) (by have := o0.1; omega) (fun b hb => (ts.low b hb).1)
            have hR := d_close2 (l := l) (own := own) (d := false) (m := max (max 0 (([] : List Int).length + own.length)) ((own.take (own.length - l.length)).length + l.length))
            have z_hob := hob.1
            have o0 := o0.then hob (by omega)
            rcases hR with ⟨hle, hw⟩ | ⟨hle, hw⟩
            · skip
              rw [hw] at hu hx ts1
              have hu : uu = .tuple #[ev, .bool true] := hu
              subst hu
              have hx : Sl 1 (EInt .u8) H8 ev l := hx
              have ts : TS H.size (fun _ => False) H8 g _ _ ⟨[⟨[], [], [], false⟩], [], _⟩ := ts1
              refine KL.op (R.move rfl rfl) rfl rfl rfl ?_
              refine KL.op (R.extract rfl rfl rfl) rfl rfl rfl ?_
              refine KL.op (R.extract rfl rfl rfl) rfl rfl rfl ?_
              refine KL.op (R.assign rfl rfl) rfl rfl rfl ?_
              refine KL.op (R.assign rfl rfl) rfl rfl rfl ?_
              refine KL.nil ?_
              refine KQ.seq ?_
              refine KC.seq ?_
              refine KC.region ?_
              refine KL.op (R.move rfl rfl) rfl rfl rfl ?_
              refine KL.op (R.move rfl rfl) rfl rfl rfl ?_
              refine KL.op (R.lenS rfl Try.underlying22 rfl hs) rfl rfl rfl ?_
              refine KL.op (R.move rfl rfl) rfl rfl rfl ?_
              refine KL.op (R.lenS rfl Try.underlying22 rfl ht) rfl rfl rfl ?_
              refine KL.op ((R.leq rfl rfl rfl).val (congrArg Value.bool (decide_eq_true (by omega)))) rfl rfl rfl ?_
              refine KL.op (R.eqlB rfl Try.underlying4 rfl rfl) rfl rfl rfl ?_
              refine KL.op (R.move rfl rfl) rfl rfl rfl ?_
              refine KL.op (R.move rfl rfl) rfl rfl rfl ?_
              refine KL.op (R.not rfl rfl) rfl rfl rfl ?_
              refine KL.op (R.move rfl rfl) rfl rfl rfl ?_
              refine KL.op (R.move rfl rfl) rfl rfl rfl ?_
              refine KL.op (R.convBS rfl Try.underlying22 Try.underlying5 Try.underlying9 rfl (hx)) rfl rfl rfl ?_
              refine KL.op (R.move rfl rfl) rfl rfl rfl ?_
              refine KL.op (R.convBS rfl Try.underlying22 Try.underlying5 Try.underlying9 rfl (ht.old o0)) rfl rfl rfl ?_
              refine KL.op ((R.eqlStr rfl rfl rfl).val (congrArg Value.bool (beq_self_eq_true _))) rfl rfl rfl ?_
              refine KL.op (R.pick rfl rfl rfl) rfl rfl rfl ?_
              refine KL.op (R.pick rfl rfl rfl) rfl rfl rfl ?_
              refine KL.op (R.move rfl rfl) rfl rfl rfl ?_
              refine KL.op (R.move rfl rfl) rfl rfl rfl ?_
              refine KL.call rfl rfl rfl rfl Try.call27 rfl rfl rfl (Most_k ts) ?_
              rintro _ _ ⟨rfl, rfl⟩
              refine KL.op (R.move rfl rfl) rfl rfl rfl ?_
              refine KL.call rfl rfl rfl rfl Try.call25 rfl rfl rfl (Height_k ts) ?_
              rintro _ _ ⟨rfl, rfl⟩
              refine KL.op ((R.geq rfl rfl rfl).val (congrArg Value.bool (decide_eq_true (by show ((0 : Nat) : Int) ≤ _; omega)))) rfl rfl rfl ?_
              refine KL.op (R.pick rfl rfl rfl) rfl rfl rfl ?_
              refine KL.op (R.assign rfl rfl) rfl rfl rfl ?_
              refine KL.nil ?_
              refine KQ.seq ?_
              refine KC.ret ?_
              refine KQ.ofRet ?_
              refine KQ.fin1 Try.results4 rfl ?_
              exact ⟨rfl, o0⟩
            · skip
              rw [hw] at hu ts1
              have hu : uu = .tuple #[ev, .bool false] := hu
              subst hu
              have ts : TS H.size (fun _ => False) H8 g _ _ (stD l (own.take (own.length - l.length) ++ l) false _) := ts1
              refine KL.op (R.move rfl rfl) rfl rfl rfl ?_
              refine KL.op (R.extract rfl rfl rfl) rfl rfl rfl ?_
              refine KL.op (R.extract rfl rfl rfl) rfl rfl rfl ?_
              refine KL.op (R.assign rfl rfl) rfl rfl rfl ?_
              refine KL.op (R.assign rfl rfl) rfl rfl rfl ?_
              refine KL.nil ?_
              refine KQ.seq ?_
              refine KC.seq ?_
              refine KC.region ?_
              refine KL.op (R.move rfl rfl) rfl rfl rfl ?_
              refine KL.op (R.move rfl rfl) rfl rfl rfl ?_
              refine KL.op (R.lenS rfl Try.underlying22 rfl hs) rfl rfl rfl ?_
              refine KL.op (R.move rfl rfl) rfl rfl rfl ?_
              refine KL.op (R.lenS rfl Try.underlying22 rfl ht) rfl rfl rfl ?_
              refine KL.op ((R.leq rfl rfl rfl).val (congrArg Value.bool (decide_eq_false (by omega)))) rfl rfl rfl ?_
              refine KL.op (R.eqlB rfl Try.underlying4 rfl rfl) rfl rfl rfl ?_
              refine KL.op (R.move rfl rfl) rfl rfl rfl ?_
              refine KL.op (R.move rfl rfl) rfl rfl rfl ?_
              refine KL.op (R.not rfl rfl) rfl rfl rfl ?_
              refine KL.op (R.move rfl rfl) rfl rfl rfl ?_
              refine KL.skip rfl rfl rfl ?_
              refine KL.skip rfl rfl rfl ?_
              refine KL.skip rfl rfl rfl ?_
              refine KL.skip rfl rfl rfl ?_
              refine KL.skip rfl rfl rfl ?_
              refine KL.op (R.pick rfl rfl rfl) rfl rfl rfl ?_
              refine KL.op (R.pick rfl rfl rfl) rfl rfl rfl ?_
              refine KL.op (R.move rfl rfl) rfl rfl rfl ?_
              refine KL.op (R.move rfl rfl) rfl rfl rfl ?_
              refine KL.call rfl rfl rfl rfl Try.call27 rfl rfl rfl (Most_k ts) ?_
              rintro _ _ ⟨rfl, rfl⟩
              refine KL.op (R.move rfl rfl) rfl rfl rfl ?_
              refine KL.call rfl rfl rfl rfl Try.call25 rfl rfl rfl (Height_k ts) ?_
              rintro _ _ ⟨rfl, rfl⟩
              refine KL.op ((R.geq rfl rfl rfl).val (congrArg Value.bool (decide_eq_true (by rw [stD_all, List.length_append]; show _ ≥ _; unfold stD; dsimp only; omega)))) rfl rfl rfl ?_
              refine KL.op (R.pick rfl rfl rfl) rfl rfl rfl ?_
              refine KL.op (R.assign rfl rfl) rfl rfl rfl ?_
              refine KL.nil ?_
              refine KQ.seq ?_
              refine KC.ret ?_
              refine KQ.ofRet ?_
              refine KQ.fin1 Try.results4 rfl ?_
              exact ⟨rfl, o0⟩

theorem TypingDead_k {H : Heap} {v u : Value} {own l : List Int} (hs : Sl 1 (EInt .u8) H v own) (ht : Sl 1 (EInt .u8) H u l) (d : Bool) : Ct Try.prog 4 [v, u, .bool d] H (fun u H' => u = .bool true ∧ Old H H') := by
  cases d with
  | true => exact TypingDead_t hs ht
  | false => exact TypingDead_f hs ht

end Go.Proofs.Ytglopfbdnpbgeaa
