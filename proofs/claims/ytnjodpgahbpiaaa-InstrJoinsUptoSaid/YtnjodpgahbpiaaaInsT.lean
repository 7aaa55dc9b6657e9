/- What is written is read. No condition but sizes. -/
import Derived.Test.YtnjodpgahbpiaaaInsS
namespace Go.Proofs.Ytnjodpgahbpiaaa
open Go Go.RowKit
set_option linter.unusedVariables false
set_option linter.unusedSimpArgs false
set_option linter.unnecessarySimpa false

namespace Isp
theorem bindP_err {α β : Type} {p : Prs α} {q : α → Prs β} (hp : ∀ r e, p r = .error e → e = 60 ∨ e = 61) (hq : ∀ x r e, q x r = .error e → e = 60 ∨ e = 61) : ∀ r e, bindP p q r = .error e → e = 60 ∨ e = 61 := by
  intro r e h
  unfold bindP at h
  split at h
  · next e' he => injection h with h; subst h; exact hp _ _ he
  · split at h
    · next e' he => injection h with h; subst h; exact hq _ _ _ he
    · cases h
theorem mapP_err {α β : Type} {g : α → β} {p : Prs α} (hp : ∀ r e, p r = .error e → e = 60 ∨ e = 61) : ∀ r e, mapP g p r = .error e → e = 60 ∨ e = 61 := by
  intro r e h
  unfold mapP at h
  split at h
  · next e' he => injection h with h; subst h; exact hp _ _ he
  · cases h
theorem manyP_err {α : Type} {p : Prs α} (hp : ∀ r e, p r = .error e → e = 60 ∨ e = 61) : ∀ n r e, manyP p n r = .error e → e = 60 ∨ e = 61
  | 0, r, e, h => by cases h
  | n + 1, r, e, h => mapP_err (bindP_err hp fun _ => manyP_err hp n) r e h
theorem numP_err {sg : Bool} {b : Nat} : ∀ r e, numP sg b r = .error e → e = 60 ∨ e = 61 := by
  intro r e h
  unfold numP at h
  split at h <;> first | (injection h with h; omega) | cases h
theorem zeroP_err : ∀ r e, zeroP r = .error e → e = 60 ∨ e = 61 := by
  intro r e h
  unfold zeroP at h
  repeat' split at h
  all_goals first | (injection h with h; omega) | cases h
theorem blockP_err : ∀ r e, blockP r = .error e → e = 60 ∨ e = 61 := by
  intro r e h
  unfold blockP at h
  repeat' split at h
  all_goals first | (injection h with h; omega) | cases h
theorem bodyP_err (f : Int) : ∀ r e, bodyP f r = .error e → e = 60 ∨ e = 61 := by
  unfold bodyP
  split
  · exact mapP_err blockP_err
  split
  · exact mapP_err numP_err
  split
  · exact mapP_err (mapP_err (bindP_err (bindP_err numP_err fun _ => manyP_err numP_err _) fun _ => numP_err))
  split
  · exact mapP_err (bindP_err numP_err fun _ => zeroP_err)
  split
  · exact mapP_err (bindP_err numP_err fun _ => numP_err)
  split
  · exact mapP_err zeroP_err
  split
  · exact mapP_err numP_err
  split
  · exact mapP_err numP_err
  · intro r e h; cases h
theorem insP_err : ∀ r e, insP r = .error e → e = 60 ∨ e = 61 := by
  intro r e h
  unfold insP at h
  split at h
  · injection h with h; omega
  split at h
  · injection h with h; omega
  split at h
  · injection h with h; omega
  split at h
  · next e' he => injection h with h; subst h; exact bodyP_err _ _ _ he
  · cases h
theorem exprP_err : ∀ f m r e, exprP f m r = .error e → e = 60 ∨ e = 61
  | 0, m, r, e, h => by injection h with h; omega
  | f + 1, m, r, e, h => by
    simp only [exprP] at h
    split at h
    · next e' he => injection h with h; subst h; exact insP_err _ _ he
    · split at h
      · injection h with h; omega
      · cases h
      · split at h
        · next e' he => injection h with h; subst h; exact exprP_err _ _ _ _ he
        · cases h
theorem ge_flat {xs : List Int} (h : ∀ y ∈ xs, okU y) : xs.length ≤ (xs.flatMap (apN false)).length := by
  induction xs with
  | nil => simp
  | cons y t ih =>
    have := (apN_len (b := 32) (by omega) ((okU_iff y).1 (h y (by simp)))).1
    have := ih (fun z hz => h z (by simp [hz]))
    simp only [List.flatMap_cons, List.length_append, List.length_cons]
    omega
theorem may_ge {x : Ins} (h : May x) : 1 + x.l.length ≤ (bytes x).length := by
  obtain ⟨_, hv⟩ := h
  unfold bytes
  generalize Opc.form x.op = f at *
  have hn : x.l = [] ∨ f = 3 := by
    by_cases h3 : f = 3
    · exact .inr h3
    · refine .inl ?_
      unfold bodyV rest at hv
      dsimp only at hv
      repeat' split at hv
      all_goals simp_all
  rcases hn with hn | hn
  · rw [hn]; simp
  · subst hn
    have hv' : labsV (x.l, x.a) := by
      unfold bodyV rest at hv
      simp at hv
      exact hv.1
    have := ge_flat hv'.2.1
    dsimp only at this
    have e : bodyE 3 (rest x) = apN false (x.l.length : Nat) ++ x.l.flatMap (apN false) ++ apN false x.a := by simp [bodyE, rest, labsE]
    rw [e]
    have := (apN_len (z := ((x.l.length : Nat) : Int)) (b := 32) (by omega) ((okU_iff _).1 ⟨by omega, by have := hv'.1; dsimp only at this; omega⟩)).1
    simp only [List.length_cons, List.length_append]
    omega
theorem bulk_flat {l : List Ins} (h : ∀ x ∈ l, May x) : bulk l ≤ (flat l).length := by
  induction l with
  | nil => simp [bulk]
  | cons x l ih =>
    have h1 := may_ge (h x (by simp))
    have h2 := ih (fun y hy => h y (by simp [hy]))
    simp only [flat, bulk, List.flatMap_cons, List.map_cons, List.sum_cons, List.length_append] at *
    omega
theorem back {xs : List Ins} (h : Has xs) (r : List Int) : exprP ((flat xs ++ [11] ++ r).length + 1) [] (flat xs ++ [11] ++ r) = .ok (xs, (flat xs).length + 1) := by
  have hb := bulk_flat h.2
  have hl := bulk_len xs
  have := expr_back xs [] ((flat xs ++ [11] ++ r).length + 1) r h.1 h.2 (by simp only [List.length_append, List.length_cons, List.length_nil]; omega)
  rw [List.append_assoc] at this ⊢
  exact this
end Isp


theorem flatC {H : Heap} {v : Value} {l : List Ins} (h : Sl 5 EIns H v l) (hb : Isp.bulk l ≤ 2000000) : (Isp.flat l).length ≤ 31 * Isp.bulk l := Isp.flat_le fun x hm => by
  have := Isp.bulk_mem hm
  exact ⟨(h.insAll x hm).1, (h.insAll x hm).2, by omega⟩

set_option maxRecDepth 100000 in
set_option maxHeartbeats 4000000 in
theorem InstrBack_any {H : Heap} {vx vb : Value} {xs : List Ins} {lb : List Int} (hx0 : Sl 5 EIns H vx xs) (hw : ∀ x ∈ xs, x.l.length ≤ 70368744177664) (hb0 : Sl 1 (EInt .u8) H vb lb) : Ct Try.prog 3 [vx, vb] H (fun u H' => u = .bool true ∧ Old H H') := by
  refine Ct.mk Try.func3 rfl Try.ntmps3 rfl ?_
  intro W0 hW0
  have o0 : Old H H := Old.refl H
  have hx := hx0
  have hb := hb0
  refine KC.seq ?_
  refine KC.region ?_
  refine KL.op (R.assign rfl rfl) rfl rfl rfl ?_
  refine KL.nil ?_
  refine KQ.seq ?_
  refine KC.seq ?_
  refine KC.seq ?_
  refine KC.region ?_
  refine KL.call rfl rfl rfl rfl Try.call6 rfl rfl rfl (known_any) ?_
  rintro _ H1 ⟨rfl, ox⟩
  have zc_H1 := (ox).1
  have o0 := o0.trans ox
  have hx := hx.old ox
  have hb := hb.old ox
  refine KL.op (R.not rfl rfl) rfl rfl rfl ?_
  refine KL.nil ?_
  refine KQ.seq ?_
  refine KC.condF rfl ?_
  refine KC.skip ?_
  refine KQ.seq ?_
  refine KC.seq ?_
  refine KC.seq ?_
  refine KC.region ?_
  refine KL.op (R.move rfl rfl) rfl rfl rfl ?_
  refine KL.op (R.lenS rfl Try.underlying23 rfl hb) rfl rfl rfl ?_
  refine KL.op (R.gtr rfl rfl rfl) rfl rfl rfl ?_
  refine KL.op (R.move rfl rfl) rfl rfl rfl ?_
  refine KL.case (d := 22) rfl ?_ ?_
  · intro hg22
    try simp only [decide_eq_true_eq, decide_eq_false_iff_not, Bool.not_eq_true', Bool.not_eq_false', Bool.and_eq_true, Bool.or_eq_false_iff] at hg22
    refine KL.skip rfl rfl rfl ?_
    refine KL.skip rfl rfl rfl ?_
    refine KL.op (R.pick rfl rfl rfl) rfl rfl rfl ?_
    refine KL.nil ?_
    refine KQ.seq ?_
    refine KC.condT rfl ?_
    refine KC.seq ?_
    refine KC.region ?_
    refine KL.op (R.assign rfl rfl) rfl rfl rfl ?_
    refine KL.nil ?_
    refine KQ.seq ?_
    refine KC.ret ?_
    refine KQ.retThen ?_
    refine KQ.ofRet ?_
    refine KQ.fin1 Try.results3 rfl ?_
    first
      | exact ⟨rfl, o0⟩
      | exact ⟨congrArg Value.bool (decide_eq_true (by omega)), o0⟩
  · intro hg22
    try simp only [decide_eq_true_eq, decide_eq_false_iff_not, Bool.not_eq_true', Bool.not_eq_false', Bool.and_eq_true, Bool.or_eq_false_iff] at hg22
    refine KL.op (R.move rfl rfl) rfl rfl rfl ?_
    refine KL.call rfl rfl rfl rfl Try.call7 rfl rfl rfl (Great_any hx hw) ?_
    rintro _ _ ⟨rfl, rfl⟩
    refine KL.op (R.pick rfl rfl rfl) rfl rfl rfl ?_
    refine KL.nil ?_
    refine KQ.seq ?_
    refine KC.iteL rfl ?_ ?_
    · intro hc25
      try simp only [decide_eq_true_eq, decide_eq_false_iff_not, Bool.not_eq_true', Bool.not_eq_false', Bool.and_eq_true, Bool.or_eq_false_iff] at hc25
      refine KC.seq ?_
      refine KC.region ?_
      refine KL.op (R.assign rfl rfl) rfl rfl rfl ?_
      refine KL.nil ?_
      refine KQ.seq ?_
      refine KC.ret ?_
      refine KQ.retThen ?_
      refine KQ.ofRet ?_
      refine KQ.fin1 Try.results3 rfl ?_
      first
        | exact ⟨rfl, o0⟩
        | exact ⟨congrArg Value.bool (decide_eq_true (by omega)), o0⟩
    · intro hc25
      try simp only [decide_eq_true_eq, decide_eq_false_iff_not, Bool.not_eq_true', Bool.not_eq_false', Bool.and_eq_true, Bool.or_eq_false_iff] at hc25
      refine KC.skip ?_
      refine KQ.seq ?_
      refine KC.seq ?_
      refine KC.seq ?_
      refine KC.region ?_
      refine KL.op (R.move rfl rfl) rfl rfl rfl ?_
      refine KL.call rfl rfl rfl rfl Try.call8 rfl rfl rfl (AppendExpr_any (va := .slice none 0 0) (la := []) (Sl.nil _ _ _) (by simp) hx (by omega)) ?_
      rintro u H2 ⟨hR, ox⟩
      rcases hR with ⟨hno, rfl⟩ | ⟨hH, c1, rfl, wc⟩
      · skip
        have o0 := o0.trans ox
        have hx := hx.old ox
        have hb := hb.old ox
        have zox := ox.1
        refine KL.op (R.move rfl rfl) rfl rfl rfl ?_
        refine KL.op (R.extract rfl rfl rfl) rfl rfl rfl ?_
        refine KL.op (R.extract rfl rfl rfl) rfl rfl rfl ?_
        refine KL.op (R.assign rfl rfl) rfl rfl rfl ?_
        refine KL.op (R.assign rfl rfl) rfl rfl rfl ?_
        refine KL.nil ?_
        refine KQ.seq ?_
        refine KC.seq ?_
        refine KC.region ?_
        refine KL.op (R.move rfl rfl) rfl rfl rfl ?_
        refine KL.op ((R.eql rfl rfl rfl).val (congrArg Value.bool (decide_eq_false (by decide)))) rfl rfl rfl ?_
        refine KL.nil ?_
        refine KQ.seq ?_
        refine KC.condF rfl ?_
        refine KC.skip ?_
        refine KQ.seq ?_
        refine KC.seq ?_
        refine KC.region ?_
        refine KL.op (R.move rfl rfl) rfl rfl rfl ?_
        refine KL.call rfl rfl rfl rfl Try.call9 rfl rfl rfl (TakeExpr_any (hb0.old o0) (by omega)) ?_
        rintro u H3 ⟨ox, hm⟩
        have hR : (∃ e, Isp.exprP (lb.length + 1) [] lb = .error e ∧ u = .tuple #[.slice none 0 0, .int .i64 0, .int .i64 e]) ∨ ∃ ys n c, Isp.exprP (lb.length + 1) [] lb = .ok (ys, n) ∧ u = .tuple #[c, .int .i64 (n : Nat), .int .i64 0] ∧ Sl 5 EIns H3 c ys := by
          cases hq : Isp.exprP (lb.length + 1) [] lb with
          | error e => rw [hq] at hm; exact .inl ⟨e, rfl, hm⟩
          | ok y => rw [hq] at hm; obtain ⟨c, h1, h2⟩ := hm; exact .inr ⟨_, _, c, rfl, h1, h2⟩
        rcases hR with ⟨e, he, rfl⟩ | ⟨ys, n, c3, hok, rfl, e3⟩
        · skip
          have o0 := o0.trans ox
          have hx := hx.old ox
          have hb := hb.old ox
          have zox := ox.1
          have hee := Isp.exprP_err _ _ _ _ he
          refine KL.op (R.move rfl rfl) rfl rfl rfl ?_
          refine KL.op (R.extract rfl rfl rfl) rfl rfl rfl ?_
          refine KL.op (R.extract rfl rfl rfl) rfl rfl rfl ?_
          refine KL.op (R.extract rfl rfl rfl) rfl rfl rfl ?_
          refine KL.op (R.assign rfl rfl) rfl rfl rfl ?_
          refine KL.op (R.assign rfl rfl) rfl rfl rfl ?_
          refine KL.op (R.assign rfl rfl) rfl rfl rfl ?_
          refine KL.nil ?_
          refine KQ.seq ?_
          refine KC.seq ?_
          refine KC.seq ?_
          refine KC.region ?_
          refine KL.op (R.move rfl rfl) rfl rfl rfl ?_
          refine KL.op ((R.neq rfl rfl rfl).val ((congrArg (fun b => Value.bool (!b)) (decide_eq_false (by omega))))) rfl rfl rfl ?_
          refine KL.nil ?_
          refine KQ.seq ?_
          refine KC.condT rfl ?_
          refine KC.seq ?_
          refine KC.region ?_
          refine KL.op (R.move rfl rfl) rfl rfl rfl ?_
          refine KL.op (R.len (ty := 0) rfl Try.underlying22 rfl) rfl rfl rfl ?_
          refine KL.op ((R.eql rfl rfl rfl).val (congrArg Value.bool (decide_eq_true (by rfl)))) rfl rfl rfl ?_
          refine KL.op (R.move rfl rfl) rfl rfl rfl ?_
          refine KL.op (R.move rfl rfl) rfl rfl rfl ?_
          refine KL.op ((R.eql rfl rfl rfl).val (congrArg Value.bool (decide_eq_true (by rfl)))) rfl rfl rfl ?_
          refine KL.op (R.pick rfl rfl rfl) rfl rfl rfl ?_
          refine KL.op (R.move rfl rfl) rfl rfl rfl ?_
          refine KL.op (R.move rfl rfl) rfl rfl rfl ?_
          refine KL.op (R.eql rfl rfl rfl) rfl rfl rfl ?_
          refine KL.op (R.move rfl rfl) rfl rfl rfl ?_
          refine KL.case (d := 75) rfl ?_ ?_
          · intro hg75
            try simp only [decide_eq_true_eq, decide_eq_false_iff_not, Bool.not_eq_true', Bool.not_eq_false', Bool.and_eq_true, Bool.or_eq_false_iff] at hg75
            refine KL.skip rfl rfl rfl ?_
            refine KL.skip rfl rfl rfl ?_
            refine KL.op (R.pick rfl rfl rfl) rfl rfl rfl ?_
            refine KL.op (R.pick rfl rfl rfl) rfl rfl rfl ?_
            refine KL.op (R.assign rfl rfl) rfl rfl rfl ?_
            refine KL.nil ?_
            refine KQ.seq ?_
            refine KC.ret ?_
            refine KQ.retThen ?_
            refine KQ.ofRet ?_
            refine KQ.fin1 Try.results3 rfl ?_
            first
              | exact ⟨rfl, o0⟩
              | exact ⟨congrArg Value.bool (decide_eq_true (by omega)), o0⟩
          · intro hg75
            try simp only [decide_eq_true_eq, decide_eq_false_iff_not, Bool.not_eq_true', Bool.not_eq_false', Bool.and_eq_true, Bool.or_eq_false_iff] at hg75
            refine KL.op (R.move rfl rfl) rfl rfl rfl ?_
            refine KL.op (R.eql rfl rfl rfl) rfl rfl rfl ?_
            refine KL.op (R.pick rfl rfl rfl) rfl rfl rfl ?_
            refine KL.op (R.pick rfl rfl rfl) rfl rfl rfl ?_
            refine KL.op (R.assign rfl rfl) rfl rfl rfl ?_
            refine KL.nil ?_
            refine KQ.seq ?_
            refine KC.ret ?_
            refine KQ.retThen ?_
            refine KQ.ofRet ?_
            refine KQ.fin1 Try.results3 rfl ?_
            first
              | exact ⟨rfl, o0⟩
              | exact ⟨congrArg Value.bool (decide_eq_true (by omega)), o0⟩
        · skip
          have o0 := o0.trans ox
          have hx := hx.old ox
          have hb := hb.old ox
          have zox := ox.1
          obtain ⟨hsM, hsW, hsl, hsn⟩ := Isp.expr_sound _ _ _ _ _ hok
          have hyb := Isp.bulk_flat hsM
          have hyl := Isp.bulk_len ys
          have hH3 : Isp.Has ys := ⟨hsW, hsM⟩
          refine KL.op (R.move rfl rfl) rfl rfl rfl ?_
          refine KL.op (R.extract rfl rfl rfl) rfl rfl rfl ?_
          refine KL.op (R.extract rfl rfl rfl) rfl rfl rfl ?_
          refine KL.op (R.extract rfl rfl rfl) rfl rfl rfl ?_
          refine KL.op (R.assign rfl rfl) rfl rfl rfl ?_
          refine KL.op (R.assign rfl rfl) rfl rfl rfl ?_
          refine KL.op (R.assign rfl rfl) rfl rfl rfl ?_
          refine KL.nil ?_
          refine KQ.seq ?_
          refine KC.seq ?_
          refine KC.seq ?_
          refine KC.region ?_
          refine KL.op (R.move rfl rfl) rfl rfl rfl ?_
          refine KL.op ((R.neq rfl rfl rfl).val ((congrArg (fun b => Value.bool (!b)) (decide_eq_true (by rfl))))) rfl rfl rfl ?_
          refine KL.nil ?_
          refine KQ.seq ?_
          refine KC.condF rfl ?_
          refine KC.skip ?_
          refine KQ.seq ?_
          refine KC.seq ?_
          refine KC.region ?_
          refine KL.op (R.move rfl rfl) rfl rfl rfl ?_
          refine KL.call rfl rfl rfl rfl Try.call8 rfl rfl rfl (AppendExpr_any (va := .slice none 0 0) (la := []) (Sl.nil _ _ _) (by simp) e3 (by omega)) ?_
          rintro u H4 ⟨hR, ox⟩
          rcases hR with ⟨hno3, rfl⟩ | ⟨_, c4, rfl, w4⟩
          · skip
            exact absurd hH3 hno3
          · skip
            have o0 := o0.trans ox
            have hx := hx.old ox
            have hb := hb.old ox
            have e3 := e3.old ox
            have zox := ox.1
            rw [List.nil_append] at w4
            have zw4 := w4.lt
            have s4 := w4.sl (emptyOld _) (by omega)
            have hb3 := Isp.back hH3 []
            rw [List.append_nil] at hb3
            refine KL.op (R.move rfl rfl) rfl rfl rfl ?_
            refine KL.op (R.extract rfl rfl rfl) rfl rfl rfl ?_
            refine KL.op (R.extract rfl rfl rfl) rfl rfl rfl ?_
            refine KL.op (R.assign rfl rfl) rfl rfl rfl ?_
            refine KL.op (R.assign rfl rfl) rfl rfl rfl ?_
            refine KL.nil ?_
            refine KQ.seq ?_
            refine KC.seq ?_
            refine KC.region ?_
            refine KL.op (R.move rfl rfl) rfl rfl rfl ?_
            refine KL.call rfl rfl rfl rfl Try.call9 rfl rfl rfl (TakeExpr_any s4 (by simp only [List.length_append, List.length_nil, List.length_cons] <;> omega)) ?_
            rintro u H5 ⟨ox, hm⟩
            rw [hb3] at hm
            obtain ⟨c5, rfl, e5⟩ := hm
            have zc_H5 := (ox).1
            have o0 := o0.trans ox
            have hx := hx.old ox
            have hb := hb.old ox
            have e3 := e3.old ox
            have s4 := s4.old ox
            refine KL.op (R.move rfl rfl) rfl rfl rfl ?_
            refine KL.op (R.extract rfl rfl rfl) rfl rfl rfl ?_
            refine KL.op (R.extract rfl rfl rfl) rfl rfl rfl ?_
            refine KL.op (R.extract rfl rfl rfl) rfl rfl rfl ?_
            refine KL.op (R.assign rfl rfl) rfl rfl rfl ?_
            refine KL.op (R.assign rfl rfl) rfl rfl rfl ?_
            refine KL.op (R.assign rfl rfl) rfl rfl rfl ?_
            refine KL.nil ?_
            refine KQ.seq ?_
            refine KC.seq ?_
            refine KC.region ?_
            refine KL.op (R.move rfl rfl) rfl rfl rfl ?_
            refine KL.op ((R.eql rfl rfl rfl).val (congrArg Value.bool (decide_eq_true (by rfl)))) rfl rfl rfl ?_
            refine KL.op (R.move rfl rfl) rfl rfl rfl ?_
            refine KL.op (R.move rfl rfl) rfl rfl rfl ?_
            refine KL.op (R.lenS rfl Try.underlying23 rfl s4) rfl rfl rfl ?_
            refine KL.op (R.move rfl rfl) rfl rfl rfl ?_
            refine KL.op ((R.leq rfl rfl rfl).val (congrArg Value.bool (decide_eq_true (by simp only [List.length_append, List.length_cons, List.length_nil] <;> omega)))) rfl rfl rfl ?_
            refine KL.op (R.pick rfl rfl rfl) rfl rfl rfl ?_
            refine KL.op (R.move rfl rfl) rfl rfl rfl ?_
            refine KL.op (R.move rfl rfl) rfl rfl rfl ?_
            refine KL.op ((R.eql rfl rfl rfl).val (congrArg Value.bool (decide_eq_true (by rfl)))) rfl rfl rfl ?_
            refine KL.op (R.pick rfl rfl rfl) rfl rfl rfl ?_
            refine KL.op (R.move rfl rfl) rfl rfl rfl ?_
            refine KL.op (R.move rfl rfl) rfl rfl rfl ?_
            refine KL.op (R.move rfl rfl) rfl rfl rfl ?_
            refine KL.op (R.lenS rfl Try.underlying23 rfl s4) rfl rfl rfl ?_
            refine KL.op ((R.eql rfl rfl rfl).val (congrArg Value.bool (decide_eq_true (by simp only [List.length_append, List.length_cons, List.length_nil] <;> omega)))) rfl rfl rfl ?_
            refine KL.op (R.pick rfl rfl rfl) rfl rfl rfl ?_
            refine KL.op (R.move rfl rfl) rfl rfl rfl ?_
            refine KL.op (R.move rfl rfl) rfl rfl rfl ?_
            refine KL.op (R.move rfl rfl) rfl rfl rfl ?_
            refine KL.call rfl rfl rfl rfl Try.call10 rfl rfl rfl (SameAll_any e5 e3 (by omega)) ?_
            rintro _ H6 ⟨rfl, ox⟩
            rw [decide_eq_true rfl]
            have zc_H6 := (ox).1
            have o0 := o0.trans ox
            have hx := hx.old ox
            have hb := hb.old ox
            have e3 := e3.old ox
            have s4 := s4.old ox
            have e5 := e5.old ox
            refine KL.op (R.pick rfl rfl rfl) rfl rfl rfl ?_
            refine KL.op (R.assign rfl rfl) rfl rfl rfl ?_
            refine KL.nil ?_
            refine KQ.seq ?_
            refine KC.ret ?_
            refine KQ.ofRet ?_
            refine KQ.fin1 Try.results3 rfl ?_
            first
              | exact ⟨rfl, o0⟩
              | exact ⟨congrArg Value.bool (decide_eq_true (by omega)), o0⟩
      · skip
        have o0 := o0.trans ox
        have hx := hx.old ox
        have hb := hb.old ox
        have zox := ox.1
        rw [List.nil_append] at wc
        have zwc := wc.lt
        have sc := wc.sl (emptyOld _) (by omega)
        have hfl := flatC hx0 (by omega)
        refine KL.op (R.move rfl rfl) rfl rfl rfl ?_
        refine KL.op (R.extract rfl rfl rfl) rfl rfl rfl ?_
        refine KL.op (R.extract rfl rfl rfl) rfl rfl rfl ?_
        refine KL.op (R.assign rfl rfl) rfl rfl rfl ?_
        refine KL.op (R.assign rfl rfl) rfl rfl rfl ?_
        refine KL.nil ?_
        refine KQ.seq ?_
        refine KC.seq ?_
        refine KC.region ?_
        refine KL.op (R.move rfl rfl) rfl rfl rfl ?_
        refine KL.op ((R.eql rfl rfl rfl).val (congrArg Value.bool (decide_eq_true (by rfl)))) rfl rfl rfl ?_
        refine KL.nil ?_
        refine KQ.seq ?_
        refine KC.condT rfl ?_
        refine KC.seq ?_
        refine KC.region ?_
        refine KL.opM (M.lit rfl Try.underlying23 zs5 (by decide) rfl rfl rfl) rfl rfl rfl ?_
        rintro _ H7 ⟨rfl, n7⟩
        have z7 := n7.2.1
        have o0 := o0.trans n7.1
        have hx := hx.old n7.1
        have hb := hb.old n7.1
        have sc := sc.old n7.1
        have b7 := n7.2.2
        have hvb : vblock (Value.slice (some ⟨Array.size H2, 0, none⟩) 0 0) = Array.size H2 := rfl
        have wa : Own 1 (EInt .u8) 5 #[] (Array.size H2) H7 _ [] := Own.litI (l := []) n7 (by omega) rfl (by decide) (by intro x hx; cases hx)
        have scP := sc
        have oP : Old H7 H7 := Old.refl _
        have scq := sc
        have hbq := hb
        refine KL.op (R.move rfl rfl) rfl rfl rfl ?_
        have lt8 := wa.lt
        refine KL.opM (M.append rfl Try.underlying23 inf5 rfl (by decide) rfl rfl wa (by exact sc) (fun _ _ h _ => h) (by omega) (by first | omega | (simp only [List.length_append, List.length_nil, List.length_cons]; omega)) (by unfold maxLen; first | omega | (simp only [List.length_append, List.length_nil, List.length_cons]; omega))) rfl rfl rfl ?_
        rintro v36 H8 ⟨w8, g8⟩
        try dsimp only at g8
        have ob8 := g8.oldB wa (by omega)
        have o0 := o0.then ob8 (by omega)
        have z8 := ob8.1
        have wa := w8
        have hb := hb0.old o0
        refine KL.op (R.move rfl rfl) rfl rfl rfl ?_
        have lt9 := wa.lt
        refine KL.opM (M.append rfl Try.underlying23 inf5 rfl (by decide) rfl rfl wa (by exact hb) (fun _ _ h _ => h) (by omega) (by first | omega | (simp only [List.length_append, List.length_nil, List.length_cons]; omega)) (by unfold maxLen; first | omega | (simp only [List.length_append, List.length_nil, List.length_cons]; omega))) rfl rfl rfl ?_
        rintro v38 H9 ⟨w9, g9⟩
        try dsimp only at g9
        have ob9 := g9.oldB wa (by omega)
        have o0 := o0.then ob9 (by omega)
        have z9 := ob9.1
        have wa := w9
        rw [List.nil_append] at wa
        have s38 := wa.sl (emptyOld _) (by omega)
        have hx := hx0.old o0
        have hb := hb0.old o0
        refine KL.call rfl rfl rfl rfl Try.call9 rfl rfl rfl (TakeExpr_any s38 (by simp only [List.length_append, List.length_nil, List.length_cons] <;> omega)) ?_
        rintro u H10 ⟨ox, hm⟩
        rw [Isp.back hH] at hm
        obtain ⟨c2, rfl, e2⟩ := hm
        have zc_H10 := (ox).1
        have o0 := o0.trans ox
        have hx := hx.old ox
        have hb := hb.old ox
        have zzz := o0.1
        refine KL.op (R.move rfl rfl) rfl rfl rfl ?_
        refine KL.op (R.extract rfl rfl rfl) rfl rfl rfl ?_
        refine KL.op (R.extract rfl rfl rfl) rfl rfl rfl ?_
        refine KL.op (R.extract rfl rfl rfl) rfl rfl rfl ?_
        refine KL.op (R.assign rfl rfl) rfl rfl rfl ?_
        refine KL.op (R.assign rfl rfl) rfl rfl rfl ?_
        refine KL.op (R.assign rfl rfl) rfl rfl rfl ?_
        refine KL.nil ?_
        refine KQ.seq ?_
        refine KC.seq ?_
        refine KC.region ?_
        refine KL.op (R.move rfl rfl) rfl rfl rfl ?_
        refine KL.op ((R.neq rfl rfl rfl).val ((congrArg (fun b => Value.bool (!b)) (decide_eq_true (by rfl))))) rfl rfl rfl ?_
        refine KL.op (R.move rfl rfl) rfl rfl rfl ?_
        refine KL.op (R.move rfl rfl) rfl rfl rfl ?_
        refine KL.op (R.move rfl rfl) rfl rfl rfl ?_
        refine KL.op (R.lenS rfl Try.underlying23 rfl sc) rfl rfl rfl ?_
        refine KL.op ((R.neq rfl rfl rfl).val ((congrArg (fun b => Value.bool (!b)) (decide_eq_true (by simp only [List.length_append, List.length_cons, List.length_nil] <;> omega))))) rfl rfl rfl ?_
        refine KL.op (R.pick rfl rfl rfl) rfl rfl rfl ?_
        refine KL.op (R.move rfl rfl) rfl rfl rfl ?_
        refine KL.op (R.move rfl rfl) rfl rfl rfl ?_
        refine KL.op (R.move rfl rfl) rfl rfl rfl ?_
        refine KL.call rfl rfl rfl rfl Try.call10 rfl rfl rfl (SameAll_any hx e2 (by omega)) ?_
        rintro _ H11 ⟨rfl, ox⟩
        rw [decide_eq_true rfl]
        have zc_H11 := (ox).1
        have o0 := o0.trans ox
        have hx := hx.old ox
        have hb := hb.old ox
        have e2 := e2.old ox
        refine KL.op (R.not rfl rfl) rfl rfl rfl ?_
        refine KL.op (R.pick rfl rfl rfl) rfl rfl rfl ?_
        refine KL.nil ?_
        refine KQ.seq ?_
        refine KC.condF rfl ?_
        refine KC.skip ?_
        refine KQ.seq ?_
        refine KC.seq ?_
        refine KC.region ?_
        refine KL.op (R.move rfl rfl) rfl rfl rfl ?_
        refine KL.call rfl rfl rfl rfl Try.call9 rfl rfl rfl (TakeExpr_any (hb0.old o0) (by omega)) ?_
        rintro u H12 ⟨ox, hm⟩
        have hR : (∃ e, Isp.exprP (lb.length + 1) [] lb = .error e ∧ u = .tuple #[.slice none 0 0, .int .i64 0, .int .i64 e]) ∨ ∃ ys n c, Isp.exprP (lb.length + 1) [] lb = .ok (ys, n) ∧ u = .tuple #[c, .int .i64 (n : Nat), .int .i64 0] ∧ Sl 5 EIns H12 c ys := by
          cases hq : Isp.exprP (lb.length + 1) [] lb with
          | error e => rw [hq] at hm; exact .inl ⟨e, rfl, hm⟩
          | ok y => rw [hq] at hm; obtain ⟨c, h1, h2⟩ := hm; exact .inr ⟨_, _, c, rfl, h1, h2⟩
        rcases hR with ⟨e, he, rfl⟩ | ⟨ys, n, c3, hok, rfl, e3⟩
        · skip
          have o0 := o0.trans ox
          have hx := hx.old ox
          have hb := hb.old ox
          have e2 := e2.old ox
          have zox := ox.1
          have hee := Isp.exprP_err _ _ _ _ he
          refine KL.op (R.move rfl rfl) rfl rfl rfl ?_
          refine KL.op (R.extract rfl rfl rfl) rfl rfl rfl ?_
          refine KL.op (R.extract rfl rfl rfl) rfl rfl rfl ?_
          refine KL.op (R.extract rfl rfl rfl) rfl rfl rfl ?_
          refine KL.op (R.assign rfl rfl) rfl rfl rfl ?_
          refine KL.op (R.assign rfl rfl) rfl rfl rfl ?_
          refine KL.op (R.assign rfl rfl) rfl rfl rfl ?_
          refine KL.nil ?_
          refine KQ.seq ?_
          refine KC.seq ?_
          refine KC.seq ?_
          refine KC.region ?_
          refine KL.op (R.move rfl rfl) rfl rfl rfl ?_
          refine KL.op ((R.neq rfl rfl rfl).val ((congrArg (fun b => Value.bool (!b)) (decide_eq_false (by omega))))) rfl rfl rfl ?_
          refine KL.nil ?_
          refine KQ.seq ?_
          refine KC.condT rfl ?_
          refine KC.seq ?_
          refine KC.region ?_
          refine KL.op (R.move rfl rfl) rfl rfl rfl ?_
          refine KL.op (R.len (ty := 0) rfl Try.underlying22 rfl) rfl rfl rfl ?_
          refine KL.op ((R.eql rfl rfl rfl).val (congrArg Value.bool (decide_eq_true (by rfl)))) rfl rfl rfl ?_
          refine KL.op (R.move rfl rfl) rfl rfl rfl ?_
          refine KL.op (R.move rfl rfl) rfl rfl rfl ?_
          refine KL.op ((R.eql rfl rfl rfl).val (congrArg Value.bool (decide_eq_true (by rfl)))) rfl rfl rfl ?_
          refine KL.op (R.pick rfl rfl rfl) rfl rfl rfl ?_
          refine KL.op (R.move rfl rfl) rfl rfl rfl ?_
          refine KL.op (R.move rfl rfl) rfl rfl rfl ?_
          refine KL.op (R.eql rfl rfl rfl) rfl rfl rfl ?_
          refine KL.op (R.move rfl rfl) rfl rfl rfl ?_
          refine KL.case (d := 75) rfl ?_ ?_
          · intro hg75
            try simp only [decide_eq_true_eq, decide_eq_false_iff_not, Bool.not_eq_true', Bool.not_eq_false', Bool.and_eq_true, Bool.or_eq_false_iff] at hg75
            refine KL.skip rfl rfl rfl ?_
            refine KL.skip rfl rfl rfl ?_
            refine KL.op (R.pick rfl rfl rfl) rfl rfl rfl ?_
            refine KL.op (R.pick rfl rfl rfl) rfl rfl rfl ?_
            refine KL.op (R.assign rfl rfl) rfl rfl rfl ?_
            refine KL.nil ?_
            refine KQ.seq ?_
            refine KC.ret ?_
            refine KQ.retThen ?_
            refine KQ.ofRet ?_
            refine KQ.fin1 Try.results3 rfl ?_
            first
              | exact ⟨rfl, o0⟩
              | exact ⟨congrArg Value.bool (decide_eq_true (by omega)), o0⟩
          · intro hg75
            try simp only [decide_eq_true_eq, decide_eq_false_iff_not, Bool.not_eq_true', Bool.not_eq_false', Bool.and_eq_true, Bool.or_eq_false_iff] at hg75
            refine KL.op (R.move rfl rfl) rfl rfl rfl ?_
            refine KL.op (R.eql rfl rfl rfl) rfl rfl rfl ?_
            refine KL.op (R.pick rfl rfl rfl) rfl rfl rfl ?_
            refine KL.op (R.pick rfl rfl rfl) rfl rfl rfl ?_
            refine KL.op (R.assign rfl rfl) rfl rfl rfl ?_
            refine KL.nil ?_
            refine KQ.seq ?_
            refine KC.ret ?_
            refine KQ.retThen ?_
            refine KQ.ofRet ?_
            refine KQ.fin1 Try.results3 rfl ?_
            first
              | exact ⟨rfl, o0⟩
              | exact ⟨congrArg Value.bool (decide_eq_true (by omega)), o0⟩
        · skip
          have o0 := o0.trans ox
          have hx := hx.old ox
          have hb := hb.old ox
          have e2 := e2.old ox
          have zox := ox.1
          obtain ⟨hsM, hsW, hsl, hsn⟩ := Isp.expr_sound _ _ _ _ _ hok
          have hyb := Isp.bulk_flat hsM
          have hyl := Isp.bulk_len ys
          have hH3 : Isp.Has ys := ⟨hsW, hsM⟩
          refine KL.op (R.move rfl rfl) rfl rfl rfl ?_
          refine KL.op (R.extract rfl rfl rfl) rfl rfl rfl ?_
          refine KL.op (R.extract rfl rfl rfl) rfl rfl rfl ?_
          refine KL.op (R.extract rfl rfl rfl) rfl rfl rfl ?_
          refine KL.op (R.assign rfl rfl) rfl rfl rfl ?_
          refine KL.op (R.assign rfl rfl) rfl rfl rfl ?_
          refine KL.op (R.assign rfl rfl) rfl rfl rfl ?_
          refine KL.nil ?_
          refine KQ.seq ?_
          refine KC.seq ?_
          refine KC.seq ?_
          refine KC.region ?_
          refine KL.op (R.move rfl rfl) rfl rfl rfl ?_
          refine KL.op ((R.neq rfl rfl rfl).val ((congrArg (fun b => Value.bool (!b)) (decide_eq_true (by rfl))))) rfl rfl rfl ?_
          refine KL.nil ?_
          refine KQ.seq ?_
          refine KC.condF rfl ?_
          refine KC.skip ?_
          refine KQ.seq ?_
          refine KC.seq ?_
          refine KC.region ?_
          refine KL.op (R.move rfl rfl) rfl rfl rfl ?_
          refine KL.call rfl rfl rfl rfl Try.call8 rfl rfl rfl (AppendExpr_any (va := .slice none 0 0) (la := []) (Sl.nil _ _ _) (by simp) e3 (by omega)) ?_
          rintro u H13 ⟨hR, ox⟩
          rcases hR with ⟨hno3, rfl⟩ | ⟨_, c4, rfl, w4⟩
          · skip
            exact absurd hH3 hno3
          · skip
            have o0 := o0.trans ox
            have hx := hx.old ox
            have hb := hb.old ox
            have e2 := e2.old ox
            have e3 := e3.old ox
            have zox := ox.1
            rw [List.nil_append] at w4
            have zw4 := w4.lt
            have s4 := w4.sl (emptyOld _) (by omega)
            have hb3 := Isp.back hH3 []
            rw [List.append_nil] at hb3
            refine KL.op (R.move rfl rfl) rfl rfl rfl ?_
            refine KL.op (R.extract rfl rfl rfl) rfl rfl rfl ?_
            refine KL.op (R.extract rfl rfl rfl) rfl rfl rfl ?_
            refine KL.op (R.assign rfl rfl) rfl rfl rfl ?_
            refine KL.op (R.assign rfl rfl) rfl rfl rfl ?_
            refine KL.nil ?_
            refine KQ.seq ?_
            refine KC.seq ?_
            refine KC.region ?_
            refine KL.op (R.move rfl rfl) rfl rfl rfl ?_
            refine KL.call rfl rfl rfl rfl Try.call9 rfl rfl rfl (TakeExpr_any s4 (by simp only [List.length_append, List.length_nil, List.length_cons] <;> omega)) ?_
            rintro u H14 ⟨ox, hm⟩
            rw [hb3] at hm
            obtain ⟨c5, rfl, e5⟩ := hm
            have zc_H14 := (ox).1
            have o0 := o0.trans ox
            have hx := hx.old ox
            have hb := hb.old ox
            have e2 := e2.old ox
            have e3 := e3.old ox
            have s4 := s4.old ox
            refine KL.op (R.move rfl rfl) rfl rfl rfl ?_
            refine KL.op (R.extract rfl rfl rfl) rfl rfl rfl ?_
            refine KL.op (R.extract rfl rfl rfl) rfl rfl rfl ?_
            refine KL.op (R.extract rfl rfl rfl) rfl rfl rfl ?_
            refine KL.op (R.assign rfl rfl) rfl rfl rfl ?_
            refine KL.op (R.assign rfl rfl) rfl rfl rfl ?_
            refine KL.op (R.assign rfl rfl) rfl rfl rfl ?_
            refine KL.nil ?_
            refine KQ.seq ?_
            refine KC.seq ?_
            refine KC.region ?_
            refine KL.op (R.move rfl rfl) rfl rfl rfl ?_
            refine KL.op ((R.eql rfl rfl rfl).val (congrArg Value.bool (decide_eq_true (by rfl)))) rfl rfl rfl ?_
            refine KL.op (R.move rfl rfl) rfl rfl rfl ?_
            refine KL.op (R.move rfl rfl) rfl rfl rfl ?_
            refine KL.op (R.lenS rfl Try.underlying23 rfl s4) rfl rfl rfl ?_
            refine KL.op (R.move rfl rfl) rfl rfl rfl ?_
            refine KL.op ((R.leq rfl rfl rfl).val (congrArg Value.bool (decide_eq_true (by simp only [List.length_append, List.length_cons, List.length_nil] <;> omega)))) rfl rfl rfl ?_
            refine KL.op (R.pick rfl rfl rfl) rfl rfl rfl ?_
            refine KL.op (R.move rfl rfl) rfl rfl rfl ?_
            refine KL.op (R.move rfl rfl) rfl rfl rfl ?_
            refine KL.op ((R.eql rfl rfl rfl).val (congrArg Value.bool (decide_eq_true (by rfl)))) rfl rfl rfl ?_
            refine KL.op (R.pick rfl rfl rfl) rfl rfl rfl ?_
            refine KL.op (R.move rfl rfl) rfl rfl rfl ?_
            refine KL.op (R.move rfl rfl) rfl rfl rfl ?_
            refine KL.op (R.move rfl rfl) rfl rfl rfl ?_
            refine KL.op (R.lenS rfl Try.underlying23 rfl s4) rfl rfl rfl ?_
            refine KL.op ((R.eql rfl rfl rfl).val (congrArg Value.bool (decide_eq_true (by simp only [List.length_append, List.length_cons, List.length_nil] <;> omega)))) rfl rfl rfl ?_
            refine KL.op (R.pick rfl rfl rfl) rfl rfl rfl ?_
            refine KL.op (R.move rfl rfl) rfl rfl rfl ?_
            refine KL.op (R.move rfl rfl) rfl rfl rfl ?_
            refine KL.op (R.move rfl rfl) rfl rfl rfl ?_
            refine KL.call rfl rfl rfl rfl Try.call10 rfl rfl rfl (SameAll_any e5 e3 (by omega)) ?_
            rintro _ H15 ⟨rfl, ox⟩
            rw [decide_eq_true rfl]
            have zc_H15 := (ox).1
            have o0 := o0.trans ox
            have hx := hx.old ox
            have hb := hb.old ox
            have e2 := e2.old ox
            have e3 := e3.old ox
            have s4 := s4.old ox
            have e5 := e5.old ox
            refine KL.op (R.pick rfl rfl rfl) rfl rfl rfl ?_
            refine KL.op (R.assign rfl rfl) rfl rfl rfl ?_
            refine KL.nil ?_
            refine KQ.seq ?_
            refine KC.ret ?_
            refine KQ.ofRet ?_
            refine KQ.fin1 Try.results3 rfl ?_
            first
              | exact ⟨rfl, o0⟩
              | exact ⟨congrArg Value.bool (decide_eq_true (by omega)), o0⟩

end Go.Proofs.Ytnjodpgahbpiaaa
