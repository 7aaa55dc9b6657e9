/- Marks of open blocks. No condition but those stated. -/
import Derived.Test.YtnjodpgahbpiaaaInsQ
namespace Go.Proofs.Ytnjodpgahbpiaaa
open Go Go.RowKit
set_option linter.unusedVariables false
set_option linter.unusedSimpArgs false
set_option linter.unnecessarySimpa false

theorem Own.not_nil {α : Type} {n : Nat} {E : El α} {e : TypeId} {H0 H : Heap} {B : Nat} {v : Value} {l : List α} (h : Own n E e H0 B H v l) (hl : 0 < l.length) : v ≠ .slice none 0 0 := by
  rintro rfl
  obtain ⟨a, cap, e, _⟩ := h.val
  injection e with e1 e2
  omega
theorem Own.to_ne {α : Type} {n : Nat} {E : El α} {e : TypeId} {H0 H : Heap} {B j : Nat} {v : Value} {l : List α} (h : Own n E e H0 B H v l) (hv : v ≠ .slice none 0 0) : toV v j ≠ .slice none 0 0 := by
  obtain ⟨a, cap, e, _, _, h3⟩ := h.val
  subst e
  intro e
  simp only [toV, Value.slice.injEq] at e
  obtain ⟨e1, e2, e3⟩ := e
  subst e1
  apply hv
  have := h3 rfl
  obtain ⟨flat, ⟨h0, h1⟩, _⟩ := h
  rcases h1 with ⟨h1, _⟩ | ⟨g, cp, cu, h1, _⟩
  · exact h1
  · injection h1 with h1; cases h1
theorem nx_old {α : Type} {n : Nat} {E : El α} {e : TypeId} {H0 H H1 : Heap} {B : Nat} {v v' : Value} {l : List α} (o : Old H H1) (h : Own n E e H0 B H v l) (nx : Nx H1 v v') : Nx H v v' := by
  rcases nx with k | k | k
  · exact .inl k
  · exact .inr (.inl k)
  · exact .inr (.inr (by have := o.1; omega))

set_option maxRecDepth 100000 in
set_option maxHeartbeats 4000000 in
theorem next_any {H : Heap} {gm B : Nat} {vm : Value} {m : List Int} (hm : H[gm]? = some (.cells [vm].toArray 48 (0, 0))) (wm : Own 1 (EInt .u8) 5 #[] B H vm m) (hgB : gm < B) (op : Int) (hop : InR .u8 op) (hml : m.length ≤ 1000000000000) (hBH : B ≤ H.size) : Ct Try.prog 17 [.pointer (some ⟨gm, 0, none⟩), .int .u8 op] H (fun u H' => (Isp.nx m op = .bad ∧ u = .tuple #[.bool false, .bool true] ∧ Old H H') ∨ (Isp.nx m op = .over ∧ u = .tuple #[.bool true, .bool false] ∧ Old H H') ∨ (∃ m' vm', Isp.nx m op = .go m' ∧ u = .tuple #[.bool false, .bool false] ∧ H'[gm]? = some (.cells [vm'].toArray 48 (0, 0)) ∧ Own 1 (EInt .u8) 5 #[] B H' vm' m' ∧ Fr gm vm H H' ∧ Nx H vm vm' ∧ (vm' = .slice none 0 0 → vm = .slice none 0 0))) := by
  refine Ct.mk Try.func17 rfl Try.ntmps17 rfl ?_
  intro W0 hW0
  have o0 : OldB 0 H H := OldB.refl _ H
  have wm00 := wm
  have hlm := blk_lt hm
  refine KC.seq ?_
  refine KC.region ?_
  refine KL.op (R.assign rfl rfl) rfl rfl rfl ?_
  refine KL.op (R.assign rfl rfl) rfl rfl rfl ?_
  refine KL.nil ?_
  refine KQ.seq ?_
  refine KC.seq ?_
  refine KC.region ?_
  refine KL.op (R.move rfl rfl) rfl rfl rfl ?_
  refine KL.op (R.nilCheck rfl rfl) rfl rfl rfl ?_
  refine KL.op (R.load rfl Try.underlying48 rfl rfl (by first | exact cell_of hm rfl | assumption)) rfl rfl rfl ?_
  refine KL.op (R.assign rfl rfl) rfl rfl rfl ?_
  refine KL.nil ?_
  refine KQ.seq ?_
  refine KC.seq ?_
  refine KC.region ?_
  refine KL.op (R.move rfl rfl) rfl rfl rfl ?_
  refine KL.op (R.lenO rfl Try.underlying48 rfl wm) rfl rfl rfl ?_
  refine KL.op (R.sub rfl rfl rfl (by dsimp only [InR]; omega)) rfl rfl rfl ?_
  refine KL.op (R.assign rfl rfl) rfl rfl rfl ?_
  refine KL.nil ?_
  refine KQ.seq ?_
  refine KC.seq ?_
  refine KC.seq ?_
  refine KC.region ?_
  refine KL.op (R.move rfl rfl) rfl rfl rfl ?_
  refine KL.nil ?_
  refine KQ.seq ?_
  refine KC.block ?_
  refine KC.seq ?_
  refine KC.seq ?_
  refine KC.region ?_
  refine KL.op (R.eql rfl rfl rfl) rfl rfl rfl ?_
  refine KL.op (R.assign rfl rfl) rfl rfl rfl ?_
  refine KL.nil ?_
  refine KQ.seq ?_
  refine KC.iteL rfl ?_ ?_
  · intro hc15
    try simp only [decide_eq_true_eq, decide_eq_false_iff_not, Bool.not_eq_true', Bool.not_eq_false', Bool.and_eq_true, Bool.or_eq_false_iff] at hc15
    refine KC.skip ?_
    refine KQ.seq ?_
    refine KC.condT rfl ?_
    refine KC.region ?_
    refine KL.op (R.move rfl rfl) rfl rfl rfl ?_
    refine KL.op (R.move rfl rfl) rfl rfl rfl ?_
    refine KL.op (R.move rfl rfl) rfl rfl rfl ?_
    refine KL.opM (M.lit rfl Try.underlying48 zs5 (by decide) rfl rfl rfl) rfl rfl rfl ?_
    rintro _ H1 ⟨rfl, n1⟩
    have z1 := n1.2.1
    have o0 := o0.trans ((n1.1).b (by omega))
    have hm := (n1.1).blk hm
    have wm := wm.old n1.1
    have b1 := n1.2.2
    have h1 : Sl 1 (EInt .u8) H1 _ [op] := Sl.lits (l := [op]) n1 rfl (by simp) (by intro y hy; simp only [List.mem_cons, List.not_mem_nil, or_false] at hy; subst hy; exact hop)
    have nb := n1
    have o1 : Old H H1 := nb.1
    have wm0 : Own 1 (EInt .u8) 5 #[] B H vm m := wm00
    have lt2 := wm.lt
    refine KL.opM (M.appendN rfl Try.underlying48 inf5 rfl (by decide) rfl rfl wm (by exact h1) (fun _ _ h _ => h) (by omega) (by simp; omega) (by unfold maxLen; simp; omega)) rfl rfl rfl ?_
    rintro vn H2 ⟨w2, g2, nx2⟩
    try dsimp only at g2 nx2
    have ob2 := g2.oldB wm (by omega)
    have o0 := o0.trans (ob2.mono (by omega))
    have z2 := ob2.1
    have hm := (g2.2 _ (blk_lt hm) (by first | exact .inr (by omega) | exact .inl rfl | exact lt2.imp id (fun h => by omega))).trans hm
    have wm := w2
    have frA : Fr gm vm H H2 := ((Fr.ofOld o1).trans (Nx.refl _ _) ((Fr.refl gm vm _).grown (Nx.refl _ _) g2))
    have nxA : Nx H vm vn := nx_old o1 wm0 nx2
    have hne : vn = .slice none 0 0 → vm = .slice none 0 0 := fun e => absurd (Own.not_nil wm (by simp)) (fun k => k e)
    refine KL.op (R.nilCheck rfl rfl) rfl rfl rfl ?_
    refine KL.opS (S.store rfl sz48 rfl rfl wm.cells1 wm.one hm (by simp)) rfl rfl ?_
    rintro H3 ⟨u3, b3⟩
    have o0 := o0.trans (OldB.upd u3 (by omega))
    have zu3 := u3.1
    have wm := wm.upd u3 (by first | exact .inl rfl | exact .inr (by omega) | exact wm.lt.imp id (fun h => by omega))
    have hm := b3
    have fr := frA.upd u3
    refine KL.nil ?_
    refine KQ.normBlock ?_
    refine KQ.seq ?_
    refine KC.seq ?_
    refine KC.region ?_
    refine KL.op (R.assign rfl rfl) rfl rfl rfl ?_
    refine KL.op (R.assign rfl rfl) rfl rfl rfl ?_
    refine KL.nil ?_
    refine KQ.seq ?_
    refine KC.ret ?_
    refine KQ.ofRet ?_
    refine KQ.fin2 Try.results17 rfl rfl ?_
    first
      | exact .inr (.inr ⟨_, _, by unfold Isp.nx; rw [if_pos (by first | exact .inl hc15 | exact .inr (.inl hc15) | exact .inr (.inr hc15))], rfl, hm, wm, fr, nxA, hne⟩)
      | exact .inl ⟨by unfold Isp.nx; rw [if_neg (by omega), if_pos hc25, if_pos (by first | exact .inl (List.eq_nil_of_length_eq_zero (by omega)) | exact .inr (by assumption))], rfl, Old.refl _⟩
      | exact .inr (.inr ⟨_, vm, by unfold Isp.nx; rw [if_neg (by omega), if_pos hc25, if_neg (fun h => h.elim (fun e => absurd (congrArg List.length e) (by simp only [List.length_nil]; omega)) (fun e => e (by assumption)))], rfl, hm, wm, fr, Nx.refl _ _, id⟩)
      | exact .inr (.inl ⟨by unfold Isp.nx; rw [if_neg (by omega), if_neg (by omega), if_pos hc39, if_pos (List.eq_nil_of_length_eq_zero (by omega))], rfl, Old.refl _⟩)
      | exact .inr (.inr ⟨_, _, by unfold Isp.nx; rw [if_neg (by omega), if_neg (by omega), if_pos hc39, if_neg (by rintro e; subst e; simp at *)], rfl, hm, wt, fr, .inr (.inl ⟨hnn, wtb⟩), fun e => absurd e (Own.to_ne wm00 hnn)⟩)
      | exact .inr (.inr ⟨_, vm, by unfold Isp.nx; rw [if_neg (by omega), if_neg (by omega), if_neg (by omega)], rfl, hm, wm, Fr.refl _ _ _, Nx.refl _ _, id⟩)
  · intro hc15
    try simp only [decide_eq_true_eq, decide_eq_false_iff_not, Bool.not_eq_true', Bool.not_eq_false', Bool.and_eq_true, Bool.or_eq_false_iff] at hc15
    refine KC.seq ?_
    refine KC.region ?_
    refine KL.op (R.eql rfl rfl rfl) rfl rfl rfl ?_
    refine KL.op (R.assign rfl rfl) rfl rfl rfl ?_
    refine KL.nil ?_
    refine KQ.seq ?_
    refine KC.iteL rfl ?_ ?_
    · intro hc15
      try simp only [decide_eq_true_eq, decide_eq_false_iff_not, Bool.not_eq_true', Bool.not_eq_false', Bool.and_eq_true, Bool.or_eq_false_iff] at hc15
      refine KC.skip ?_
      refine KQ.seq ?_
      refine KC.condT rfl ?_
      refine KC.region ?_
      refine KL.op (R.move rfl rfl) rfl rfl rfl ?_
      refine KL.op (R.move rfl rfl) rfl rfl rfl ?_
      refine KL.op (R.move rfl rfl) rfl rfl rfl ?_
      refine KL.opM (M.lit rfl Try.underlying48 zs5 (by decide) rfl rfl rfl) rfl rfl rfl ?_
      rintro _ H4 ⟨rfl, n4⟩
      have z4 := n4.2.1
      have o0 := o0.trans ((n4.1).b (by omega))
      have hm := (n4.1).blk hm
      have wm := wm.old n4.1
      have b4 := n4.2.2
      have h1 : Sl 1 (EInt .u8) H4 _ [op] := Sl.lits (l := [op]) n4 rfl (by simp) (by intro y hy; simp only [List.mem_cons, List.not_mem_nil, or_false] at hy; subst hy; exact hop)
      have nb := n4
      have o1 : Old H H4 := nb.1
      have wm0 : Own 1 (EInt .u8) 5 #[] B H vm m := wm00
      have lt5 := wm.lt
      refine KL.opM (M.appendN rfl Try.underlying48 inf5 rfl (by decide) rfl rfl wm (by exact h1) (fun _ _ h _ => h) (by omega) (by simp; omega) (by unfold maxLen; simp; omega)) rfl rfl rfl ?_
      rintro vn H5 ⟨w5, g5, nx5⟩
      try dsimp only at g5 nx5
      have ob5 := g5.oldB wm (by omega)
      have o0 := o0.trans (ob5.mono (by omega))
      have z5 := ob5.1
      have hm := (g5.2 _ (blk_lt hm) (by first | exact .inr (by omega) | exact .inl rfl | exact lt5.imp id (fun h => by omega))).trans hm
      have wm := w5
      have frA : Fr gm vm H H5 := ((Fr.ofOld o1).trans (Nx.refl _ _) ((Fr.refl gm vm _).grown (Nx.refl _ _) g5))
      have nxA : Nx H vm vn := nx_old o1 wm0 nx5
      have hne : vn = .slice none 0 0 → vm = .slice none 0 0 := fun e => absurd (Own.not_nil wm (by simp)) (fun k => k e)
      refine KL.op (R.nilCheck rfl rfl) rfl rfl rfl ?_
      refine KL.opS (S.store rfl sz48 rfl rfl wm.cells1 wm.one hm (by simp)) rfl rfl ?_
      rintro H6 ⟨u6, b6⟩
      have o0 := o0.trans (OldB.upd u6 (by omega))
      have zu6 := u6.1
      have wm := wm.upd u6 (by first | exact .inl rfl | exact .inr (by omega) | exact wm.lt.imp id (fun h => by omega))
      have hm := b6
      have fr := frA.upd u6
      refine KL.nil ?_
      refine KQ.normBlock ?_
      refine KQ.seq ?_
      refine KC.seq ?_
      refine KC.region ?_
      refine KL.op (R.assign rfl rfl) rfl rfl rfl ?_
      refine KL.op (R.assign rfl rfl) rfl rfl rfl ?_
      refine KL.nil ?_
      refine KQ.seq ?_
      refine KC.ret ?_
      refine KQ.ofRet ?_
      refine KQ.fin2 Try.results17 rfl rfl ?_
      first
        | exact .inr (.inr ⟨_, _, by unfold Isp.nx; rw [if_pos (by first | exact .inl hc15 | exact .inr (.inl hc15) | exact .inr (.inr hc15))], rfl, hm, wm, fr, nxA, hne⟩)
        | exact .inl ⟨by unfold Isp.nx; rw [if_neg (by omega), if_pos hc25, if_pos (by first | exact .inl (List.eq_nil_of_length_eq_zero (by omega)) | exact .inr (by assumption))], rfl, Old.refl _⟩
        | exact .inr (.inr ⟨_, vm, by unfold Isp.nx; rw [if_neg (by omega), if_pos hc25, if_neg (fun h => h.elim (fun e => absurd (congrArg List.length e) (by simp only [List.length_nil]; omega)) (fun e => e (by assumption)))], rfl, hm, wm, fr, Nx.refl _ _, id⟩)
        | exact .inr (.inl ⟨by unfold Isp.nx; rw [if_neg (by omega), if_neg (by omega), if_pos hc39, if_pos (List.eq_nil_of_length_eq_zero (by omega))], rfl, Old.refl _⟩)
        | exact .inr (.inr ⟨_, _, by unfold Isp.nx; rw [if_neg (by omega), if_neg (by omega), if_pos hc39, if_neg (by rintro e; subst e; simp at *)], rfl, hm, wt, fr, .inr (.inl ⟨hnn, wtb⟩), fun e => absurd e (Own.to_ne wm00 hnn)⟩)
        | exact .inr (.inr ⟨_, vm, by unfold Isp.nx; rw [if_neg (by omega), if_neg (by omega), if_neg (by omega)], rfl, hm, wm, Fr.refl _ _ _, Nx.refl _ _, id⟩)
    · intro hc15
      try simp only [decide_eq_true_eq, decide_eq_false_iff_not, Bool.not_eq_true', Bool.not_eq_false', Bool.and_eq_true, Bool.or_eq_false_iff] at hc15
      refine KC.region ?_
      refine KL.op (R.eql rfl rfl rfl) rfl rfl rfl ?_
      refine KL.op (R.assign rfl rfl) rfl rfl rfl ?_
      refine KL.nil ?_
      refine KQ.seq ?_
      refine KC.iteL rfl ?_ ?_
      · intro hc15
        try simp only [decide_eq_true_eq, decide_eq_false_iff_not, Bool.not_eq_true', Bool.not_eq_false', Bool.and_eq_true, Bool.or_eq_false_iff] at hc15
        refine KC.region ?_
        refine KL.op (R.move rfl rfl) rfl rfl rfl ?_
        refine KL.op (R.move rfl rfl) rfl rfl rfl ?_
        refine KL.op (R.move rfl rfl) rfl rfl rfl ?_
        refine KL.opM (M.lit rfl Try.underlying48 zs5 (by decide) rfl rfl rfl) rfl rfl rfl ?_
        rintro _ H7 ⟨rfl, n7⟩
        have z7 := n7.2.1
        have o0 := o0.trans ((n7.1).b (by omega))
        have hm := (n7.1).blk hm
        have wm := wm.old n7.1
        have b7 := n7.2.2
        have h1 : Sl 1 (EInt .u8) H7 _ [op] := Sl.lits (l := [op]) n7 rfl (by simp) (by intro y hy; simp only [List.mem_cons, List.not_mem_nil, or_false] at hy; subst hy; exact hop)
        have nb := n7
        have o1 : Old H H7 := nb.1
        have wm0 : Own 1 (EInt .u8) 5 #[] B H vm m := wm00
        have lt8 := wm.lt
        refine KL.opM (M.appendN rfl Try.underlying48 inf5 rfl (by decide) rfl rfl wm (by exact h1) (fun _ _ h _ => h) (by omega) (by simp; omega) (by unfold maxLen; simp; omega)) rfl rfl rfl ?_
        rintro vn H8 ⟨w8, g8, nx8⟩
        try dsimp only at g8 nx8
        have ob8 := g8.oldB wm (by omega)
        have o0 := o0.trans (ob8.mono (by omega))
        have z8 := ob8.1
        have hm := (g8.2 _ (blk_lt hm) (by first | exact .inr (by omega) | exact .inl rfl | exact lt8.imp id (fun h => by omega))).trans hm
        have wm := w8
        have frA : Fr gm vm H H8 := ((Fr.ofOld o1).trans (Nx.refl _ _) ((Fr.refl gm vm _).grown (Nx.refl _ _) g8))
        have nxA : Nx H vm vn := nx_old o1 wm0 nx8
        have hne : vn = .slice none 0 0 → vm = .slice none 0 0 := fun e => absurd (Own.not_nil wm (by simp)) (fun k => k e)
        refine KL.op (R.nilCheck rfl rfl) rfl rfl rfl ?_
        refine KL.opS (S.store rfl sz48 rfl rfl wm.cells1 wm.one hm (by simp)) rfl rfl ?_
        rintro H9 ⟨u9, b9⟩
        have o0 := o0.trans (OldB.upd u9 (by omega))
        have zu9 := u9.1
        have wm := wm.upd u9 (by first | exact .inl rfl | exact .inr (by omega) | exact wm.lt.imp id (fun h => by omega))
        have hm := b9
        have fr := frA.upd u9
        refine KL.nil ?_
        refine KQ.normBlock ?_
        refine KQ.seq ?_
        refine KC.seq ?_
        refine KC.region ?_
        refine KL.op (R.assign rfl rfl) rfl rfl rfl ?_
        refine KL.op (R.assign rfl rfl) rfl rfl rfl ?_
        refine KL.nil ?_
        refine KQ.seq ?_
        refine KC.ret ?_
        refine KQ.ofRet ?_
        refine KQ.fin2 Try.results17 rfl rfl ?_
        first
          | exact .inr (.inr ⟨_, _, by unfold Isp.nx; rw [if_pos (by first | exact .inl hc15 | exact .inr (.inl hc15) | exact .inr (.inr hc15))], rfl, hm, wm, fr, nxA, hne⟩)
          | exact .inl ⟨by unfold Isp.nx; rw [if_neg (by omega), if_pos hc25, if_pos (by first | exact .inl (List.eq_nil_of_length_eq_zero (by omega)) | exact .inr (by assumption))], rfl, Old.refl _⟩
          | exact .inr (.inr ⟨_, vm, by unfold Isp.nx; rw [if_neg (by omega), if_pos hc25, if_neg (fun h => h.elim (fun e => absurd (congrArg List.length e) (by simp only [List.length_nil]; omega)) (fun e => e (by assumption)))], rfl, hm, wm, fr, Nx.refl _ _, id⟩)
          | exact .inr (.inl ⟨by unfold Isp.nx; rw [if_neg (by omega), if_neg (by omega), if_pos hc39, if_pos (List.eq_nil_of_length_eq_zero (by omega))], rfl, Old.refl _⟩)
          | exact .inr (.inr ⟨_, _, by unfold Isp.nx; rw [if_neg (by omega), if_neg (by omega), if_pos hc39, if_neg (by rintro e; subst e; simp at *)], rfl, hm, wt, fr, .inr (.inl ⟨hnn, wtb⟩), fun e => absurd e (Own.to_ne wm00 hnn)⟩)
          | exact .inr (.inr ⟨_, vm, by unfold Isp.nx; rw [if_neg (by omega), if_neg (by omega), if_neg (by omega)], rfl, hm, wm, Fr.refl _ _ _, Nx.refl _ _, id⟩)
      · intro hc15
        try simp only [decide_eq_true_eq, decide_eq_false_iff_not, Bool.not_eq_true', Bool.not_eq_false', Bool.and_eq_true, Bool.or_eq_false_iff] at hc15
        refine KC.seq ?_
        refine KC.region ?_
        refine KL.op (R.eql rfl rfl rfl) rfl rfl rfl ?_
        refine KL.op (R.assign rfl rfl) rfl rfl rfl ?_
        refine KL.nil ?_
        refine KQ.seq ?_
        refine KC.iteL rfl ?_ ?_
        · intro hc25
          try simp only [decide_eq_true_eq, decide_eq_false_iff_not, Bool.not_eq_true', Bool.not_eq_false', Bool.and_eq_true, Bool.or_eq_false_iff] at hc25
          refine KC.seq ?_
          refine KC.seq ?_
          refine KC.region ?_
          refine KL.op (R.move rfl rfl) rfl rfl rfl ?_
          refine KL.op (R.lss rfl rfl rfl) rfl rfl rfl ?_
          refine KL.op (R.move rfl rfl) rfl rfl rfl ?_
          refine KL.case (d := 29) rfl ?_ ?_
          · intro hg29
            try simp only [decide_eq_true_eq, decide_eq_false_iff_not, Bool.not_eq_true', Bool.not_eq_false', Bool.and_eq_true, Bool.or_eq_false_iff] at hg29
            refine KL.skip rfl rfl rfl ?_
            refine KL.skip rfl rfl rfl ?_
            refine KL.skip rfl rfl rfl ?_
            refine KL.skip rfl rfl rfl ?_
            refine KL.skip rfl rfl rfl ?_
            refine KL.op (R.pick rfl rfl rfl) rfl rfl rfl ?_
            refine KL.nil ?_
            refine KQ.seq ?_
            refine KC.condT rfl ?_
            refine KC.seq ?_
            refine KC.region ?_
            refine KL.op (R.assign rfl rfl) rfl rfl rfl ?_
            refine KL.op (R.assign rfl rfl) rfl rfl rfl ?_
            refine KL.nil ?_
            refine KQ.seq ?_
            refine KC.ret ?_
            refine KQ.retThen ?_
            refine KQ.retBlock ?_
            refine KQ.retThen ?_
            refine KQ.ofRet ?_
            refine KQ.fin2 Try.results17 rfl rfl ?_
            first
              | exact .inr (.inr ⟨_, _, by unfold Isp.nx; rw [if_pos (by first | exact .inl hc15 | exact .inr (.inl hc15) | exact .inr (.inr hc15))], rfl, hm, wm, fr, nxA, hne⟩)
              | exact .inl ⟨by unfold Isp.nx; rw [if_neg (by omega), if_pos hc25, if_pos (by first | exact .inl (List.eq_nil_of_length_eq_zero (by omega)) | exact .inr (by assumption))], rfl, Old.refl _⟩
              | exact .inr (.inr ⟨_, vm, by unfold Isp.nx; rw [if_neg (by omega), if_pos hc25, if_neg (fun h => h.elim (fun e => absurd (congrArg List.length e) (by simp only [List.length_nil]; omega)) (fun e => e (by assumption)))], rfl, hm, wm, fr, Nx.refl _ _, id⟩)
              | exact .inr (.inl ⟨by unfold Isp.nx; rw [if_neg (by omega), if_neg (by omega), if_pos hc39, if_pos (List.eq_nil_of_length_eq_zero (by omega))], rfl, Old.refl _⟩)
              | exact .inr (.inr ⟨_, _, by unfold Isp.nx; rw [if_neg (by omega), if_neg (by omega), if_pos hc39, if_neg (by rintro e; subst e; simp at *)], rfl, hm, wt, fr, .inr (.inl ⟨hnn, wtb⟩), fun e => absurd e (Own.to_ne wm00 hnn)⟩)
              | exact .inr (.inr ⟨_, vm, by unfold Isp.nx; rw [if_neg (by omega), if_neg (by omega), if_neg (by omega)], rfl, hm, wm, Fr.refl _ _ _, Nx.refl _ _, id⟩)
          · intro hg29
            try simp only [decide_eq_true_eq, decide_eq_false_iff_not, Bool.not_eq_true', Bool.not_eq_false', Bool.and_eq_true, Bool.or_eq_false_iff] at hg29
            refine KL.op (R.move rfl rfl) rfl rfl rfl ?_
            refine KL.op (R.move rfl rfl) rfl rfl rfl ?_
            refine KL.op (R.indexO1 (j := m.length - 1) rfl Try.underlying48 sz5 rfl rfl wm (by omega) (by omega)) rfl rfl rfl ?_
            refine KL.op (R.load rfl Try.underlying5 rfl rfl (wm.int (m.length - 1) (by omega)).1) rfl rfl rfl ?_
            refine KL.op (R.neq rfl rfl rfl) rfl rfl rfl ?_
            refine KL.op (R.pick rfl rfl rfl) rfl rfl rfl ?_
            refine KL.nil ?_
            refine KQ.seq ?_
            refine KC.iteL rfl ?_ ?_
            · intro hc35
              try simp only [decide_eq_true_eq, decide_eq_false_iff_not, Bool.not_eq_true', Bool.not_eq_false', Bool.and_eq_true, Bool.or_eq_false_iff] at hc35
              refine KC.seq ?_
              refine KC.region ?_
              refine KL.op (R.assign rfl rfl) rfl rfl rfl ?_
              refine KL.op (R.assign rfl rfl) rfl rfl rfl ?_
              refine KL.nil ?_
              refine KQ.seq ?_
              refine KC.ret ?_
              refine KQ.retThen ?_
              refine KQ.retBlock ?_
              refine KQ.retThen ?_
              refine KQ.ofRet ?_
              refine KQ.fin2 Try.results17 rfl rfl ?_
              first
                | exact .inr (.inr ⟨_, _, by unfold Isp.nx; rw [if_pos (by first | exact .inl hc15 | exact .inr (.inl hc15) | exact .inr (.inr hc15))], rfl, hm, wm, fr, nxA, hne⟩)
                | exact .inl ⟨by unfold Isp.nx; rw [if_neg (by omega), if_pos hc25, if_pos (by first | exact .inl (List.eq_nil_of_length_eq_zero (by omega)) | exact .inr (by assumption))], rfl, Old.refl _⟩
                | exact .inr (.inr ⟨_, vm, by unfold Isp.nx; rw [if_neg (by omega), if_pos hc25, if_neg (fun h => h.elim (fun e => absurd (congrArg List.length e) (by simp only [List.length_nil]; omega)) (fun e => e (by assumption)))], rfl, hm, wm, fr, Nx.refl _ _, id⟩)
                | exact .inr (.inl ⟨by unfold Isp.nx; rw [if_neg (by omega), if_neg (by omega), if_pos hc39, if_pos (List.eq_nil_of_length_eq_zero (by omega))], rfl, Old.refl _⟩)
                | exact .inr (.inr ⟨_, _, by unfold Isp.nx; rw [if_neg (by omega), if_neg (by omega), if_pos hc39, if_neg (by rintro e; subst e; simp at *)], rfl, hm, wt, fr, .inr (.inl ⟨hnn, wtb⟩), fun e => absurd e (Own.to_ne wm00 hnn)⟩)
                | exact .inr (.inr ⟨_, vm, by unfold Isp.nx; rw [if_neg (by omega), if_neg (by omega), if_neg (by omega)], rfl, hm, wm, Fr.refl _ _ _, Nx.refl _ _, id⟩)
            · intro hc35
              try simp only [decide_eq_true_eq, decide_eq_false_iff_not, Bool.not_eq_true', Bool.not_eq_false', Bool.and_eq_true, Bool.or_eq_false_iff] at hc35
              refine KC.skip ?_
              refine KQ.seq ?_
              refine KC.region ?_
              refine KL.op (R.move rfl rfl) rfl rfl rfl ?_
              refine KL.op (R.move rfl rfl) rfl rfl rfl ?_
              refine KL.op (R.indexO1 (j := m.length - 1) rfl Try.underlying48 sz5 rfl rfl wm (by omega) (by omega)) rfl rfl rfl ?_
              have hvb := wm00.lt.resolve_left (Own.not_nil wm00 (by omega))
              refine KL.opS (S.own1 rfl sz5 rfl rfl rfl rfl wm (by omega) ⟨rfl, by decide⟩) rfl rfl ?_
              rintro H10 ⟨u10, w10⟩
              have o0 := o0.trans (OldB.upd u10 (by omega))
              have zu10 := u10.1
              have hm := ((u10).2 _ (by omega)).trans hm
              have wm := w10
              have fr : Fr gm vm H H10 := Fr.ofUpd (by rintro rfl; have := wm00.val; obtain ⟨a, cap, e, _⟩ := this; injection e with e1 e2; omega) u10
              rw [Isp.set_last (by omega)] at wm
              refine KL.nil ?_
              refine KQ.normBlock ?_
              refine KQ.seq ?_
              refine KC.seq ?_
              refine KC.region ?_
              refine KL.op (R.assign rfl rfl) rfl rfl rfl ?_
              refine KL.op (R.assign rfl rfl) rfl rfl rfl ?_
              refine KL.nil ?_
              refine KQ.seq ?_
              refine KC.ret ?_
              refine KQ.ofRet ?_
              refine KQ.fin2 Try.results17 rfl rfl ?_
              first
                | exact .inr (.inr ⟨_, _, by unfold Isp.nx; rw [if_pos (by first | exact .inl hc15 | exact .inr (.inl hc15) | exact .inr (.inr hc15))], rfl, hm, wm, fr, nxA, hne⟩)
                | exact .inl ⟨by unfold Isp.nx; rw [if_neg (by omega), if_pos hc25, if_pos (by first | exact .inl (List.eq_nil_of_length_eq_zero (by omega)) | exact .inr (by assumption))], rfl, Old.refl _⟩
                | exact .inr (.inr ⟨_, vm, by unfold Isp.nx; rw [if_neg (by omega), if_pos hc25, if_neg (fun h => h.elim (fun e => absurd (congrArg List.length e) (by simp only [List.length_nil]; omega)) (fun e => e (by assumption)))], rfl, hm, wm, fr, Nx.refl _ _, id⟩)
                | exact .inr (.inl ⟨by unfold Isp.nx; rw [if_neg (by omega), if_neg (by omega), if_pos hc39, if_pos (List.eq_nil_of_length_eq_zero (by omega))], rfl, Old.refl _⟩)
                | exact .inr (.inr ⟨_, _, by unfold Isp.nx; rw [if_neg (by omega), if_neg (by omega), if_pos hc39, if_neg (by rintro e; subst e; simp at *)], rfl, hm, wt, fr, .inr (.inl ⟨hnn, wtb⟩), fun e => absurd e (Own.to_ne wm00 hnn)⟩)
                | exact .inr (.inr ⟨_, vm, by unfold Isp.nx; rw [if_neg (by omega), if_neg (by omega), if_neg (by omega)], rfl, hm, wm, Fr.refl _ _ _, Nx.refl _ _, id⟩)
        · intro hc25
          try simp only [decide_eq_true_eq, decide_eq_false_iff_not, Bool.not_eq_true', Bool.not_eq_false', Bool.and_eq_true, Bool.or_eq_false_iff] at hc25
          refine KC.seq ?_
          refine KC.region ?_
          refine KL.op (R.eql rfl rfl rfl) rfl rfl rfl ?_
          refine KL.op (R.assign rfl rfl) rfl rfl rfl ?_
          refine KL.nil ?_
          refine KQ.seq ?_
          refine KC.iteL rfl ?_ ?_
          · intro hc39
            try simp only [decide_eq_true_eq, decide_eq_false_iff_not, Bool.not_eq_true', Bool.not_eq_false', Bool.and_eq_true, Bool.or_eq_false_iff] at hc39
            refine KC.seq ?_
            refine KC.seq ?_
            refine KC.region ?_
            refine KL.op (R.move rfl rfl) rfl rfl rfl ?_
            refine KL.op (R.lss rfl rfl rfl) rfl rfl rfl ?_
            refine KL.nil ?_
            refine KQ.seq ?_
            refine KC.iteL rfl ?_ ?_
            · intro hc42
              try simp only [decide_eq_true_eq, decide_eq_false_iff_not, Bool.not_eq_true', Bool.not_eq_false', Bool.and_eq_true, Bool.or_eq_false_iff] at hc42
              refine KC.seq ?_
              refine KC.region ?_
              refine KL.op (R.assign rfl rfl) rfl rfl rfl ?_
              refine KL.op (R.assign rfl rfl) rfl rfl rfl ?_
              refine KL.nil ?_
              refine KQ.seq ?_
              refine KC.ret ?_
              refine KQ.retThen ?_
              refine KQ.retBlock ?_
              refine KQ.retThen ?_
              refine KQ.ofRet ?_
              refine KQ.fin2 Try.results17 rfl rfl ?_
              first
                | exact .inr (.inr ⟨_, _, by unfold Isp.nx; rw [if_pos (by first | exact .inl hc15 | exact .inr (.inl hc15) | exact .inr (.inr hc15))], rfl, hm, wm, fr, nxA, hne⟩)
                | exact .inl ⟨by unfold Isp.nx; rw [if_neg (by omega), if_pos hc25, if_pos (by first | exact .inl (List.eq_nil_of_length_eq_zero (by omega)) | exact .inr (by assumption))], rfl, Old.refl _⟩
                | exact .inr (.inr ⟨_, vm, by unfold Isp.nx; rw [if_neg (by omega), if_pos hc25, if_neg (fun h => h.elim (fun e => absurd (congrArg List.length e) (by simp only [List.length_nil]; omega)) (fun e => e (by assumption)))], rfl, hm, wm, fr, Nx.refl _ _, id⟩)
                | exact .inr (.inl ⟨by unfold Isp.nx; rw [if_neg (by omega), if_neg (by omega), if_pos hc39, if_pos (List.eq_nil_of_length_eq_zero (by omega))], rfl, Old.refl _⟩)
                | exact .inr (.inr ⟨_, _, by unfold Isp.nx; rw [if_neg (by omega), if_neg (by omega), if_pos hc39, if_neg (by rintro e; subst e; simp at *)], rfl, hm, wt, fr, .inr (.inl ⟨hnn, wtb⟩), fun e => absurd e (Own.to_ne wm00 hnn)⟩)
                | exact .inr (.inr ⟨_, vm, by unfold Isp.nx; rw [if_neg (by omega), if_neg (by omega), if_neg (by omega)], rfl, hm, wm, Fr.refl _ _ _, Nx.refl _ _, id⟩)
            · intro hc42
              try simp only [decide_eq_true_eq, decide_eq_false_iff_not, Bool.not_eq_true', Bool.not_eq_false', Bool.and_eq_true, Bool.or_eq_false_iff] at hc42
              refine KC.skip ?_
              refine KQ.seq ?_
              refine KC.region ?_
              refine KL.op (R.move rfl rfl) rfl rfl rfl ?_
              refine KL.op (R.move rfl rfl) rfl rfl rfl ?_
              refine KL.op (R.move rfl rfl) rfl rfl rfl ?_
              refine KL.op (R.sliceTo (j := m.length - 1) rfl Try.underlying48 sz5 rfl rfl wm (by omega) (by omega)) rfl rfl rfl ?_
              refine KL.op (R.nilCheck rfl rfl) rfl rfl rfl ?_
              have wt := (wm.to (j := m.length - 1) (by omega)).1
              have wtb := (wm.to (j := m.length - 1) (by omega)).2
              refine KL.opS (S.store rfl sz48 rfl rfl wt.cells1 wt.one hm (by simp)) rfl rfl ?_
              rintro H11 ⟨u11, b11⟩
              have o0 := o0.trans (OldB.upd u11 (by omega))
              have zu11 := u11.1
              have wm := wm.upd u11 (by first | exact .inl rfl | exact .inr (by omega) | exact wm.lt.imp id (fun h => by omega))
              have hm := b11
              have fr : Fr gm vm H H11 := (Fr.refl gm vm H).upd u11
              have wt := wt.upd u11 (by rw [wtb]; exact wm00.lt.elim (fun e => .inr (by subst e; have := wm00.val; obtain ⟨a, cap, e, _⟩ := this; injection e with e1 e2; omega)) (fun k => .inr (by omega)))
              have hnn : vm ≠ .slice none 0 0 := by rintro rfl; have := wm00.val; obtain ⟨a, cap, e, _⟩ := this; injection e with e1 e2; omega
              refine KL.nil ?_
              refine KQ.normBlock ?_
              refine KQ.seq ?_
              refine KC.seq ?_
              refine KC.region ?_
              refine KL.op (R.assign rfl rfl) rfl rfl rfl ?_
              refine KL.op (R.assign rfl rfl) rfl rfl rfl ?_
              refine KL.nil ?_
              refine KQ.seq ?_
              refine KC.ret ?_
              refine KQ.ofRet ?_
              refine KQ.fin2 Try.results17 rfl rfl ?_
              first
                | exact .inr (.inr ⟨_, _, by unfold Isp.nx; rw [if_pos (by first | exact .inl hc15 | exact .inr (.inl hc15) | exact .inr (.inr hc15))], rfl, hm, wm, fr, nxA, hne⟩)
                | exact .inl ⟨by unfold Isp.nx; rw [if_neg (by omega), if_pos hc25, if_pos (by first | exact .inl (List.eq_nil_of_length_eq_zero (by omega)) | exact .inr (by assumption))], rfl, Old.refl _⟩
                | exact .inr (.inr ⟨_, vm, by unfold Isp.nx; rw [if_neg (by omega), if_pos hc25, if_neg (fun h => h.elim (fun e => absurd (congrArg List.length e) (by simp only [List.length_nil]; omega)) (fun e => e (by assumption)))], rfl, hm, wm, fr, Nx.refl _ _, id⟩)
                | exact .inr (.inl ⟨by unfold Isp.nx; rw [if_neg (by omega), if_neg (by omega), if_pos hc39, if_pos (List.eq_nil_of_length_eq_zero (by omega))], rfl, Old.refl _⟩)
                | exact .inr (.inr ⟨_, _, by unfold Isp.nx; rw [if_neg (by omega), if_neg (by omega), if_pos hc39, if_neg (by rintro e; subst e; simp at *)], rfl, hm, wt, fr, .inr (.inl ⟨hnn, wtb⟩), fun e => absurd e (Own.to_ne wm00 hnn)⟩)
                | exact .inr (.inr ⟨_, vm, by unfold Isp.nx; rw [if_neg (by omega), if_neg (by omega), if_neg (by omega)], rfl, hm, wm, Fr.refl _ _ _, Nx.refl _ _, id⟩)
          · intro hc39
            try simp only [decide_eq_true_eq, decide_eq_false_iff_not, Bool.not_eq_true', Bool.not_eq_false', Bool.and_eq_true, Bool.or_eq_false_iff] at hc39
            refine KC.skip ?_
            refine KQ.normBlock ?_
            refine KQ.seq ?_
            refine KC.seq ?_
            refine KC.region ?_
            refine KL.op (R.assign rfl rfl) rfl rfl rfl ?_
            refine KL.op (R.assign rfl rfl) rfl rfl rfl ?_
            refine KL.nil ?_
            refine KQ.seq ?_
            refine KC.ret ?_
            refine KQ.ofRet ?_
            refine KQ.fin2 Try.results17 rfl rfl ?_
            first
              | exact .inr (.inr ⟨_, _, by unfold Isp.nx; rw [if_pos (by first | exact .inl hc15 | exact .inr (.inl hc15) | exact .inr (.inr hc15))], rfl, hm, wm, fr, nxA, hne⟩)
              | exact .inl ⟨by unfold Isp.nx; rw [if_neg (by omega), if_pos hc25, if_pos (by first | exact .inl (List.eq_nil_of_length_eq_zero (by omega)) | exact .inr (by assumption))], rfl, Old.refl _⟩
              | exact .inr (.inr ⟨_, vm, by unfold Isp.nx; rw [if_neg (by omega), if_pos hc25, if_neg (fun h => h.elim (fun e => absurd (congrArg List.length e) (by simp only [List.length_nil]; omega)) (fun e => e (by assumption)))], rfl, hm, wm, fr, Nx.refl _ _, id⟩)
              | exact .inr (.inl ⟨by unfold Isp.nx; rw [if_neg (by omega), if_neg (by omega), if_pos hc39, if_pos (List.eq_nil_of_length_eq_zero (by omega))], rfl, Old.refl _⟩)
              | exact .inr (.inr ⟨_, _, by unfold Isp.nx; rw [if_neg (by omega), if_neg (by omega), if_pos hc39, if_neg (by rintro e; subst e; simp at *)], rfl, hm, wt, fr, .inr (.inl ⟨hnn, wtb⟩), fun e => absurd e (Own.to_ne wm00 hnn)⟩)
              | exact .inr (.inr ⟨_, vm, by unfold Isp.nx; rw [if_neg (by omega), if_neg (by omega), if_neg (by omega)], rfl, hm, wm, Fr.refl _ _ _, Nx.refl _ _, id⟩)

end Go.Proofs.Ytnjodpgahbpiaaa
