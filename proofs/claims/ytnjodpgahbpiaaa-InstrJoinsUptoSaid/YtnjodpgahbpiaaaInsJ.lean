/- The document's bytes of an expression. No condition but its size. -/
import Derived.Test.YtnjodpgahbpiaaaInsI
namespace Go.Proofs.Ytnjodpgahbpiaaa
open Go Go.RowKit
set_option linter.unusedVariables false
set_option linter.unusedSimpArgs false
set_option linter.unnecessarySimpa false

/-- of instructions in memory -/
structure ISl (H : Heap) (v : Value) (l : List Ins) : Prop where
  s : Sl 5 EIns H v l
  b : Isp.bulk l ≤ 2000000
section
variable {H : Heap} {v : Value} {l : List Ins}
theorem Sl.insV (h : Sl 5 EIns H v l) (j : Nat) (hj : j < l.length) : ∃ vl, CellsH H ((vbase v).add (j * 5)) [.int .u8 (l.getD j default).op, .int .u32 (l.getD j default).a, .int .u32 (l.getD j default).b, .int .i64 (l.getD j default).c, vl] ∧ Sl 1 (EInt .u32) H vl (l.getD j default).l ∧ InsR (l.getD j default) := by
  obtain ⟨u, h1, h2, h3, h4, h5, h6⟩ := h.insAt j hj
  exact ⟨u, h1, h2, h3, h4, h5, h6⟩
theorem ins_mem {l : List Ins} {j : Nat} (hj : j < l.length) : l.getD j default ∈ l := by
  rw [List.getD_eq_getElem?_getD, List.getElem?_eq_getElem hj]; exact List.getElem_mem _
theorem Sl.insAll (h : Sl 5 EIns H v l) : ∀ x ∈ l, InsR x ∧ ∀ y ∈ x.l, InR .u32 y := by
  intro x hx
  obtain ⟨j, hj, rfl⟩ := List.getElem_of_mem hx
  obtain ⟨vl, _, h2, h3⟩ := h.insV j hj
  rw [List.getD_eq_getElem?_getD, List.getElem?_eq_getElem hj] at h2 h3
  exact ⟨h3, h2.rng⟩
theorem flatB {k : Nat} (h : Sl 5 EIns H v l) (hb : Isp.bulk l ≤ 2000000) : (Isp.flat (l.take k)).length ≤ 62000000 := by
  have h1 : (Isp.flat (l.take k)).length ≤ 31 * Isp.bulk (l.take k) := Isp.flat_le fun x hx => by
    have hm := List.mem_of_mem_take hx
    have := Isp.bulk_mem hm
    exact ⟨(h.insAll x hm).1, (h.insAll x hm).2, by omega⟩
  have := Isp.bulk_take (l := l) k
  omega
end

theorem Isp.walk_len {xs : List Ins} {m : List Int} (h : Isp.walkM [] xs = some m) : m.length ≤ xs.length := by
  have key : ∀ (xs : List Ins) (a m : List Int), Isp.walkM a xs = some m → m.length ≤ a.length + xs.length := by
    intro xs
    induction xs with
    | nil => intro a m h; simp only [Isp.walkM, Option.some.injEq] at h; subst h; simp
    | cons x xs ih =>
      intro a m h
      simp only [Isp.walkM] at h
      split at h
      · next a' e =>
        have := ih _ _ h
        have h2 : a'.length ≤ a.length + 1 := by
          unfold Isp.nx at e
          split at e
          · injection e with e; subst e; simp
          split at e
          · split at e
            · cases e
            · injection e with e; subst e; simp <;> omega
          split at e
          · split at e
            · cases e
            · injection e with e; subst e; simp <;> omega
          · injection e with e; subst e; omega
        simp only [List.length_cons]; omega
      · cases h
  have := key xs [] m h
  simpa using this
theorem Isp.may_no {xs : List Ins} {k : Nat} (hk : k < xs.length) (h : ¬ Isp.May (xs.getD k default)) : ¬ ∀ x ∈ xs, Isp.May x := fun hall => h (hall _ (ins_mem hk))

set_option maxRecDepth 100000 in
set_option maxHeartbeats 4000000 in
theorem RExpr_any {H : Heap} {v : Value} {xs : List Ins} (hs0 : Sl 5 EIns H v xs) (hb : Isp.bulk xs ≤ 2000000) : Ct Try.prog 14 [v] H (fun u H' => (∃ c b, u = .tuple #[c, .bool b] ∧ (b = true ↔ (Isp.walkM [] xs = some [] ∧ ∀ x ∈ xs, Isp.May x)) ∧ (b = true → Own 1 (EInt .u8) 5 #[] H.size H' c (Isp.flat xs ++ [11]))) ∧ Old H H') := by
  refine Ct.mk Try.func14 rfl Try.ntmps14 rfl ?_
  intro W0 hW0
  have o0 : Old H H := Old.refl H
  have hs := hs0
  refine KC.seq ?_
  refine KC.region ?_
  refine KL.op (R.assign rfl rfl) rfl rfl rfl ?_
  refine KL.op (R.assign rfl rfl) rfl rfl rfl ?_
  refine KL.nil ?_
  refine KQ.seq ?_
  refine KC.seq ?_
  refine KC.region ?_
  refine KL.op (R.assign rfl rfl) rfl rfl rfl ?_
  refine KL.nil ?_
  refine KQ.seq ?_
  refine KC.seq ?_
  refine KC.region ?_
  refine KL.op (R.assign rfl rfl) rfl rfl rfl ?_
  refine KL.nil ?_
  refine KQ.seq ?_
  refine KC.seq ?_
  refine KC.seq ?_
  refine KC.region ?_
  refine KL.op (R.assign rfl rfl) rfl rfl rfl ?_
  refine KL.nil ?_
  refine KQ.seq ?_
  refine KC.block ?_
  refine KC.loopD (κ := Nat × Value × Value × List Int) [9, 10, 11, 12, 16, 17, 18, 19, 20, 21, 22, 15, 23, 24, 7, 8, 25, 26, 27, 28, 29, 30, 31, 32, 33, 34, 2, 3, 35, 5, 36, 37, 38, 39, 40, 41, 42, 4, 13, 14, 6] (fun k => [(4, k.2.1), (5, k.2.2.1), (6, .int .i64 (k.1 : Nat))]) (fun k Hl => k.1 ≤ xs.length ∧ Own 1 (EInt .u8) 5 #[] H.size Hl k.2.1 (Isp.flat (xs.take k.1)) ∧ Sl 1 (EInt .i64) Hl k.2.2.1 (k.2.2.2.map Isp.dm) ∧ Isp.okm k.2.2.2 ∧ Isp.walkM [] (xs.take k.1) = some k.2.2.2 ∧ (∀ x ∈ xs.take k.1, Isp.May x) ∧ Old H Hl) (fun k => xs.length - k.1) (0, .slice none 0 0, .slice none 0 0, []) ?_ ?_ ?_
  · exact (Sub.cons rfl (Sub.cons rfl (Sub.cons rfl (Ext.sub (Ext.refl _ _)))))
  · exact ⟨Nat.zero_le _, by simpa [Isp.flat] using Own.nil _ _ _ _ _ _, by simpa using Sl.nil _ _ _, (by intro x hx; cases hx), by simp [Isp.walkM], by simp, Old.refl _⟩
  · rintro ⟨k, vo, vm, m⟩ H1 ⟨hk, wo, sm, hok, hw, hMs, o0⟩
    have zl_H1 := o0.1
    dsimp only at hk wo sm hok hw hMs
    have zl := o0.1
    have hs := hs0.old o0
    have hlx := Isp.bulk_len xs
    have hfl := flatB (k := k) hs0 hb
    have hml : m.length ≤ xs.length := by
      have := Isp.walk_len hw
      rw [List.length_take] at this; omega
    refine KC.seq ?_
    refine KC.seq ?_
    refine KC.region ?_
    refine KL.op (R.move rfl rfl) rfl rfl rfl ?_
    refine KL.op (R.move rfl rfl) rfl rfl rfl ?_
    refine KL.op (R.lenS rfl Try.underlying22 rfl hs) rfl rfl rfl ?_
    refine KL.op (R.lss rfl rfl rfl) rfl rfl rfl ?_
    refine KL.nil ?_
    refine KQ.seq ?_
    refine KC.iteL rfl ?_ ?_
    · intro hc12
      try simp only [decide_eq_true_eq, decide_eq_false_iff_not, Bool.not_eq_true', Bool.not_eq_false', Bool.and_eq_true, Bool.or_eq_false_iff] at hc12
      obtain ⟨vl, hcx, hcl, hxr⟩ := hs.insV k (by omega)
      have hbm := Isp.bulk_mem (ins_mem (l := xs) (j := k) (by omega))
      obtain ⟨hop1, hok2⟩ := Isp.opn_nx hok (xs.getD k default).op
      refine KC.skip ?_
      refine KQ.seq ?_
      refine KC.seq ?_
      refine KC.block ?_
      refine KC.seq ?_
      refine KC.region ?_
      refine KL.op (R.move rfl rfl) rfl rfl rfl ?_
      refine KL.op (R.move rfl rfl) rfl rfl rfl ?_
      refine KL.op (R.move rfl rfl) rfl rfl rfl ?_
      refine KL.op (R.index (j := k) rfl Try.underlying22 sz36 rfl rfl hs rfl (by omega)) rfl rfl rfl ?_
      refine KL.op ((by first | exact R.fieldAddr rfl Try.underlying36 rfl rfl sz5 rfl | exact R.fieldAddrP rfl Try.underlying36 rfl rfl sz5 rfl)) rfl rfl rfl ?_
      refine KL.op (R.load rfl Try.underlying5 rfl rfl (hcx 0 _ rfl)) rfl rfl rfl ?_
      have hvo := wo.lt
      refine KL.call rfl rfl rfl rfl Try.call25 rfl rfl rfl (Open_any _ sm (by rw [List.length_map]; omega)) ?_
      rintro u H2 ⟨hR0, ox⟩
      rw [hop1] at hR0
      have hR : ((∀ m2, Isp.nx m (xs.getD k default).op ≠ .go m2) ∧ u = .tuple #[.slice none 0 0, .bool false]) ∨ ∃ m2 vn, Isp.nx m (xs.getD k default).op = .go m2 ∧ u = .tuple #[vn, .bool true] ∧ Own 1 (EInt .i64) 3 #[] (Array.size H1) H2 vn (m2.map Isp.dm) := by
        cases hq : Isp.nx m (xs.getD k default).op with
        | go m2 => rw [hq] at hR0; obtain ⟨vn, h1, h2⟩ := hR0; exact .inr ⟨m2, vn, rfl, h1, h2⟩
        | bad => rw [hq] at hR0; exact .inl ⟨fun _ => by simp, hR0⟩
        | over => rw [hq] at hR0; exact .inl ⟨fun _ => by simp, hR0⟩
      rcases hR with ⟨hno, rfl⟩ | ⟨m2, vn, hnx, rfl, wn⟩
      · skip
        have o0 := o0.trans ox
        have wo := wo.old ox
        have sm := sm.old ox
        have hs := hs.old ox
        have zox := ox.1
        refine KL.op (R.move rfl rfl) rfl rfl rfl ?_
        refine KL.op (R.extract rfl rfl rfl) rfl rfl rfl ?_
        refine KL.op (R.extract rfl rfl rfl) rfl rfl rfl ?_
        refine KL.op (R.assign rfl rfl) rfl rfl rfl ?_
        refine KL.op (R.assign rfl rfl) rfl rfl rfl ?_
        refine KL.nil ?_
        refine KQ.seq ?_
        refine KC.seq ?_
        refine KC.seq ?_
        refine KC.region ?_
        refine KL.op (R.move rfl rfl) rfl rfl rfl ?_
        refine KL.op (R.not rfl rfl) rfl rfl rfl ?_
        refine KL.op (R.move rfl rfl) rfl rfl rfl ?_
        refine KL.skip rfl rfl rfl ?_
        refine KL.skip rfl rfl rfl ?_
        refine KL.skip rfl rfl rfl ?_
        refine KL.skip rfl rfl rfl ?_
        refine KL.skip rfl rfl rfl ?_
        refine KL.skip rfl rfl rfl ?_
        refine KL.op (R.pick rfl rfl rfl) rfl rfl rfl ?_
        refine KL.nil ?_
        refine KQ.seq ?_
        refine KC.condT rfl ?_
        refine KC.seq ?_
        refine KC.region ?_
        refine KL.op (R.assign rfl rfl) rfl rfl rfl ?_
        refine KL.op (R.assign rfl rfl) rfl rfl rfl ?_
        refine KL.nil ?_
        refine KQ.seq ?_
        refine KC.ret ?_
        refine KQ.retThen ?_
        refine KQ.retBlock ?_
        refine KQ.retThen ?_
        refine KQ.retThen ?_
        refine KQ.retBlock ?_
        refine KQ.retThen ?_
        refine KQ.ofRet ?_
        refine KQ.fin2 Try.results14 rfl rfl ?_
        first
          | exact ⟨⟨_, _, rfl, ⟨fun h => absurd h (by decide), fun h => by rw [Isp.walk_stop (by omega) hw hno] at h; exact absurd h.1 (by simp)⟩, fun h => absurd h (by decide)⟩, o0⟩
          | exact ⟨⟨_, _, rfl, ⟨fun h => absurd h (by decide), fun h => absurd h.2 (Isp.may_no (k := k) (by omega) (fun hm => by have hq := hbM.2 hm; rw [hc34] at hq; cases hq))⟩, fun h => absurd h (by decide)⟩, o0⟩
          | (have hkl : k = xs.length := by omega
             rw [hkl, List.take_length] at wo hw hMs
             refine ⟨⟨_, _, rfl, ⟨fun h => ⟨?_, hMs⟩, fun h => ?_⟩, fun _ => wo⟩, o0⟩
             · rw [hw]; have := of_decide_eq_true h; simp only [List.length_map] at this; rw [List.eq_nil_of_length_eq_zero (l := m) (by omega)]
             · have e := h.1.symm.trans hw; injection e with e; subst e; rfl)
      · skip
        have o0 := o0.trans ox
        have wo := wo.old ox
        have sm := sm.old ox
        have hs := hs.old ox
        have zox := ox.1
        have sn := wn.sl (emptyOld _) (by omega)
        obtain ⟨vl2, hcx, hcl, _⟩ := hs.insV k (by omega)
        refine KL.op (R.move rfl rfl) rfl rfl rfl ?_
        refine KL.op (R.extract rfl rfl rfl) rfl rfl rfl ?_
        refine KL.op (R.extract rfl rfl rfl) rfl rfl rfl ?_
        refine KL.op (R.assign rfl rfl) rfl rfl rfl ?_
        refine KL.op (R.assign rfl rfl) rfl rfl rfl ?_
        refine KL.nil ?_
        refine KQ.seq ?_
        refine KC.seq ?_
        refine KC.seq ?_
        refine KC.region ?_
        refine KL.op (R.move rfl rfl) rfl rfl rfl ?_
        refine KL.op (R.not rfl rfl) rfl rfl rfl ?_
        refine KL.op (R.move rfl rfl) rfl rfl rfl ?_
        refine KL.op (R.move rfl rfl) rfl rfl rfl ?_
        refine KL.op (R.move rfl rfl) rfl rfl rfl ?_
        refine KL.op (R.index (j := k) rfl Try.underlying22 sz36 rfl rfl hs rfl (by omega)) rfl rfl rfl ?_
        refine KL.op (R.loadAgg rfl Try.underlying36 rfl sz36 rfl hcx rfl) rfl rfl rfl ?_
        refine KL.call rfl rfl rfl rfl Try.call12 rfl rfl rfl (RMay_any hxr (by omega) hcl) ?_
        rintro _ H3 ⟨⟨bM, rfl, hbM⟩, ox⟩
        have zc_H3 := (ox).1
        have o0 := o0.trans ox
        have wo := wo.old ox
        have sm := sm.old ox
        have hs := hs.old ox
        have sn := sn.old ox
        have hcl := hcl.old ox
        have wn := wn.old ox
        obtain ⟨vl3, hcx, hcl, _⟩ := hs.insV k (by omega)
        refine KL.op (R.not rfl rfl) rfl rfl rfl ?_
        refine KL.op (R.pick rfl rfl rfl) rfl rfl rfl ?_
        refine KL.nil ?_
        refine KQ.seq ?_
        refine KC.iteL rfl ?_ ?_
        · intro hc34
          try simp only [decide_eq_true_eq, decide_eq_false_iff_not, Bool.not_eq_true', Bool.not_eq_false', Bool.and_eq_true, Bool.or_eq_false_iff] at hc34
          refine KC.seq ?_
          refine KC.region ?_
          refine KL.op (R.assign rfl rfl) rfl rfl rfl ?_
          refine KL.op (R.assign rfl rfl) rfl rfl rfl ?_
          refine KL.nil ?_
          refine KQ.seq ?_
          refine KC.ret ?_
          refine KQ.retThen ?_
          refine KQ.retBlock ?_
          refine KQ.retThen ?_
          refine KQ.retThen ?_
          refine KQ.retBlock ?_
          refine KQ.retThen ?_
          refine KQ.ofRet ?_
          refine KQ.fin2 Try.results14 rfl rfl ?_
          first
            | exact ⟨⟨_, _, rfl, ⟨fun h => absurd h (by decide), fun h => by rw [Isp.walk_stop (by omega) hw hno] at h; exact absurd h.1 (by simp)⟩, fun h => absurd h (by decide)⟩, o0⟩
            | exact ⟨⟨_, _, rfl, ⟨fun h => absurd h (by decide), fun h => absurd h.2 (Isp.may_no (k := k) (by omega) (fun hm => by have hq := hbM.2 hm; rw [hc34] at hq; cases hq))⟩, fun h => absurd h (by decide)⟩, o0⟩
            | (have hkl : k = xs.length := by omega
               rw [hkl, List.take_length] at wo hw hMs
               refine ⟨⟨_, _, rfl, ⟨fun h => ⟨?_, hMs⟩, fun h => ?_⟩, fun _ => wo⟩, o0⟩
               · rw [hw]; have := of_decide_eq_true h; simp only [List.length_map] at this; rw [List.eq_nil_of_length_eq_zero (l := m) (by omega)]
               · have e := h.1.symm.trans hw; injection e with e; subst e; rfl)
        · intro hc34
          try simp only [decide_eq_true_eq, decide_eq_false_iff_not, Bool.not_eq_true', Bool.not_eq_false', Bool.and_eq_true, Bool.or_eq_false_iff] at hc34
          have hM : Isp.May (xs.getD k default) := hbM.1 (by simpa using hc34)
          refine KC.skip ?_
          refine KQ.seq ?_
          refine KC.seq ?_
          refine KC.region ?_
          refine KL.op (R.move rfl rfl) rfl rfl rfl ?_
          refine KL.op (R.assign rfl rfl) rfl rfl rfl ?_
          refine KL.nil ?_
          refine KQ.seq ?_
          refine KC.region ?_
          refine KL.op (R.move rfl rfl) rfl rfl rfl ?_
          refine KL.op (R.move rfl rfl) rfl rfl rfl ?_
          refine KL.op (R.move rfl rfl) rfl rfl rfl ?_
          refine KL.op (R.index (j := k) rfl Try.underlying22 sz36 rfl rfl hs rfl (by omega)) rfl rfl rfl ?_
          refine KL.op (R.loadAgg rfl Try.underlying36 rfl sz36 rfl hcx rfl) rfl rfl rfl ?_
          refine KL.call rfl rfl rfl rfl Try.call13 rfl rfl rfl (RBytes_any hxr (by omega) hcl hM) ?_
          rintro va H4 ⟨wa, ox⟩
          have zc_H4 := (ox).1
          have o0 := o0.trans ox
          have wo := wo.old ox
          have sm := sm.old ox
          have hs := hs.old ox
          have sn := sn.old ox
          have hcl := hcl.old ox
          have wn := wn.old ox
          have wnB := wn
          have hap := wa.sl (emptyOld _) (by omega)
          have hbl := Isp.bytes_len hxr (fun y hy => hcl.rng y hy) (by omega)
          have lt5 := wo.lt
          refine KL.opM (M.append rfl Try.underlying23 inf5 rfl (by decide) rfl rfl wo (by exact hap) (fun _ _ h _ => h) (by omega) (by omega) (by unfold maxLen; omega)) rfl rfl rfl ?_
          rintro vp H5 ⟨w5, g5⟩
          try dsimp only at g5
          have ob5 := g5.oldB wo (by omega)
          have o0 := o0.then ob5 (by omega)
          have z5 := ob5.1
          have wo := w5
          have sn := (wnB.keepN (wnB.lt.imp id (fun h => g5.2 _ h.2 (hvo.imp id (fun k => by omega))))).sl (emptyOld _) (by omega)
          refine KL.op (R.assign rfl rfl) rfl rfl rfl ?_
          refine KL.nil ?_
          refine KQ.normBlock ?_
          refine KQ.seq ?_
          refine KC.region ?_
          refine KL.op (R.move rfl rfl) rfl rfl rfl ?_
          refine KL.op ((R.add rfl rfl rfl (by dsimp only [InR]; omega)).val (congrArg (Value.int .i64) (show (k : Int) + 1 = ((k + 1 : Nat) : Int) by omega))) rfl rfl rfl ?_
          refine KL.op (R.assign rfl rfl) rfl rfl rfl ?_
          refine KL.nil ?_
          refine KQ.again ((k + 1, vp, vn, m2)) ?_ ?_ ?_
          · exact (Sub.cons rfl (Sub.cons rfl (Sub.cons rfl (Ext.sub (by repeat (first | exact Ext.refl _ _ | refine Ext.put rfl ?_ | refine Ext.drop rfl ?_))))))
          · show xs.length - (k + 1) < xs.length - k; omega
          · exact ⟨by show k + 1 ≤ _; omega, by dsimp only; rw [Isp.flat_step (by omega)]; exact wo, sn, hok2 m2 hnx, Isp.walk_step (by omega) hw hnx, by
              dsimp only
              intro x hx
              rw [List.take_add_one, List.getElem?_eq_getElem (by omega)] at hx
              rcases List.mem_append.1 hx with hx | hx
              · exact hMs x hx
              · simp only [Option.toList_some, List.mem_cons, List.not_mem_nil, or_false] at hx; subst hx
                have : xs.getD k default = xs[k] := by rw [List.getD_eq_getElem?_getD, List.getElem?_eq_getElem (by omega)]; rfl
                rw [← this]; exact hM, o0⟩
    · intro hc12
      try simp only [decide_eq_true_eq, decide_eq_false_iff_not, Bool.not_eq_true', Bool.not_eq_false', Bool.and_eq_true, Bool.or_eq_false_iff] at hc12
      obtain ⟨am, cm, rfl⟩ := sm.val
      refine KC.exit ?_
      refine KQ.exitThen ?_
      refine KQ.exitThen ?_
      refine KQ.hit ?_
      refine KQ.seq ?_
      refine KC.seq ?_
      refine KC.region ?_
      refine KL.op (R.move rfl rfl) rfl rfl rfl ?_
      refine KL.opM (M.lit rfl Try.underlying23 zs5 (by decide) rfl rfl rfl) rfl rfl rfl ?_
      rintro _ H6 ⟨rfl, n6⟩
      have z6 := n6.2.1
      have o0 := o0.trans n6.1
      have wo := wo.old n6.1
      have sm := sm.old n6.1
      have hs := hs.old n6.1
      have b6 := n6.2.2
      have h11 : Sl 1 (EInt .u8) H6 _ [11] := Sl.lits (l := [11]) n6 rfl (by simp) (by decide)
      have lt7 := wo.lt
      refine KL.opM (M.append rfl Try.underlying23 inf5 rfl (by decide) rfl rfl wo (by exact h11) (fun _ _ h _ => h) (by omega) (by simp only [List.length_append, List.length_cons, List.length_nil]; omega) (by unfold maxLen; simp only [List.length_append, List.length_cons, List.length_nil]; omega)) rfl rfl rfl ?_
      rintro vq H7 ⟨w7, g7⟩
      try dsimp only at g7
      have ob7 := g7.oldB wo (by omega)
      have o0 := o0.then ob7 (by omega)
      have z7 := ob7.1
      have wo := w7
      refine KL.op (R.move rfl rfl) rfl rfl rfl ?_
      refine KL.op (R.len (ty := 0) rfl Try.underlying63 rfl) rfl rfl rfl ?_
      refine KL.op (R.eql rfl rfl rfl) rfl rfl rfl ?_
      refine KL.op (R.assign rfl rfl) rfl rfl rfl ?_
      refine KL.op (R.assign rfl rfl) rfl rfl rfl ?_
      refine KL.nil ?_
      refine KQ.seq ?_
      refine KC.ret ?_
      refine KQ.ofRet ?_
      refine KQ.fin2 Try.results14 rfl rfl ?_
      first
        | exact ⟨⟨_, _, rfl, ⟨fun h => absurd h (by decide), fun h => by rw [Isp.walk_stop (by omega) hw hno] at h; exact absurd h.1 (by simp)⟩, fun h => absurd h (by decide)⟩, o0⟩
        | exact ⟨⟨_, _, rfl, ⟨fun h => absurd h (by decide), fun h => absurd h.2 (Isp.may_no (k := k) (by omega) (fun hm => by have hq := hbM.2 hm; rw [hc34] at hq; cases hq))⟩, fun h => absurd h (by decide)⟩, o0⟩
        | (have hkl : k = xs.length := by omega
           rw [hkl, List.take_length] at wo hw hMs
           refine ⟨⟨_, _, rfl, ⟨fun h => ⟨?_, hMs⟩, fun h => ?_⟩, fun _ => wo⟩, o0⟩
           · rw [hw]; have := of_decide_eq_true h; simp only [List.length_map] at this; rw [List.eq_nil_of_length_eq_zero (l := m) (by omega)]
           · have e := h.1.symm.trans hw; injection e with e; subst e; rfl)

end Go.Proofs.Ytnjodpgahbpiaaa
