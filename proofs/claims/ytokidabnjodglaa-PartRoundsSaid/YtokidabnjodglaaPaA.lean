/- What bodies cost. No condition but sizes. -/
import Derived.Test.YtokidabnjodglaaKDel
import Derived.Test.YtokidabnjodglaaKIns
import Derived.Test.YtokidabnjodglaaCostRefOf
import Derived.Test.YtokidabnjodglaaKRange
namespace Go.Proofs.Ytokidabnjodglaa
open Go Go.RowKit
set_option linter.unusedVariables false
set_option linter.unusedSimpArgs false
set_option linter.unnecessarySimpa false

theorem Ct.below {P : Program} {f : FuncId} {args : List Value} {H : Heap} {v : Value} (h : ∀ w, w.heap = H → Calls P f args.toArray w fun e w' => e = .returned v ∧ Below w.heap.size w w') : Ct P f args H (fun u H' => u = v ∧ Old H H') := fun w hw => by
  subst hw
  exact (h w rfl).mono fun e w' ⟨he, hb⟩ => ⟨v, he, ⟨rfl, hb.os, hb.tape, hb.output⟩, rfl, ⟨hb.size, fun k hk => hb.block k hk⟩⟩
theorem special_k {H : Heap} : Ct Try.prog 18 [] H (fun u H' => ∃ cs : List Value, u = .agg cs.toArray ∧ cs.length = 256 ∧ (∀ j, j < 256 → cs[j]? = some (.int .u64 (Cost.tab j))) ∧ Old H H') := fun w hw => by
  subst hw
  exact (special_any w).mono fun e w' ⟨cs, he, h1, h2, hb⟩ => ⟨_, he, ⟨rfl, hb.os, hb.tape, hb.output⟩, cs.toList, by simp, by simpa using h1, by simpa using h2, ⟨hb.size, fun k hk => hb.block k hk⟩⟩
theorem of_k {H : Heap} {g : Nat} {cs : List Value} (op : Int) (a b c v : Value) (h0 : InR .u8 op) (hb : H[g]? = some (.cells cs.toArray 53 (0, 0))) (hl : cs.length = 256) (hc : ∀ j, j < 256 → cs[j]? = some (.int .u64 (Cost.tab j))) :
    Ct Try.prog 19 [.pointer (some ⟨g, 0, none⟩), .agg [.int .u8 op, a, b, c, v].toArray] H (fun u H' => u = .int .u64 (Cost.of op) ∧ Old H H') :=
  Ct.below fun w hw => of_any g op a b c v w h0.1 (by have := h0.2; omega) ⟨cs.toArray, by rw [hw]; exact hb, by simpa using hl, by simpa using hc⟩
theorem refOf_k {H : Heap} (op : Int) (a b c v : Value) (h0 : InR .u8 op) : Ct Try.prog 15 [.agg [.int .u8 op, a, b, c, v].toArray] H (fun u H' => u = .int .u64 (Cost.of op) ∧ Old H H') :=
  Ct.below fun w hw => refOf_any op a b c v w h0.1 (by have := h0.2; omega)
theorem of_le (op : Int) : 0 ≤ Cost.of op ∧ Cost.of op ≤ 20 := by
  have ht : ∀ j, 0 ≤ Cost.tab j ∧ Cost.tab j ≤ 20 := by intro j; unfold Cost.tab; repeat' split
                                                        all_goals omega
  unfold Cost.of
  split
  · omega
  · split
    · omega
    · exact ht _
theorem over_all {cs us : List Value} (h : us.length = cs.length) : cs.take 0 ++ us ++ cs.drop (0 + us.length) = us := by simp [h]
/-- what a body costs -/
def csum (l : List Ins) : Int := (l.map fun x => Cost.of x.op).sum
theorem csum_nil : csum [] = 0 := rfl
theorem csum_app (l m : List Ins) : csum (l ++ m) = csum l + csum m := by simp [csum]
theorem csum_le (l : List Ins) : 0 ≤ csum l ∧ csum l ≤ 20 * l.length := by
  induction l with
  | nil => exact ⟨Int.le_refl _, by simp [csum]⟩
  | cons x l ih =>
    have := of_le x.op
    have e : csum (x :: l) = Cost.of x.op + csum l := by simp [csum]
    rw [e, List.length_cons]
    omega
theorem take_succ' {α : Type} [Inhabited α] {l : List α} {k : Nat} (h : k < l.length) : l.take (k + 1) = l.take k ++ [l.getD k default] := by
  rw [List.take_add_one, List.getElem?_eq_getElem h, List.getD_eq_getElem?_getD, List.getElem?_eq_getElem h]; rfl
theorem csum_take {l : List Ins} {k : Nat} (h : k < l.length) : csum (l.take (k + 1)) = csum (l.take k) + Cost.of (l.getD k default).op := by
  rw [take_succ' h, csum_app]; simp [csum]

set_option maxRecDepth 100000 in
set_option maxHeartbeats 4000000 in
theorem Sum_k {H : Heap} {v : Value} {l : List Ins} (hs : Sl 5 EIns H v l) (hl : l.length ≤ 1000000) : Ct Try.prog 12 [v] H (fun u H' => u = .int .u64 (csum l) ∧ Old H H') := by
  refine Ct.mk Try.func12 rfl Try.ntmps12 rfl ?_
  intro W0 hW0
  have o0 : Old H H := Old.refl H
  have hs0 := hs
  refine KC.seq ?_
  refine KC.region ?_
  refine KL.op (R.assign rfl rfl) rfl rfl rfl ?_
  refine KL.nil ?_
  refine KQ.seq ?_
  refine KC.seq ?_
  refine KC.region ?_
  refine KL.call rfl rfl rfl rfl Try.call18 rfl rfl rfl (special_k) ?_
  rintro _ H1 ⟨cs, rfl, hcl, hcc, ox⟩
  have zc_H1 := (ox).1
  have o0 := o0.trans ox
  have hs := hs.old ox
  refine KL.opM (M.alloc (cs := (List.replicate 256 (.int .u64 0))) rfl zr53 (by rw [List.toArray_replicate]; rfl)) rfl rfl rfl ?_
  rintro _ H2 ⟨rfl, n2⟩
  have z2 := n2.2.1
  have o0 := o0.trans n2.1
  have hs := hs.old n2.1
  have b2 := n2.2.2
  have bt := b2
  refine KL.opS (S.storeAgg (us := cs) rfl sz53 rfl rfl (hcl) (by intro u hu; obtain ⟨j, hj, rfl⟩ := List.getElem_of_mem hu; have := hcc j (by omega); rw [List.getElem?_eq_getElem hj] at this; injection this with this; rw [this]; rfl) bt (by simp [hcl])) rfl rfl ?_
  rintro H3 ⟨u3, b3⟩
  have o0 := o0.upd u3 (by omega)
  have zu3 := u3.1
  have bt := b3
  rw [over_all (by rw [hcl]; simp only [List.length_replicate])] at bt
  refine KL.nil ?_
  refine KQ.seq ?_
  refine KC.seq ?_
  refine KC.region ?_
  refine KL.op (R.assign rfl rfl) rfl rfl rfl ?_
  refine KL.nil ?_
  refine KQ.seq ?_
  refine KC.seq ?_
  refine KC.seq ?_
  refine KC.region ?_
  refine KL.op (R.move rfl rfl) rfl rfl rfl ?_
  refine KL.op (R.lenS rfl Try.underlying22 rfl hs) rfl rfl rfl ?_
  refine KL.op (R.move rfl rfl) rfl rfl rfl ?_
  refine KL.nil ?_
  refine KQ.seq ?_
  refine KC.block ?_
  refine KC.loopD (κ := Nat) [11, 12, 13, 6, 14, 15, 16, 17, 4, 18, 10] (fun k => [(10, .int .i64 (k : Nat)), (4, .int .u64 (csum (l.take k)))]) (fun k Hl => k ≤ l.length ∧ Old H Hl ∧ Hl[(Array.size H1)]? = some (.cells cs.toArray 53 (0, 0)) ∧ Sl 5 EIns Hl v l) (fun k => l.length - k) 0 ?_ ?_ ?_
  · exact (Sub.cons rfl (Sub.cons rfl (Ext.sub (Ext.refl _ _))))
  · exact ⟨Nat.zero_le _, o0, bt, hs0.old o0⟩
  · rintro k H4 ⟨hk, o0, bt, hs⟩
    have zl_H4 := o0.1
    have zb := blk_lt bt
    have hcs := csum_le (l.take k)
    rw [List.length_take] at hcs
    refine KC.seq ?_
    refine KC.region ?_
    refine KL.op (R.lss rfl rfl rfl) rfl rfl rfl ?_
    refine KL.nil ?_
    refine KQ.seq ?_
    refine KC.seq ?_
    refine KC.iteL rfl ?_ ?_
    · intro hc11
      try simp only [decide_eq_true_eq, decide_eq_false_iff_not, Bool.not_eq_true', Bool.not_eq_false', Bool.and_eq_true, Bool.or_eq_false_iff] at hc11
      obtain ⟨u, hcx, hu, hx1, hx2, hx3, hx4⟩ := hs.insAt k (by omega)
      have hst := csum_take (l := l) (k := k) (by omega)
      have hof := of_le (l.getD k default).op
      refine KC.skip ?_
      refine KQ.seq ?_
      refine KC.seq ?_
      refine KC.block ?_
      refine KC.seq ?_
      refine KC.region ?_
      refine KL.op (R.index (j := k) rfl Try.underlying22 sz41 rfl rfl hs rfl (by omega)) rfl rfl rfl ?_
      refine KL.op (R.loadAgg rfl Try.underlying41 rfl sz41 rfl hcx rfl) rfl rfl rfl ?_
      refine KL.opM (M.alloc rfl zr41 rfl) rfl rfl rfl ?_
      rintro _ H5 ⟨rfl, n5⟩
      have z5 := n5.2.1
      have o0 := o0.trans n5.1
      have bt := (n5.1).blk bt
      have hs := hs.old n5.1
      have b5 := n5.2.2
      have bx := b5
      have hu1 := hu.one
      refine KL.opS (S.storeAgg rfl sz41 rfl rfl (rfl) (by intro u hu; simp only [List.mem_cons, List.not_mem_nil, or_false] at hu; rcases hu with rfl | rfl | rfl | rfl | rfl <;> first | rfl | exact hu1) bx (by simp)) rfl rfl ?_
      rintro H6 ⟨u6, b6⟩
      have o0 := o0.upd u6 (by omega)
      have zu6 := u6.1
      have bt := ((u6).2 _ (by omega)).trans bt
      have bx := b6
      rw [over_all (by rfl)] at bx
      refine KL.nil ?_
      refine KQ.seq ?_
      refine KC.region ?_
      refine KL.op (R.move rfl rfl) rfl rfl rfl ?_
      refine KL.op (R.loadAgg rfl Try.underlying41 rfl sz41 rfl (by first | exact cells_of bt | exact cells_of bx | assumption) rfl) rfl rfl rfl ?_
      refine KL.call rfl rfl rfl rfl Try.call19 rfl rfl rfl (of_k _ _ _ _ _ hx1 bt hcl hcc) ?_
      rintro _ H7 ⟨rfl, ox⟩
      have zc_H7 := (ox).1
      have o0 := o0.trans ox
      have bt := (ox).blk bt
      have bx := (ox).blk bx
      refine KL.op ((R.add rfl rfl rfl (by dsimp only [InR]; omega)).val (congrArg (Value.int .u64) hst.symm)) rfl rfl rfl ?_
      refine KL.op (R.assign rfl rfl) rfl rfl rfl ?_
      refine KL.nil ?_
      refine KQ.normBlock ?_
      refine KQ.seq ?_
      refine KC.region ?_
      refine KL.op ((R.add rfl rfl rfl (by dsimp only [InR]; omega)).val (congrArg (Value.int .i64) (show (k : Int) + 1 = ((k + 1 : Nat) : Int) by omega))) rfl rfl rfl ?_
      refine KL.op (R.move rfl rfl) rfl rfl rfl ?_
      refine KL.nil ?_
      refine KQ.again (k + 1) ?_ ?_ ?_
      · exact (Sub.cons rfl (Sub.cons rfl (Ext.sub (by repeat (first | exact Ext.refl _ _ | refine Ext.put rfl ?_ | refine Ext.drop rfl ?_)))))
      · omega
      · exact ⟨by omega, o0, bt, by first | exact hs | exact hs0.old o0⟩
    · intro hc11
      try simp only [decide_eq_true_eq, decide_eq_false_iff_not, Bool.not_eq_true', Bool.not_eq_false', Bool.and_eq_true, Bool.or_eq_false_iff] at hc11
      refine KC.exit ?_
      refine KQ.exitThen ?_
      refine KQ.exitThen ?_
      refine KQ.hit ?_
      refine KQ.seq ?_
      refine KC.seq ?_
      refine KC.region ?_
      refine KL.op (R.move rfl rfl) rfl rfl rfl ?_
      refine KL.op (R.assign rfl rfl) rfl rfl rfl ?_
      refine KL.nil ?_
      refine KQ.seq ?_
      refine KC.ret ?_
      refine KQ.ofRet ?_
      refine KQ.fin1 Try.results12 rfl ?_
      have e : k = l.length := by omega
      subst e
      rw [List.take_length]
      exact ⟨rfl, o0⟩

end Go.Proofs.Ytokidabnjodglaa
