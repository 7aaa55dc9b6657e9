/- Scripts; gabellelaw09.heavy. No condition. -/
import Derived.Test.YtglopfbdnpbgeaaTyM
import Derived.Test.YtglopfbdnpbgeaaKOpenS
namespace Go.Proofs.Ytglopfbdnpbgeaa
open Go Go.RowKit
set_option linter.unusedVariables false
set_option linter.unusedSimpArgs false
set_option linter.unnecessarySimpa false

structure Dox where
  kind : Int
  l : List Int
  ends : List Int
  n : Int
instance : Inhabited Dox := ⟨⟨0, [], [], 0⟩⟩
def EDo : El Dox := fun H cs x => ∃ vl ve, cs = [.int .i64 x.kind, vl, ve, .int .u32 x.n] ∧ Sl 1 (EInt .u8) H vl x.l ∧ Sl 1 (EInt .u8) H ve x.ends ∧ InR .i64 x.kind ∧ InR .u32 x.n ∧ x.l.length ≤ 140737488351232 ∧ x.ends.length ≤ 140737488351232
instance keepsDo : Keeps EDo := ⟨fun o ⟨vl, ve, h1, h2, h3, r⟩ => ⟨vl, ve, h1, h2.old o, h3.old o, r⟩⟩
theorem opensW_do : OpensW Try.prog 32 EDo := by
  intro H enc w base spare held fuel cs x h hwt
  obtain ⟨hl, n, hg⟩ := trod_structW (m := 4) Try.underlying32 (by kernel_rfl) h
  obtain ⟨y0, h0, _⟩ := hg 0 _ 0 1 rfl rfl (by kernel_rfl)
  obtain ⟨y1, h1, k1⟩ := hg 1 _ 1 1 rfl rfl (by kernel_rfl)
  obtain ⟨y2, h2, k2⟩ := hg 2 _ 2 1 rfl rfl (by kernel_rfl)
  obtain ⟨y3, h3, _⟩ := hg 3 _ 3 1 rfl rfl (by kernel_rfl)
  match cs, hl with
  | [c0, c1, c2, c3], _ =>
    obtain ⟨a0, u0, r0⟩ := opens_int Try.underlying3 _ _ _ _ _ _ _ _ _ h0
    obtain ⟨l, v, u1, s1, b1⟩ := opensW_slice (n := 1) (b := 1) Try.underlying22 (by kernel_rfl) (by kernel_rfl) (by decide) (opens_int Try.underlying5).w _ _ _ _ _ _ _ _ _ h1 (fun q hq => hwt q (k1 q hq))
    obtain ⟨l', v', u2, s2, b2⟩ := opensW_slice (n := 1) (b := 1) Try.underlying22 (by kernel_rfl) (by kernel_rfl) (by decide) (opens_int Try.underlying5).w _ _ _ _ _ _ _ _ _ h2 (fun q hq => hwt q (k2 q hq))
    obtain ⟨a3, u3, r3⟩ := opens_int Try.underlying30 _ _ _ _ _ _ _ _ _ h3
    cases u0; cases u1; cases u2; cases u3
    exact ⟨⟨a0, l, l', a3⟩, _, _, rfl, s1, s2, r0, r3, by show l.length ≤ _; omega, by show l'.length ≤ _; omega⟩
theorem Sl.doAt {H : Heap} {v : Value} {l : List Dox} (h : Sl 4 EDo H v l) (j : Nat) (hj : j < l.length) : ∃ vl ve, CellsH H ((vbase v).add (j * 4)) [.int .i64 (l.getD j default).kind, vl, ve, .int .u32 (l.getD j default).n] ∧ Sl 1 (EInt .u8) H vl (l.getD j default).l ∧ Sl 1 (EInt .u8) H ve (l.getD j default).ends ∧ InR .i64 (l.getD j default).kind ∧ InR .u32 (l.getD j default).n ∧ (l.getD j default).l.length ≤ 140737488351232 ∧ (l.getD j default).ends.length ≤ 140737488351232 := by
  obtain ⟨cs, hl, hc, vl, ve, rfl, h1⟩ := h.at j hj
  exact ⟨vl, ve, hc, h1⟩
def wt (l : List Dox) : Nat := (l.map fun x => x.l.length + x.ends.length).sum
theorem wt_take {l : List Dox} {k : Nat} (h : k < l.length) : wt (l.take (k + 1)) = wt (l.take k) + ((l.getD k default).l.length + (l.getD k default).ends.length) := by
  have e : l.take (k + 1) = l.take k ++ [l.getD k default] := by rw [List.take_add_one, List.getElem?_eq_getElem h, List.getD_eq_getElem?_getD, List.getElem?_eq_getElem h]; rfl
  unfold wt
  rw [e, List.map_append, List.sum_append]
  simp only [List.map_cons, List.map_nil, List.sum_cons, List.sum_nil, Nat.add_zero]
theorem wt_le (l : List Dox) (k : Nat) : wt (l.take k) ≤ wt l := by
  unfold wt
  conv => rhs; rw [← List.take_append_drop k l, List.map_append, List.sum_append]
  omega
def heavyB (l : List Dox) : Bool := decide (2000 < wt l ∨ 300 < l.length)
/-! ### how much there is behind a call -/
theorem DS.pop_b (s : DS) : s.pop.2.2.all.length ≤ s.all.length ∧ s.pop.2.2.fr.length ≤ s.fr.length := by
  by_cases h0 : s.fr = []
  · rw [DS.pop_no h0]; exact ⟨Nat.le_refl _, Nat.le_refl _⟩
  · by_cases h1 : s.top.own = []
    · rw [DS.pop_dead h0 h1]; exact ⟨Nat.le_refl _, Nat.le_refl _⟩
    · rw [DS.pop_yes h0 h1]
      exact ⟨by show (s.cut _).all.length ≤ _; rw [DS.cut_all h0, List.length_take]; omega, by show (s.cut _).fr.length ≤ _; rw [DS.cut_len]; omega⟩
theorem DS.want_b (s : DS) (l : List Int) : (s.want l).2.all.length ≤ s.all.length ∧ (s.want l).2.fr.length ≤ s.fr.length := by
  cases h : s.left l with
  | none => rw [DS.want_no h]; exact ⟨Nat.le_refl _, Nat.le_refl _⟩
  | some m =>
    rw [DS.want_yes h]
    exact ⟨by show (s.cut _).all.length ≤ _; rw [DS.cut_all (DS.left_le h).1, List.length_take]; omega, by show (s.cut _).fr.length ≤ _; rw [DS.cut_len]; omega⟩
theorem DS.close_b (s : DS) : s.close.2.2.all.length ≤ s.all.length ∧ s.close.2.2.fr.length ≤ s.fr.length := by
  by_cases h : s.left s.top.ends = some 0
  · rw [DS.close_yes h]
    exact ⟨by show s.less.all.length ≤ _; rw [DS.less_all (DS.left_le h).1, List.length_take]; omega, by show (s.fr.take _).length ≤ _; rw [List.length_take]; omega⟩
  · rw [DS.close_no h]; exact ⟨Nat.le_refl _, Nat.le_refl _⟩
theorem DS.kill_b (s : DS) : s.kill.all.length ≤ s.all.length ∧ s.kill.fr.length ≤ s.fr.length := by
  by_cases h0 : s.fr = []
  · rw [DS.kill_nil h0]; exact ⟨Nat.le_refl _, Nat.le_refl _⟩
  · refine ⟨?_, by unfold DS.kill; rw [DS.put_len]; omega⟩
    unfold DS.kill
    rw [DS.all_put h0, DS.all_eq h0, List.append_nil, List.length_append]; omega
theorem DS.push_b (s : DS) (l : List Int) : (s.push l).all.length = s.all.length + l.length ∧ (s.push l).fr.length = s.fr.length := ⟨by rw [DS.push_all, List.length_append], DS.push_len s l⟩
theorem DS.open_b (s : DS) (a b : List Int) : (s.open a b).all.length = s.all.length ∧ (s.open a b).fr.length = s.fr.length + 1 := ⟨by rw [DS.open_all], by show (s.fr ++ _).length = _; rw [List.length_append]; rfl⟩
theorem StepO.notM {O O' : Nat → Prop} {A B : Heap} {b : Nat} (st : StepO O O' A B) (h : ¬ O b) (hb : b < A.size) : ¬ O' b := fun h' => (st.2.2 b h').elim h (fun h => by omega)
theorem keep_base {Hb H H2 : Heap} {M : Nat → Prop} (o : Old Hb H) (hM : ∀ b, M b → Hb.size ≤ b) (k : KeepP M H H2) : Old Hb H2 :=
  ⟨Nat.le_trans o.1 k.1, fun b hb => (k.2 b (by have := o.1; omega) (fun hm => by have := hM b hm; omega)).trans (o.2 b hb)⟩

set_option maxRecDepth 100000 in
set_option maxHeartbeats 4000000 in
theorem heavy_k {H : Heap} {v : Value} {l : List Dox} (hs : Sl 4 EDo H v l) : Ct Try.prog 7 [v] H (fun u H' => u = .bool (heavyB l) ∧ Old H H') := by
  refine Ct.mk Try.func7 rfl Try.ntmps7 rfl ?_
  intro W0 hW0
  have o0 : Old H H := Old.refl H
  have hll := hs.len
  refine KC.seq ?_
  refine KC.region ?_
  refine KL.op (R.assign rfl rfl) rfl rfl rfl ?_
  refine KL.nil ?_
  refine KQ.seq ?_
  refine KC.seq ?_
  refine KC.region ?_
  refine KL.op (R.assign rfl rfl) rfl rfl rfl ?_
  refine KL.nil ?_
  refine KQ.seq ?_
  refine KC.seq ?_
  refine KC.seq ?_
  refine KC.region ?_
  refine KL.op (R.move rfl rfl) rfl rfl rfl ?_
  refine KL.op (R.lenS rfl Try.underlying23 rfl hs) rfl rfl rfl ?_
  refine KL.op (R.move rfl rfl) rfl rfl rfl ?_
  refine KL.nil ?_
  refine KQ.seq ?_
  refine KC.block ?_
  refine KC.loopD (κ := Nat) [9, 10, 11, 5, 12, 13, 14, 15, 16, 17, 18, 19, 20, 3, 21, 22, 2, 23, 8] (fun k => [(8, .int .i64 (k : Nat)), (3, .int .i64 (wt (l.take k) : Nat))]) (fun k Hl => k ≤ l.length ∧ wt (l.take k) ≤ 2000 ∧ Old H Hl) (fun k => l.length - k) 0 ?_ ?_ ?_
  · exact (Sub.cons rfl (Sub.cons rfl (Ext.sub (Ext.refl _ _))))
  · exact ⟨Nat.zero_le _, Nat.zero_le _, o0⟩
  · rintro k H1 ⟨hk, hw, o0⟩
    have zl_H1 := o0.1
    have zl := o0.1
    refine KC.seq ?_
    refine KC.region ?_
    refine KL.op (R.lss rfl rfl rfl) rfl rfl rfl ?_
    refine KL.nil ?_
    refine KQ.seq ?_
    refine KC.seq ?_
    refine KC.iteL rfl ?_ ?_
    · intro hc9
      try simp only [decide_eq_true_eq, decide_eq_false_iff_not, Bool.not_eq_true', Bool.not_eq_false', Bool.and_eq_true, Bool.or_eq_false_iff] at hc9
      obtain ⟨vl, ve, hcx, hx1, hx2, hr1, hr2, hb1, hb2⟩ := hs.doAt k (by omega)
      have hwt := wt_take (l := l) (k := k) (by omega)
      have hwl := wt_le l (k + 1)
      refine KC.skip ?_
      refine KQ.seq ?_
      refine KC.seq ?_
      refine KC.block ?_
      refine KC.seq ?_
      refine KC.region ?_
      refine KL.op (R.index (j := k) rfl Try.underlying23 sz32 rfl rfl hs rfl (by omega)) rfl rfl rfl ?_
      refine KL.op (R.loadAgg (cs := [.int .i64 (l.getD k default).kind, vl, ve, .int .u32 (l.getD k default).n]) rfl Try.underlying32 rfl sz32 rfl (o0.cells hcx) rfl) rfl rfl rfl ?_
      refine KL.opM (M.alloc rfl zr32 rfl) rfl rfl rfl ?_
      rintro _ H2 ⟨rfl, n2⟩
      have z2 := n2.2.1
      have o0 := o0.trans n2.1
      have b2 := n2.2.2
      have bx := b2
      refine KL.opS (S.storeAgg (us := [.int .i64 (l.getD k default).kind, vl, ve, .int .u32 (l.getD k default).n]) rfl sz32 rfl rfl (rfl) (by intro u hu; simp only [List.mem_cons, List.not_mem_nil, or_false] at hu; rcases hu with rfl | rfl | rfl | rfl <;> first | rfl | exact hx1.one | exact hx2.one) bx (by simp)) rfl rfl ?_
      rintro H3 ⟨u3, b3⟩
      have o0 := o0.upd u3 (by omega)
      have zu3 := u3.1
      have bx := b3
      rw [over_all (by rfl)] at bx
      refine KL.nil ?_
      refine KQ.seq ?_
      refine KC.seq ?_
      refine KC.region ?_
      refine KL.op (R.move rfl rfl) rfl rfl rfl ?_
      refine KL.op ((by first | exact R.fieldAddr rfl Try.underlying32 rfl rfl sz22 rfl | exact R.fieldAddrP rfl Try.underlying32 rfl rfl sz22 rfl)) rfl rfl rfl ?_
      refine KL.op (R.load rfl Try.underlying22 rfl rfl (cell_of bx rfl)) rfl rfl rfl ?_
      refine KL.op (R.lenS rfl Try.underlying22 rfl hx1) rfl rfl rfl ?_
      refine KL.op ((by first | exact R.fieldAddr rfl Try.underlying32 rfl rfl sz22 rfl | exact R.fieldAddrP rfl Try.underlying32 rfl rfl sz22 rfl)) rfl rfl rfl ?_
      refine KL.op (R.load rfl Try.underlying22 rfl rfl (cell_of bx rfl)) rfl rfl rfl ?_
      refine KL.op (R.lenS rfl Try.underlying22 rfl hx2) rfl rfl rfl ?_
      refine KL.op (R.add rfl rfl rfl (by dsimp only [InR]; omega)) rfl rfl rfl ?_
      refine KL.op ((R.add rfl rfl rfl (by dsimp only [InR]; omega)).val (congrArg (Value.int .i64) (show ((wt (l.take k) : Nat) : Int) + (((l.getD k default).l.length : Nat) + ((l.getD k default).ends.length : Nat)) = (wt (l.take (k + 1)) : Nat) by omega))) rfl rfl rfl ?_
      refine KL.op (R.assign rfl rfl) rfl rfl rfl ?_
      refine KL.nil ?_
      refine KQ.seq ?_
      refine KC.seq ?_
      refine KC.region ?_
      refine KL.op (R.move rfl rfl) rfl rfl rfl ?_
      refine KL.op (R.gtr rfl rfl rfl) rfl rfl rfl ?_
      refine KL.nil ?_
      refine KQ.seq ?_
      refine KC.iteL rfl ?_ ?_
      · intro hc22
        try simp only [decide_eq_true_eq, decide_eq_false_iff_not, Bool.not_eq_true', Bool.not_eq_false', Bool.and_eq_true, Bool.or_eq_false_iff] at hc22
        refine KC.seq ?_
        refine KC.region ?_
        refine KL.op (R.assign rfl rfl) rfl rfl rfl ?_
        refine KL.nil ?_
        refine KQ.seq ?_
        refine KC.ret ?_
        refine KQ.retBlock ?_
        refine KQ.retThen ?_
        refine KQ.retThen ?_
        refine KQ.retBlock ?_
        refine KQ.retThen ?_
        refine KQ.ofRet ?_
        refine KQ.fin1 Try.results7 rfl ?_
        first
          | exact ⟨congrArg Value.bool (decide_eq_decide.2 (by omega)), o0⟩
          | exact ⟨congrArg Value.bool (decide_eq_true (show 2000 < wt l ∨ 300 < l.length by omega)).symm, o0⟩
      · intro hc22
        try simp only [decide_eq_true_eq, decide_eq_false_iff_not, Bool.not_eq_true', Bool.not_eq_false', Bool.and_eq_true, Bool.or_eq_false_iff] at hc22
        refine KC.skip ?_
        refine KQ.normBlock ?_
        refine KQ.seq ?_
        refine KC.region ?_
        refine KL.op ((R.add rfl rfl rfl (by dsimp only [InR]; omega)).val (congrArg (Value.int .i64) (show (k : Int) + 1 = ((k + 1 : Nat) : Int) by omega))) rfl rfl rfl ?_
        refine KL.op (R.move rfl rfl) rfl rfl rfl ?_
        refine KL.nil ?_
        refine KQ.again (k + 1) ?_ ?_ ?_
        · exact (Sub.cons rfl (Sub.cons rfl (Ext.sub (by repeat (first | exact Ext.refl _ _ | refine Ext.put rfl ?_ | refine Ext.drop rfl ?_)))))
        · omega
        · exact ⟨by omega, by omega, o0⟩
    · intro hc9
      try simp only [decide_eq_true_eq, decide_eq_false_iff_not, Bool.not_eq_true', Bool.not_eq_false', Bool.and_eq_true, Bool.or_eq_false_iff] at hc9
      have hkl : k = l.length := by omega
      subst hkl
      rw [List.take_length] at hw
      refine KC.exit ?_
      refine KQ.exitThen ?_
      refine KQ.exitThen ?_
      refine KQ.hit ?_
      refine KQ.seq ?_
      refine KC.seq ?_
      refine KC.region ?_
      refine KL.op (R.move rfl rfl) rfl rfl rfl ?_
      refine KL.op (R.lenS rfl Try.underlying23 rfl hs) rfl rfl rfl ?_
      refine KL.op (R.gtr rfl rfl rfl) rfl rfl rfl ?_
      refine KL.op (R.assign rfl rfl) rfl rfl rfl ?_
      refine KL.nil ?_
      refine KQ.seq ?_
      refine KC.ret ?_
      refine KQ.ofRet ?_
      refine KQ.fin1 Try.results7 rfl ?_
      first
        | exact ⟨congrArg Value.bool (decide_eq_decide.2 (by omega)), o0⟩
        | exact ⟨congrArg Value.bool (decide_eq_true (show 2000 < wt l ∨ 300 < l.length by omega)).symm, o0⟩

end Go.Proofs.Ytglopfbdnpbgeaa
