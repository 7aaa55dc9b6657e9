/- gabellelaw33.SumPlays, walked. No condition. -/
import Derived.Test.YtgpbdimccbimnaaSumN
namespace Go.Proofs.Ytgpbdimccbimnaa
open Go Go.RowKit
set_option linter.unusedVariables false
set_option linter.unusedSimpArgs false
set_option linter.unnecessarySimpa false

/-- the first so many hashers are made -/
structure HP (H : Heap) (A G0 k : Nat) (L : List HE) : Prop where
  len : L.length = k
  bA : H[A]? = some (.cells (L.map ptr ++ List.replicate (4 - k) (Value.pointer none)).toArray 28 (0, 0))
  hm : ∀ j, j < k → HMn H (L.getD j default).g (L.getD j default).v (L.getD j default).m (L.getD j default).m.length ∧ G0 ≤ (L.getD j default).g ∧ (L.getD j default).v = .slice none 0 0 ∧ (L.getD j default).m = []
  ap : ∀ i j, i < j → j < k → (L.getD i default).g ≠ (L.getD j default).g
theorem HE.Mnil {e : HE} (hv : e.v = .slice none 0 0) {b : Nat} (hb : e.M b) : b = e.g := by
  rcases hb with hb | hb
  · exact hb
  · rw [hv] at hb; exact absurd hb (Of.nil b)
theorem HP.step {H H1 H2 : Heap} {A G0 k : Nat} {L : List HE} (h : HP H A G0 k L) (hk : k < 4) (hA : A < G0) (hG : G0 ≤ H.size) (o : Old H H1) (hn : HMn H1 H.size (.slice none 0 0) [] 0) (u : Upd A H1 H2)
    (b : H2[A]? = some (.cells ((L.map ptr ++ List.replicate (4 - k) (Value.pointer none)).set k (.pointer (some ⟨H.size, 0, none⟩))).toArray 28 (0, 0))) : HP H2 A G0 (k + 1) (L ++ [⟨H.size, .slice none 0 0, []⟩]) := by
  have hl := h.len
  have hlt : ∀ j, j < k → (L ++ [(⟨H.size, .slice none 0 0, []⟩ : HE)]).getD j default = L.getD j default := fun j hj => by
    rw [List.getD_eq_getElem?_getD, List.getElem?_append_left (by omega), ← List.getD_eq_getElem?_getD]
  have hlast : (L ++ [(⟨H.size, .slice none 0 0, []⟩ : HE)]).getD k default = ⟨H.size, .slice none 0 0, []⟩ := by
    rw [List.getD_eq_getElem?_getD, List.getElem?_append_right (by omega), hl, Nat.sub_self]; rfl
  have keep : ∀ {e : HE} {n : Int}, HMn H1 e.g e.v e.m n → e.v = .slice none 0 0 → G0 ≤ e.g → HMn H2 e.g e.v e.m n := fun h hv hg => h.keepB fun b _ hm => u.2 b (by have := HE.Mnil hv hm; omega)
  refine ⟨by rw [List.length_append, hl]; rfl, ?_, fun j hj => ?_, fun i j hij hj => ?_⟩
  · rw [b]
    congr 3
    rw [List.map_append, List.set_append_right _ _ (by simp [hl]), List.length_map, hl, Nat.sub_self, show 4 - k = (4 - (k + 1)) + 1 by omega, List.replicate_succ, List.set_cons_zero, List.append_assoc]
    rfl
  · by_cases e : j = k
    · subst e
      rw [hlast]
      exact ⟨keep (e := ⟨H.size, .slice none 0 0, []⟩) hn rfl hG, hG, rfl, rfl⟩
    · rw [hlt j (by omega)]
      obtain ⟨h1, h2, h3, h4⟩ := h.hm j (by omega)
      exact ⟨keep (h1.old o) h3 h2, h2, h3, h4⟩
  · rw [hlt i (by omega)]
    by_cases e : j = k
    · subst e
      rw [hlast]
      have := blk_lt (h.hm i (by omega)).1.bg
      show _ ≠ H.size
      omega
    · rw [hlt j (by omega)]
      exact h.ap i j hij (by omega)
theorem HP.done {H : Heap} {A G0 B0 : Nat} {X : Nat → Prop} {L : List HE} (h : HP H A G0 4 L) (hA : A < G0) (hB : B0 ≤ A) (hX : ∀ b, X b → b < G0 ∧ b ≠ A) : HS B0 X H A L := by
  have hM : ∀ j, j < 4 → ∀ b, (L.getD j default).M b → b = (L.getD j default).g := fun j hj b hb => HE.Mnil (h.hm j hj).2.2.1 hb
  refine ⟨h.len, by have := h.bA; simpa using this, hB, fun j hj => ⟨(h.hm j hj).1, by have := (h.hm j hj).2.1; omega⟩, fun j hj hm => ?_, fun i j hi hj hij b hb hb2 => ?_, fun b hb => ⟨?_, fun hm => ?_⟩⟩
  · have := hM j hj A hm; have := (h.hm j hj).2.1; omega
  · have e1 := hM i hi b hb
    have e2 := hM j hj b hb2
    rcases Nat.lt_or_gt_of_ne hij with hlt | hlt
    · exact h.ap i j hlt hj (by omega)
    · exact h.ap j i hlt hi (by omega)
  · have := (hX b hb).1
    have h1 := (h.hm 0 (by omega)).2.1
    have := blk_lt (h.hm 0 (by omega)).1.bg
    omega
  · have hx := hX b hb
    rcases hm with hm | ⟨j, hj, hm⟩
    · exact hx.2 hm
    · rw [h.len] at hj
      have := hM j hj b hm
      have := (h.hm j hj).2.1
      omega
theorem HP.ms {H : Heap} {A G0 : Nat} {L : List HE} (h : HP H A G0 4 L) : L.map HE.m = [[], [], [], []] := by
  have h0 := (h.hm 0 (by omega)).2.2.2
  have h1 := (h.hm 1 (by omega)).2.2.2
  have h2 := (h.hm 2 (by omega)).2.2.2
  have h3 := (h.hm 3 (by omega)).2.2.2
  have hl := h.len
  match L, hl with
  | [a, b, c, d], _ =>
    show [a.m, b.m, c.m, d.m] = _
    rw [show a.m = [] from h0, show b.m = [] from h1, show c.m = [] from h2, show d.m = [] from h3]
theorem hw_new {H : Heap} {B B0 : Nat} {X : Nat → Prop} (b : H[B]? = some (.cells [.slice none 0 0, .slice none 0 0, .slice none 0 0, .slice none 0 0].toArray 29 (0, 0))) (hB : B0 ≤ B) (hX : ∀ b, X b → b < H.size ∧ b ≠ B) : HW B0 X H B [.slice none 0 0, .slice none 0 0, .slice none 0 0, .slice none 0 0] [[], [], [], []] :=
  ⟨rfl, b, hB, fun j hj H2 k => by match j, hj with
    | 0, _ => exact Sl.nil _ _ _
    | 1, _ => exact Sl.nil _ _ _
    | 2, _ => exact Sl.nil _ _ _
    | 3, _ => exact Sl.nil _ _ _, hX⟩
theorem mapM {L : List HE} {j : Nat} (h : j < L.length) : (L.map HE.m).getD j default = (L.getD j default).m := by
  rw [List.getD_eq_getElem?_getD, List.getElem?_map, List.getD_eq_getElem?_getD, List.getElem?_eq_getElem h]; rfl

theorem flat3 {b : List Int} {a : Nat} : [b.take a, [], b.drop a].flatten = b := by simp

theorem map_setM {L : List HE} {i : Nat} {g : Nat} {v : Value} {c : List Int} : ((L.set i ⟨g, v, c⟩).map HE.m).set i c = (L.set i ⟨g, v, c⟩).map HE.m := by
  rw [List.map_set]
  apply List.ext_getElem?
  intro k
  rw [List.getElem?_set, List.getElem?_set, List.length_set]
  split <;> rfl
theorem map_setM2 {L : List HE} {i : Nat} {e : HE} : (L.map HE.m).set i e.m = (L.set i e).map HE.m := List.map_set.symm

set_option maxRecDepth 100000 in
set_option maxHeartbeats 4000000 in
theorem SumPlays_any {H : Heap} {v : Value} {l : List Dox} (ht : Sl 5 EDo H v l) : Ct Try.prog 3 [v] H (fun u H' => u = .bool true ∧ Old H H') := by
  refine Ct.mk Try.func3 rfl Try.ntmps3 rfl ?_
  intro W0 hW0
  have o0 : Old H H := Old.refl H
  have hll := ht.len
  refine KC.seq ?_
  refine KC.region ?_
  refine KL.op (R.assign rfl rfl) rfl rfl rfl ?_
  refine KL.nil ?_
  refine KQ.seq ?_
  refine KC.seq ?_
  refine KC.seq ?_
  refine KC.region ?_
  refine KL.call rfl rfl rfl rfl Try.call7 rfl rfl rfl (known_any) ?_
  rintro _ H1 ⟨rfl, ox⟩
  have zc_H1 := (ox).1
  have o0 := o0.trans ox
  refine KL.op (R.not rfl rfl) rfl rfl rfl ?_
  refine KL.nil ?_
  refine KQ.seq ?_
  refine KC.condF rfl ?_
  refine KC.skip ?_
  refine KQ.seq ?_
  refine KC.seq ?_
  refine KC.region ?_
  refine KL.op (R.assign rfl rfl) rfl rfl rfl ?_
  refine KL.nil ?_
  refine KQ.seq ?_
  refine KC.seq ?_
  refine KC.seq ?_
  refine KC.region ?_
  refine KL.op (R.move rfl rfl) rfl rfl rfl ?_
  refine KL.op (R.lenS rfl Try.underlying22 rfl ht) rfl rfl rfl ?_
  refine KL.op (R.move rfl rfl) rfl rfl rfl ?_
  refine KL.nil ?_
  refine KQ.seq ?_
  refine KC.block ?_
  refine KC.loopD (κ := Nat) [20, 21, 22, 5, 23, 24, 25, 26, 27, 3, 28, 29, 30, 31, 32, 33, 34, 2, 35, 19] (fun k => [(19, .int .i64 (k : Nat)), (3, .int .i64 (wt (l.take k) : Nat))]) (fun k Hl => k ≤ l.length ∧ wt (l.take k) ≤ 2000 ∧ Old H Hl) (fun k => l.length - k) 0 ?_ ?_ ?_
  · exact (Sub.cons rfl (Sub.cons rfl (Ext.sub (Ext.refl _ _))))
  · exact ⟨Nat.zero_le _, Nat.zero_le _, o0⟩
  · rintro k H2 ⟨hk, hw, o0⟩
    have zl_H2 := o0.1
    have zl := o0.1
    refine KC.seq ?_
    refine KC.region ?_
    refine KL.op (R.lss rfl rfl rfl) rfl rfl rfl ?_
    refine KL.nil ?_
    refine KQ.seq ?_
    refine KC.seq ?_
    refine KC.iteL rfl ?_ ?_
    · intro hc20
      try simp only [decide_eq_true_eq, decide_eq_false_iff_not, Bool.not_eq_true', Bool.not_eq_false', Bool.and_eq_true, Bool.or_eq_false_iff] at hc20
      obtain ⟨vb, hcx, hx1, hr1, hr2, hr3, hr4, hb1⟩ := ht.doAt k (by omega)
      have hwt := wt_take (l := l) (k := k) (by omega)
      refine KC.skip ?_
      refine KQ.seq ?_
      refine KC.seq ?_
      refine KC.block ?_
      refine KC.seq ?_
      refine KC.region ?_
      refine KL.op (R.index (j := k) rfl Try.underlying22 sz26 rfl rfl ht rfl (by omega)) rfl rfl rfl ?_
      refine KL.op (R.loadAgg (cs := [.int .u8 (l.getD k default).kind, .int .u8 (l.getD k default).which, .int .u8 (l.getD k default).frm, vb, .int .u8 (l.getD k default).cut]) rfl Try.underlying26 rfl sz26 rfl (o0.cells hcx) rfl) rfl rfl rfl ?_
      refine KL.opM (M.alloc rfl zr26 rfl) rfl rfl rfl ?_
      rintro _ H3 ⟨rfl, n3⟩
      have z3 := n3.2.1
      have o0 := o0.trans n3.1
      have b3 := n3.2.2
      have bx := b3
      refine KL.opS (S.storeAgg (us := [.int .u8 (l.getD k default).kind, .int .u8 (l.getD k default).which, .int .u8 (l.getD k default).frm, vb, .int .u8 (l.getD k default).cut]) rfl sz26 rfl rfl (rfl) (by intro u hu; simp only [List.mem_cons, List.not_mem_nil, or_false] at hu; rcases hu with rfl | rfl | rfl | rfl | rfl <;> first | rfl | exact hx1.one) bx (by simp)) rfl rfl ?_
      rintro H4 ⟨u4, b4⟩
      have o0 := o0.upd u4 (by omega)
      have zu4 := u4.1
      have bx := b4
      rw [Sha.put_all (by rfl)] at bx
      refine KL.nil ?_
      refine KQ.seq ?_
      refine KC.seq ?_
      refine KC.region ?_
      refine KL.op (R.move rfl rfl) rfl rfl rfl ?_
      refine KL.op ((by first | exact R.fieldAddr rfl Try.underlying26 rfl rfl sz24 rfl | exact R.fieldAddrP rfl Try.underlying26 rfl rfl sz24 rfl)) rfl rfl rfl ?_
      refine KL.op (R.load rfl Try.underlying24 rfl rfl (cell_of bx rfl)) rfl rfl rfl ?_
      refine KL.op (R.lenS rfl Try.underlying24 rfl hx1) rfl rfl rfl ?_
      refine KL.op ((R.add rfl rfl rfl (by dsimp only [InR]; omega)).val (congrArg (Value.int .i64) (show ((wt (l.take k) : Nat) : Int) + ((l.getD k default).b.length : Nat) = (wt (l.take (k + 1)) : Nat) by omega))) rfl rfl rfl ?_
      refine KL.op (R.assign rfl rfl) rfl rfl rfl ?_
      refine KL.nil ?_
      refine KQ.seq ?_
      refine KC.seq ?_
      refine KC.region ?_
      refine KL.op (R.move rfl rfl) rfl rfl rfl ?_
      refine KL.op (R.lenS rfl Try.underlying22 rfl ht) rfl rfl rfl ?_
      refine KL.op (R.gtr rfl rfl rfl) rfl rfl rfl ?_
      refine KL.op (R.move rfl rfl) rfl rfl rfl ?_
      refine KL.case (d := 31) rfl ?_ ?_
      · intro hg31
        try simp only [decide_eq_true_eq, decide_eq_false_iff_not, Bool.not_eq_true', Bool.not_eq_false', Bool.and_eq_true, Bool.or_eq_false_iff] at hg31
        refine KL.skip rfl rfl rfl ?_
        refine KL.skip rfl rfl rfl ?_
        refine KL.op (R.pick rfl rfl rfl) rfl rfl rfl ?_
        refine KL.nil ?_
        refine KQ.seq ?_
        refine KC.condT rfl ?_
        refine KC.seq ?_
        refine KC.region ?_
        refine KL.op (R.assign rfl rfl) rfl rfl rfl ?_
        refine KL.nil ?_
        refine KQ.seq ?_
        refine KC.ret ?_
        refine KQ.retBlock ?_
        refine KQ.retThen ?_
        refine KQ.retThen ?_
        refine KQ.retBlock ?_
        refine KQ.retThen ?_
        refine KQ.ofRet ?_
        refine KQ.fin1 Try.results3 rfl ?_
        exact ⟨rfl, o0⟩
      · intro hg31
        try simp only [decide_eq_true_eq, decide_eq_false_iff_not, Bool.not_eq_true', Bool.not_eq_false', Bool.and_eq_true, Bool.or_eq_false_iff] at hg31
        refine KL.op (R.move rfl rfl) rfl rfl rfl ?_
        refine KL.op (R.gtr rfl rfl rfl) rfl rfl rfl ?_
        refine KL.op (R.pick rfl rfl rfl) rfl rfl rfl ?_
        refine KL.nil ?_
        refine KQ.seq ?_
        refine KC.iteL rfl ?_ ?_
        · intro hc34
          try simp only [decide_eq_true_eq, decide_eq_false_iff_not, Bool.not_eq_true', Bool.not_eq_false', Bool.and_eq_true, Bool.or_eq_false_iff] at hc34
          refine KC.seq ?_
          refine KC.region ?_
          refine KL.op (R.assign rfl rfl) rfl rfl rfl ?_
          refine KL.nil ?_
          refine KQ.seq ?_
          refine KC.ret ?_
          refine KQ.retBlock ?_
          refine KQ.retThen ?_
          refine KQ.retThen ?_
          refine KQ.retBlock ?_
          refine KQ.retThen ?_
          refine KQ.ofRet ?_
          refine KQ.fin1 Try.results3 rfl ?_
          exact ⟨rfl, o0⟩
        · intro hc34
          try simp only [decide_eq_true_eq, decide_eq_false_iff_not, Bool.not_eq_true', Bool.not_eq_false', Bool.and_eq_true, Bool.or_eq_false_iff] at hc34
          refine KC.skip ?_
          refine KQ.normBlock ?_
          refine KQ.seq ?_
          refine KC.region ?_
          refine KL.op ((R.add rfl rfl rfl (by dsimp only [InR]; omega)).val (congrArg (Value.int .i64) (show (k : Int) + 1 = ((k + 1 : Nat) : Int) by omega))) rfl rfl rfl ?_
          refine KL.op (R.move rfl rfl) rfl rfl rfl ?_
          refine KL.nil ?_
          refine KQ.again (k + 1) ?_ ?_ ?_
          · exact (Sub.cons rfl (Sub.cons rfl (Ext.sub (by repeat (first | exact Ext.refl _ _ | refine Ext.put rfl ?_ | refine Ext.drop rfl ?_)))))
          · omega
          · exact ⟨by omega, by omega, o0⟩
    · intro hc20
      try simp only [decide_eq_true_eq, decide_eq_false_iff_not, Bool.not_eq_true', Bool.not_eq_false', Bool.and_eq_true, Bool.or_eq_false_iff] at hc20
      have hkl : k = l.length := by omega
      subst hkl
      rw [List.take_length] at hw
      have hwl := hw
      refine KC.exit ?_
      refine KQ.exitThen ?_
      refine KQ.exitThen ?_
      refine KQ.hit ?_
      refine KQ.seq ?_
      refine KC.seq ?_
      refine KC.region ?_
      refine KL.opM (M.alloc rfl zr28 rfl) rfl rfl rfl ?_
      rintro _ H5 ⟨rfl, n5⟩
      have z5 := n5.2.1
      have o0 := o0.trans n5.1
      have b5 := n5.2.2
      have bA := b5
      refine KL.nil ?_
      refine KQ.seq ?_
      refine KC.seq ?_
      refine KC.region ?_
      refine KL.opM (M.alloc rfl zr29 rfl) rfl rfl rfl ?_
      rintro _ H6 ⟨rfl, n6⟩
      have z6 := n6.2.1
      have o0 := o0.trans n6.1
      have bA := (n6.1).blk bA
      have b6 := n6.2.2
      have bB := b6
      refine KL.nil ?_
      refine KQ.seq ?_
      refine KC.seq ?_
      refine KC.seq ?_
      refine KC.region ?_
      refine KL.op (R.move rfl rfl) rfl rfl rfl ?_
      refine KL.nil ?_
      refine KQ.seq ?_
      refine KC.block ?_
      have zG := o0.1
      refine KC.loopD (κ := Nat) [37, 38, 8, 39, 40, 41, 42, 36] (fun k => [(36, .int .i64 (k : Nat))]) (fun k Hl => k ≤ 4 ∧ Old H Hl ∧ Array.size H6 ≤ Hl.size ∧ Hl[(Array.size H5)]? = some (.cells [.slice none 0 0, .slice none 0 0, .slice none 0 0, .slice none 0 0].toArray 29 (0, 0)) ∧ ∃ L, HP Hl (Array.size H2) (Array.size H6) k L) (fun k => 4 - k) 0 ?_ ?_ ?_
      · exact (Sub.cons rfl (Ext.sub (Ext.refl _ _)))
      · exact ⟨Nat.zero_le _, o0, Nat.le_refl _, bB, [], rfl, bA, fun j hj => by omega, fun i j hij hj => by omega⟩
      · rintro k H7 ⟨hk, o0, zGl, bB, L, hp⟩
        have zl_H7 := o0.1
        have zl := o0.1
        have bA := hp.bA
        refine KC.seq ?_
        refine KC.region ?_
        refine KL.op (R.lss rfl rfl rfl) rfl rfl rfl ?_
        refine KL.nil ?_
        refine KQ.seq ?_
        refine KC.seq ?_
        refine KC.iteL rfl ?_ ?_
        · intro hc37
          try simp only [decide_eq_true_eq, decide_eq_false_iff_not, Bool.not_eq_true', Bool.not_eq_false', Bool.and_eq_true, Bool.or_eq_false_iff] at hc37
          refine KC.skip ?_
          refine KQ.seq ?_
          refine KC.seq ?_
          refine KC.block ?_
          refine KC.seq ?_
          refine KC.region ?_
          refine KL.op (R.move rfl rfl) rfl rfl rfl ?_
          refine KL.op (R.assign rfl rfl) rfl rfl rfl ?_
          refine KL.nil ?_
          refine KQ.seq ?_
          refine KC.region ?_
          refine KL.op (R.move rfl rfl) rfl rfl rfl ?_
          have hpX := hp
          refine KL.call rfl rfl rfl rfl Try.call8 rfl rfl rfl (New_any) ?_
          rintro _ H8 ⟨rfl, hm0, ox, zx⟩
          have zc_H8 := (ox).1
          have o0 := o0.trans ox
          have bB := (ox).blk bB
          have bA := ox.blk bA
          have oxN := ox
          refine KL.op ((R.indexAddrArr (j := k) rfl Try.underlying28 sz27 rfl rfl (by first | rfl | omega) (by omega)).val (congrArg (fun p => Value.pointer (some p)) (addrA _ _))) rfl rfl rfl ?_
          refine KL.opS (S.store rfl sz27 rfl rfl rfl rfl bA (by simp [hpX.len]; omega)) rfl rfl ?_
          rintro H9 ⟨u9, b9⟩
          have o0 := o0.upd u9 (by omega)
          have zu9 := u9.1
          have bB := ((u9).2 _ (by omega)).trans bB
          have bA := b9
          have hp2 := hpX.step (by omega) (by omega) (by omega) oxN hm0 u9 bA
          refine KL.nil ?_
          refine KQ.normBlock ?_
          refine KQ.seq ?_
          refine KC.region ?_
          refine KL.op ((R.add rfl rfl rfl (by dsimp only [InR]; omega)).val (congrArg (Value.int .i64) (show (k : Int) + 1 = ((k + 1 : Nat) : Int) by omega))) rfl rfl rfl ?_
          refine KL.op (R.move rfl rfl) rfl rfl rfl ?_
          refine KL.nil ?_
          refine KQ.again (k + 1) ?_ ?_ ?_
          · exact (Sub.cons rfl (Ext.sub (by repeat (first | exact Ext.refl _ _ | refine Ext.put rfl ?_ | refine Ext.drop rfl ?_))))
          · omega
          · exact ⟨by omega, o0, by omega, bB, _, hp2⟩
        · intro hc37
          try simp only [decide_eq_true_eq, decide_eq_false_iff_not, Bool.not_eq_true', Bool.not_eq_false', Bool.and_eq_true, Bool.or_eq_false_iff] at hc37
          have hk4 : k = 4 := by omega
          subst hk4
          refine KC.exit ?_
          refine KQ.exitThen ?_
          refine KQ.exitThen ?_
          refine KQ.hit ?_
          refine KQ.seq ?_
          refine KC.seq ?_
          refine KC.seq ?_
          have hh : HS H.size (fun b => b = (Array.size H5)) H7 (Array.size H2) L := hp.done (by omega) (by omega) (fun b hb => by subst hb; exact ⟨by omega, by omega⟩)
          have hw : HW H.size (M1 (Array.size H2) L) H7 (Array.size H5) [.slice none 0 0, .slice none 0 0, .slice none 0 0, .slice none 0 0] (L.map HE.m) := by
            rw [hp.ms]
            exact hw_new bB (by omega) (fun b hb => ⟨(hh.low b hb).2, fun e => (hh.hX _ rfl).2 (e ▸ hb)⟩)
          have hlm : ∀ j, j < 4 → (L.getD j default).m.length ≤ wt (l.take 0) := fun j hj => by rw [(hp.hm j hj).2.2.2]; exact Nat.zero_le _
          refine KC.region ?_
          refine KL.op (R.move rfl rfl) rfl rfl rfl ?_
          refine KL.op (R.lenS rfl Try.underlying22 rfl ht) rfl rfl rfl ?_
          refine KL.op (R.move rfl rfl) rfl rfl rfl ?_
          refine KL.nil ?_
          refine KQ.seq ?_
          refine KC.block ?_
          refine KC.loopD (κ := Nat) [46, 47, 48, 10, 49, 50, 51, 52, 53, 54, 11, 12, 55, 56, 58, 57, 59, 60, 61, 62, 63, 64, 65, 66, 13, 67, 68, 69, 70, 71, 72, 73, 74, 75, 76, 77, 78, 79, 80, 81, 82, 83, 84, 85, 86, 87, 88, 89, 91, 90, 92, 93, 94, 95, 96, 97, 98, 99, 100, 101, 102, 103, 104, 105, 106, 107, 108, 109, 110, 111, 112, 113, 114, 115, 116, 117, 118, 119, 120, 121, 122, 123, 124, 125, 126, 127, 128, 129, 2, 130, 45] (fun k => [(45, .int .i64 (k : Nat))]) (fun k Hl => k ≤ l.length ∧ Old H Hl ∧ ∃ L W, HS H.size (fun b => b = (Array.size H5)) Hl (Array.size H2) L ∧ HW H.size (M1 (Array.size H2) L) Hl (Array.size H5) W (L.map HE.m) ∧ (∀ j, j < 4 → (L.getD j default).m.length ≤ wt (l.take k))) (fun k => l.length - k) 0 ?_ ?_ ?_
          · exact (Sub.cons rfl (Ext.sub (Ext.refl _ _)))
          · exact ⟨Nat.zero_le _, o0, L, _, hh, hw, hlm⟩
          · rintro k H10 ⟨hk, o0, L, W, hh, hw, hlm⟩
            have zl_H10 := o0.1
            have zl := o0.1
            refine KC.seq ?_
            refine KC.region ?_
            refine KL.op (R.lss rfl rfl rfl) rfl rfl rfl ?_
            refine KL.nil ?_
            refine KQ.seq ?_
            refine KC.seq ?_
            refine KC.iteL rfl ?_ ?_
            · intro hc46
              try simp only [decide_eq_true_eq, decide_eq_false_iff_not, Bool.not_eq_true', Bool.not_eq_false', Bool.and_eq_true, Bool.or_eq_false_iff] at hc46
              obtain ⟨vb, hcx, hx1, hr1, hr2, hr3, hr4, hb1⟩ := ht.doAt k (by omega)
              have hwt := wt_take (l := l) (k := k) (by omega)
              have hwle := wt_le l (k + 1)
              dsimp only [InR] at hr1 hr2 hr3 hr4
              obtain ⟨i, hi0⟩ : ∃ i : Nat, (l.getD k default).which % 4 = (i : Int) := ⟨((l.getD k default).which % 4).toNat, by omega⟩
              obtain ⟨q, hq0⟩ : ∃ q : Nat, (l.getD k default).frm % 4 = (q : Int) := ⟨((l.getD k default).frm % 4).toNat, by omega⟩
              have hi : i < 4 := by omega
              have hq : q < 4 := by omega
              obtain ⟨at_, hat0⟩ : ∃ a : Nat, (l.getD k default).cut % (((l.getD k default).b.length + 1 : Nat) : Int) = (a : Int) := ⟨((l.getD k default).cut % (((l.getD k default).b.length + 1 : Nat) : Int)).toNat, by have := Int.emod_nonneg (l.getD k default).cut (b := (((l.getD k default).b.length + 1 : Nat) : Int)) (by omega); omega⟩
              have hat : at_ ≤ (l.getD k default).b.length := by have := Int.emod_lt_of_pos (l.getD k default).cut (b := (((l.getD k default).b.length + 1 : Nat) : Int)) (by omega); omega
              refine KC.skip ?_
              refine KQ.seq ?_
              refine KC.seq ?_
              refine KC.block ?_
              refine KC.seq ?_
              have hbs : ¬ M1 (Array.size H2) L (Array.size H10) := fun hm => by have := (hh.low _ hm).2; omega
              have oP : Old H10 H10 := Old.refl _
              have hhP := hh
              have hwP := hw
              have zP := o0.1
              refine KC.region ?_
              refine KL.op (R.index (j := k) rfl Try.underlying22 sz26 rfl rfl ht rfl (by omega)) rfl rfl rfl ?_
              refine KL.op (R.loadAgg (cs := [.int .u8 (l.getD k default).kind, .int .u8 (l.getD k default).which, .int .u8 (l.getD k default).frm, vb, .int .u8 (l.getD k default).cut]) rfl Try.underlying26 rfl sz26 rfl (o0.cells hcx) rfl) rfl rfl rfl ?_
              refine KL.opM (M.alloc rfl zr26 rfl) rfl rfl rfl ?_
              rintro _ H11 ⟨rfl, n11⟩
              have z11 := n11.2.1
              have o0 := o0.trans n11.1
              have hh := hh.old n11.1
              have hw := hw.old n11.1
              have oP := oP.trans n11.1
              have b11 := n11.2.2
              have bx := b11
              refine KL.opS (S.storeAgg (us := [.int .u8 (l.getD k default).kind, .int .u8 (l.getD k default).which, .int .u8 (l.getD k default).frm, vb, .int .u8 (l.getD k default).cut]) rfl sz26 rfl rfl (rfl) (by intro u hu; simp only [List.mem_cons, List.not_mem_nil, or_false] at hu; rcases hu with rfl | rfl | rfl | rfl | rfl <;> first | rfl | exact hx1.one) bx (by simp)) rfl rfl ?_
              rintro H12 ⟨u12, b12⟩
              have o0 := o0.upd u12 (by omega)
              have zu12 := u12.1
              have oP := oP.upd u12 (by omega)
              have bx := b12
              rw [Sha.put_all (by rfl)] at bx
              have hh := hhP.old oP
              have hw := hwP.old oP
              refine KL.nil ?_
              refine KQ.seq ?_
              refine KC.seq ?_
              refine KC.quiet (by kernel_rfl) (by kernel_rfl) ?_
              refine KD.op ((by first | exact R.fieldAddr rfl Try.underlying26 rfl rfl sz5 rfl | exact R.fieldAddrP rfl Try.underlying26 rfl rfl sz5 rfl)) rfl rfl rfl ?_
              refine KD.op (R.load rfl Try.underlying5 rfl rfl (cell_of bx rfl)) rfl rfl rfl ?_
              refine KD.op ((R.rem rfl rfl rfl (by omega) (by omega)).val (congrArg (Value.int .u8) hi0)) rfl rfl rfl ?_
              refine KD.op ((by first | exact R.fieldAddr rfl Try.underlying26 rfl rfl sz5 rfl | exact R.fieldAddrP rfl Try.underlying26 rfl rfl sz5 rfl)) rfl rfl rfl ?_
              refine KD.op (R.load rfl Try.underlying5 rfl rfl (cell_of bx rfl)) rfl rfl rfl ?_
              refine KD.op ((R.rem rfl rfl rfl (by omega) (by omega)).val (congrArg (Value.int .u8) hq0)) rfl rfl rfl ?_
              refine KD.op (R.assign rfl rfl) rfl rfl rfl ?_
              refine KD.op (R.assign rfl rfl) rfl rfl rfl ?_
              refine KD.nil ?_
              refine KQ.seq ?_
              refine KC.seq ?_
              refine KC.cutD (κ := Unit) [55, 56, 58, 57, 59, 60, 61, 62, 63, 64, 65, 66, 13, 67, 68, 69, 70, 71, 72, 73, 74, 75, 76, 77, 78, 79, 80, 81, 82, 83, 84, 85, 86, 87, 88, 89, 91, 90, 92, 93, 94, 95, 96, 97, 98, 99, 100, 101, 102] (fun _ => []) (fun _ Hl => Old H Hl ∧ ∃ L W, HS H.size (fun b => b = (Array.size H5)) Hl (Array.size H2) L ∧ HW H.size (M1 (Array.size H2) L) Hl (Array.size H5) W (L.map HE.m) ∧ (∀ j, j < 4 → (L.getD j default).m.length ≤ wt (l.take (k + 1)))) ?_ ?_
              · skip
                refine KC.seq ?_
                refine KC.region ?_
                refine KL.op ((by first | exact R.fieldAddr rfl Try.underlying26 rfl rfl sz5 rfl | exact R.fieldAddrP rfl Try.underlying26 rfl rfl sz5 rfl)) rfl rfl rfl ?_
                refine KL.op (R.load rfl Try.underlying5 rfl rfl (cell_of bx rfl)) rfl rfl rfl ?_
                refine KL.nil ?_
                refine KQ.seq ?_
                refine KC.block ?_
                refine KC.seq ?_
                refine KC.region ?_
                refine KL.op (R.eql rfl rfl rfl) rfl rfl rfl ?_
                refine KL.op (R.assign rfl rfl) rfl rfl rfl ?_
                refine KL.nil ?_
                refine KQ.seq ?_
                refine KC.iteL rfl ?_ ?_
                · intro hc57
                  try simp only [decide_eq_true_eq, decide_eq_false_iff_not, Bool.not_eq_true', Bool.not_eq_false', Bool.and_eq_true, Bool.or_eq_false_iff] at hc57
                  refine KC.seq ?_
                  refine KC.region ?_
                  refine KL.op ((by first | exact R.fieldAddr rfl Try.underlying26 rfl rfl sz5 rfl | exact R.fieldAddrP rfl Try.underlying26 rfl rfl sz5 rfl)) rfl rfl rfl ?_
                  refine KL.op (R.load rfl Try.underlying5 rfl rfl (cell_of bx rfl)) rfl rfl rfl ?_
                  refine KL.op (R.convI rfl Try.underlying5 Try.underlying3 rfl (by dsimp only [InR]; omega)) rfl rfl rfl ?_
                  refine KL.op ((by first | exact R.fieldAddr rfl Try.underlying26 rfl rfl sz24 rfl | exact R.fieldAddrP rfl Try.underlying26 rfl rfl sz24 rfl)) rfl rfl rfl ?_
                  refine KL.op (R.load rfl Try.underlying24 rfl rfl (cell_of bx rfl)) rfl rfl rfl ?_
                  refine KL.op (R.lenS rfl Try.underlying24 rfl hx1) rfl rfl rfl ?_
                  refine KL.op ((R.add rfl rfl rfl (by dsimp only [InR]; omega)).val (congrArg (Value.int .i64) (show ((l.getD k default).b.length : Int) + 1 = (((l.getD k default).b.length + 1 : Nat) : Int) by omega))) rfl rfl rfl ?_
                  refine KL.op ((R.rem rfl rfl rfl (by omega) (by omega)).val (congrArg (Value.int .i64) hat0)) rfl rfl rfl ?_
                  refine KL.op (R.assign rfl rfl) rfl rfl rfl ?_
                  refine KL.nil ?_
                  refine KQ.seq ?_
                  refine KC.seq ?_
                  have oq : Old H12 H12 := Old.refl _
                  have hh0 := hh
                  have hw0 := hw
                  have bx0 := bx
                  have hHi := (hh.hm i hi).1
                  have hgl := (hh.hm i hi).2
                  have hlen := hh.len
                  have hmi := hlm i hi
                  have hlow := hh.low
                  have zq := o0.1
                  refine KC.text (clOf [(11, 2), (12, 2)]) (fun i Hc => (i = 2 ∨ i = 4 ∨ i = 8) → Old H12 Hc) (by kernel_rfl) (by kernel_rfl) (fun _ _ => oq) ?_
                  refine KP.op rfl (fun Hg hg => R.move rfl rfl) rfl rfl rfl ?_
                  refine KP.op rfl (fun Hg hg => (R.indexAddrArr (j := i) rfl Try.underlying28 sz27 rfl rfl (by first | rfl | omega) (by omega)).val (congrArg (fun p => Value.pointer (some p)) (addrA _ _))) rfl rfl rfl ?_
                  refine KP.op rfl (fun Hg hg => R.load rfl Try.underlying27 rfl rfl (cell_of ((hg (by omega)).blk hh0.bA) (nth_ptr (by omega)))) rfl rfl rfl ?_
                  refine KP.op rfl (fun Hg hg => (by first | exact R.fieldAddr rfl Try.underlying26 rfl rfl sz24 rfl | exact R.fieldAddrP rfl Try.underlying26 rfl rfl sz24 rfl)) rfl rfl rfl ?_
                  refine KP.op rfl (fun Hg hg => R.load rfl Try.underlying24 rfl rfl (cell_of ((hg (by omega)).blk bx0) rfl)) rfl rfl rfl ?_
                  refine KP.op rfl (fun Hg hg => R.move rfl rfl) rfl rfl rfl ?_
                  refine KP.op rfl (fun Hg hg => R.sliceToS (j := at_) rfl Try.underlying24 sz5 rfl rfl hx1 rfl hat) rfl rfl rfl ?_
                  refine KP.op rfl (fun Hg hg => (by first | exact R.fieldAddr rfl Try.underlying26 rfl rfl sz24 rfl | exact R.fieldAddrP rfl Try.underlying26 rfl rfl sz24 rfl)) rfl rfl rfl ?_
                  refine KP.op rfl (fun Hg hg => R.load rfl Try.underlying24 rfl rfl (cell_of ((hg (by omega)).blk bx0) rfl)) rfl rfl rfl ?_
                  refine KP.op rfl (fun Hg hg => R.move rfl rfl) rfl rfl rfl ?_
                  refine KP.op rfl (fun Hg hg => R.slice (i := at_) (j := (l.getD k default).b.length) rfl Try.underlying24 sz5 rfl hx1 (bnd.mk rfl rfl) bnd.no hat (Nat.le_refl _)) rfl rfl rfl ?_
                  refine KP.opM rfl (M.lit rfl Try.underlying50 zs24 (by decide) rfl rfl (by obtain ⟨a2, c2, hv2⟩ := hx1.val; rw [hv2]; rfl)) rfl rfl rfl (fun _ _ hR j _ _ _ => oq.trans hR.2.1) ?_
                  rintro _ H13 ⟨rfl, n13⟩
                  have z13 := n13.2.1
                  have o0 := o0.trans n13.1
                  have hh := hh.old n13.1
                  have hw := hw.old n13.1
                  have oq := oq.trans n13.1
                  have b13 := n13.2.2
                  have hvr := hHi.wr.lt
                  have hfl : flatV [toV vb at_, .slice none 0 0, subV 1 vb at_ (l.getD k default).b.length] = [toV vb at_, .slice none 0 0, subV 1 vb at_ (l.getD k default).b.length] := by obtain ⟨a2, c2, hv2⟩ := hx1.val; rw [hv2]; rfl
                  have blt := b13
                  rw [hfl] at blt
                  have zoq := oq.1
                  have hst1 := stab_lit (g := (L.getD i default).g) (vr := (L.getD i default).v) (ls := [(l.getD k default).b.take at_, [], (l.getD k default).b.drop at_]) (vs := [toV vb at_, .slice none 0 0, subV 1 vb at_ (l.getD k default).b.length]) blt rfl (by unfold maxLen; simp) (by
                    intro j v l2 hj hl
                    match j, hj, hl with
                    | 0, hj, hl =>
                      cases hj; cases hl
                      refine ⟨((hx1.old o0).to hat), ?_⟩
                      by_cases h0 : (l.getD k default).b.length = 0
                      · exact .inl (List.eq_nil_of_length_eq_zero (by rw [List.length_take]; omega))
                      · have hbl := hx1.blkLt (by decide) (by omega)
                        exact .inr ⟨by rw [toV_block]; omega, by rw [toV_block]; omega, hvr.imp id (fun h => by rw [toV_block]; omega)⟩
                    | 1, hj, hl => cases hj; cases hl; exact ⟨Sl.nil _ _ _, .inl rfl⟩
                    | 2, hj, hl =>
                      cases hj; cases hl
                      have hsub := (hx1.old o0).sub (lo := at_) (hi := (l.getD k default).b.length) hat (Nat.le_refl _)
                      rw [List.take_length] at hsub
                      refine ⟨hsub, ?_⟩
                      by_cases h0 : (l.getD k default).b.length = 0
                      · exact .inl (List.eq_nil_of_length_eq_zero (by rw [List.length_drop]; omega))
                      · have hbl := hx1.blkLt (by decide) (by omega)
                        exact .inr ⟨by rw [subV_block]; omega, by rw [subV_block]; omega, hvr.imp id (fun h => by rw [subV_block]; omega)⟩) (by have := blk_lt hHi.bg; omega) (hvr.imp id (fun h => by omega))
                  refine KP.call rfl rfl rfl rfl rfl Try.call9 rfl rfl rfl (Write_any _ _ _ _ _ (hHi.old oq) hst1 (by rw [flat3]; omega)) (fun _ _ h j hj1 hj2 hj => by rcases hj with rfl | rfl | rfl <;> exact absurd (by decide +kernel) hj2) ?_
                  rintro _ H14 ⟨rfl, vr2, hm2, f2, nx2⟩
                  rw [flat3] at hm2
                  have hkk : ∀ b, b < Array.size H13 → ¬ (L.getD i default).M b → H14[b]? = H13[b]? := fun b hb hm => f2.2 b hb (fun e => hm (.inl e)) (Classical.byCases .inl (fun e => .inr (fun e2 => hm (.inr ⟨e, e2⟩))))
                  obtain ⟨hh, st⟩ := (hh0.old oq).put (e := ⟨(L.getD i default).g, vr2, (L.getD i default).m ++ (l.getD k default).b⟩) hi f2.1 (by rw [set_same (e := ⟨(L.getD i default).g, vr2, (L.getD i default).m ++ (l.getD k default).b⟩) (by omega) rfl]; exact (hkk _ (blk_lt (hh0.old oq).bA) (hh0.na i hi)).trans (hh0.old oq).bA) (fun b hb _ hm => hkk b hb hm) hm2 hgl (fun b hb => hb.elim (fun e => .inl (.inl e)) (fun hb => (nx2.of hb).imp .inr id))
                  have hob := st.oldB (B0 := H.size) (by omega) (fun b hb => (hlow b hb).1)
                  have bx1 := st.blk hbs (oq.blk bx0)
                  have hw := (hw0.old oq).other st (fun b hb => (hh.low b hb).2)
                  have z_hob := hob.1
                  have o0 := o0.then hob (by omega)
                  refine KP.nil ?_
                  refine KQ.seq ?_
                  have oq : Old H14 H14 := Old.refl _
                  have hh0 := hh
                  have hw0 := hw
                  have bB := hw.bB
                  have bB0 := bB
                  have hWn := hw.len
                  have zq := o0.1
                  have hBl := hw.hB
                  have hBt := blk_lt hw.bB
                  have hSi := hw.hw i hi _ (KeepP.refl _ _)
                  rw [mapM (by omega)] at hSi
                  refine KC.text (clOf [(1, 2), (5, 2), (8, 2), (10, 2)]) (fun i Hc => (i = 4 ∨ i = 7) → Old H14 Hc) (by kernel_rfl) (by kernel_rfl) (fun _ _ => oq) ?_
                  refine KP.op rfl (fun Hg hg => R.move rfl rfl) rfl rfl rfl ?_
                  refine KP.opM rfl (M.lit rfl Try.underlying24 zs5 (by decide) rfl rfl rfl) rfl rfl rfl (fun _ _ hR j _ _ _ => oq.trans hR.2.1) ?_
                  rintro _ H15 ⟨rfl, n15⟩
                  have z15 := n15.2.1
                  have o0 := o0.trans n15.1
                  have hh := hh.old n15.1
                  have hw := hw.old n15.1
                  have oq := oq.trans n15.1
                  have bB := (n15.1).blk bB
                  have b15 := n15.2.2
                  have w5 : Own 1 (EInt .u8) 5 #[] (Array.size H14) H15 (.slice (some ⟨Array.size H14, 0, none⟩) 0 0) [] := Own.litI (l := []) n15 (Nat.le_refl _) rfl (by decide) (by intro x hx; cases hx)
                  have zoq := oq.1
                  refine KP.op rfl (fun Hg hg => R.move rfl rfl) rfl rfl rfl ?_
                  refine KP.op rfl (fun Hg hg => (R.indexAddrArr (j := i) rfl Try.underlying29 sz24 rfl rfl (by first | rfl | omega) (by omega)).val (congrArg (fun p => Value.pointer (some p)) (addrA _ _))) rfl rfl rfl ?_
                  refine KP.op rfl (fun Hg hg => R.load rfl Try.underlying24 rfl rfl (cell_of ((hg (by omega)).blk bB0) (nthG (by omega)))) rfl rfl rfl ?_
                  have lt16 := w5.lt
                  refine KP.opM rfl (M.append rfl Try.underlying24 inf5 rfl (by decide) rfl rfl w5 (by exact hSi.old oq) (fun _ _ h _ => h) (by omega) (by simp only [List.length_nil]; omega) (by unfold maxLen; simp only [List.length_nil]; omega)) rfl rfl rfl (fun _ _ hR j _ _ _ => oq.then (hR.2.oldB w5 (by omega)) (Nat.le_refl _)) ?_
                  rintro v5 H16 ⟨w16, g16⟩
                  try dsimp only at g16
                  have ob16 := g16.oldB w5 (by omega)
                  have o0 := o0.then ob16 (by omega)
                  have z16 := ob16.1
                  have oq := oq.then ob16 (by omega)
                  have bB := (g16.2 _ (blk_lt bB) (by first | exact .inr (by omega) | exact .inl rfl | exact lt16.imp id (fun h => by omega))).trans bB
                  have w5 := w16
                  rw [List.nil_append] at w5
                  refine KP.op rfl (fun Hg hg => (by first | exact R.fieldAddr rfl Try.underlying26 rfl rfl sz24 rfl | exact R.fieldAddrP rfl Try.underlying26 rfl rfl sz24 rfl)) rfl rfl rfl ?_
                  refine KP.op rfl (fun Hg hg => R.load rfl Try.underlying24 rfl rfl (cell_of ((hg (by omega)).blk bx1) rfl)) rfl rfl rfl ?_
                  have lt17 := w5.lt
                  refine KP.opM rfl (M.append rfl Try.underlying24 inf5 rfl (by decide) rfl rfl w5 (by exact hx1.old o0) (fun _ _ h _ => h) (by omega) (by omega) (by unfold maxLen; omega)) rfl rfl rfl (fun _ _ hR j _ _ _ => oq.then (hR.2.oldB w5 (by omega)) (Nat.le_refl _)) ?_
                  rintro v6 H17 ⟨w17, g17⟩
                  try dsimp only at g17
                  have ob17 := g17.oldB w5 (by omega)
                  have o0 := o0.then ob17 (by omega)
                  have z17 := ob17.1
                  have oq := oq.then ob17 (by omega)
                  have bB := (g17.2 _ (blk_lt bB) (by first | exact .inr (by omega) | exact .inl rfl | exact lt17.imp id (fun h => by omega))).trans bB
                  have w5 := w17
                  have w6 := w5
                  have oq9 := oq
                  have fpn := fp_own (M := MX (fun b => b = (Array.size H5)) (M1 (Array.size H2) (L.set i ⟨(L.getD i default).g, vr2, (L.getD i default).m ++ (l.getD k default).b⟩))) w5 (fun b hb hm => by
                    have h1 := (w5.ofLt hb).1
                    rcases hm with hm | hm
                    · omega
                    · have := (hh0.low b hm).2; omega)
                  refine KP.op rfl (fun Hg hg => (R.indexAddrArr (j := i) rfl Try.underlying29 sz24 rfl rfl (by first | rfl | omega) (by omega)).val (congrArg (fun p => Value.pointer (some p)) (addrA _ _))) rfl rfl rfl ?_
                  refine KP.opS rfl (S.store rfl sz24 rfl rfl w6.cells1 w6.one bB (by simp [hWn]; omega)) rfl rfl (fun _ h j hj1 hj2 hj => by rcases hj with rfl | rfl <;> exact absurd (by decide +kernel) hj2) ?_
                  rintro H18 ⟨u18, b18⟩
                  have o0 := o0.upd u18 (by omega)
                  have zu18 := u18.1
                  have bB := b18
                  obtain ⟨hw, stB⟩ := (hw0.old oq9).put (c := (L.getD i default).m ++ (l.getD k default).b) hi (by rw [List.length_map]; omega) u18 bB fpn
                  have hh := (hh0.old oq9).other stB (fun b hb => by subst hb; have := u18.1; have := oq9.1; omega)
                  have hw2 : HW H.size (M1 (Array.size H2) (L.set i ⟨(L.getD i default).g, vr2, (L.getD i default).m ++ (l.getD k default).b⟩)) H18 (Array.size H5) (W.set i v6) ((L.set i ⟨(L.getD i default).g, vr2, (L.getD i default).m ++ (l.getD k default).b⟩).map HE.m) := by rw [← map_setM2]; exact hw
                  have hw := hw2
                  have hlm2 : ∀ j, j < 4 → ((L.set i ⟨(L.getD i default).g, vr2, (L.getD i default).m ++ (l.getD k default).b⟩).getD j default).m.length ≤ wt (l.take (k + 1)) := fun j hj => by
                    rw [getD_setE (by omega)]
                    split
                    · rw [List.length_append]; omega
                    · have := hlm j hj; omega
                  refine KP.nil ?_
                  refine KQ.normBlock ?_
                  refine KQ.meet () ?_ ?_
                  · exact (Ext.sub (by repeat (first | exact Ext.refl _ _ | refine Ext.put rfl ?_ | refine Ext.drop rfl ?_)))
                  · first | exact ⟨o0, _, _, hh, hw, hlm2⟩ | exact ⟨o0, _, _, hh, hw, fun j hj => by have := hlm j hj; omega⟩
                · intro hc57
                  try simp only [decide_eq_true_eq, decide_eq_false_iff_not, Bool.not_eq_true', Bool.not_eq_false', Bool.and_eq_true, Bool.or_eq_false_iff] at hc57
                  refine KC.seq ?_
                  refine KC.region ?_
                  refine KL.op (R.eql rfl rfl rfl) rfl rfl rfl ?_
                  refine KL.op (R.assign rfl rfl) rfl rfl rfl ?_
                  refine KL.nil ?_
                  refine KQ.seq ?_
                  refine KC.iteL rfl ?_ ?_
                  · intro hc90
                    try simp only [decide_eq_true_eq, decide_eq_false_iff_not, Bool.not_eq_true', Bool.not_eq_false', Bool.and_eq_true, Bool.or_eq_false_iff] at hc90
                    have oq : Old H12 H12 := Old.refl _
                    have hh0 := hh
                    have hw0 := hw
                    have bA := hh.bA
                    have bB := hw.bB
                    have hHq := (hh.hm q hq).1
                    have hlen := hh.len
                    have hWn := hw.len
                    have hlow := hh.low
                    have zq := o0.1
                    have hAl := hh.hA
                    have hBl := hw.hB
                    have hBt := blk_lt hw.bB
                    have hAt := blk_lt hh.bA
                    have hAB := (hw.hX _ (.inl rfl)).2
                    have hSq := hw.hw q hq
                    rw [mapM (by omega)] at hSq
                    refine KC.text (clOf [(5, 2), (10, 2), (12, 2)]) (fun i Hc => (i = 4 → Old H12 Hc) ∧ (i = 8 → Hc[(Array.size H5)]? = some (.cells W.toArray 29 (0, 0)))) (by kernel_rfl) (by kernel_rfl) (fun _ => ⟨fun _ => oq, fun _ => bB⟩) ?_
                    refine KP.op rfl (fun Hg hg => R.move rfl rfl) rfl rfl rfl ?_
                    refine KP.op rfl (fun Hg hg => R.move rfl rfl) rfl rfl rfl ?_
                    refine KP.op rfl (fun Hg hg => R.move rfl rfl) rfl rfl rfl ?_
                    refine KP.op rfl (fun Hg hg => (R.indexAddrArr (j := q) rfl Try.underlying28 sz27 rfl rfl (by first | rfl | omega) (by omega)).val (congrArg (fun p => Value.pointer (some p)) (addrA _ _))) rfl rfl rfl ?_
                    refine KP.op rfl (fun Hg hg => R.load rfl Try.underlying27 rfl rfl (cell_of ((hg.1 rfl).blk hh0.bA) (nth_ptr (by omega)))) rfl rfl rfl ?_
                    refine KP.call rfl rfl rfl rfl rfl Try.call10 rfl rfl rfl (Copy_any _ _ _ _ hHq) (fun _ _ hR j hj1 hj2 => ⟨fun hj => by subst hj; exact absurd (by decide +kernel) hj2, fun _ => hR.2.2.1.blk bB⟩) ?_
                    rintro _ H19 ⟨rfl, ⟨vr2, hmc, _⟩, ox, zx⟩
                    have zc_H19 := (ox).1
                    have o0 := o0.trans ox
                    have oq := oq.trans ox
                    have bA := (ox).blk bA
                    have bB := (ox).blk bB
                    refine KP.op rfl (fun Hg hg => R.move rfl rfl) rfl rfl rfl ?_
                    refine KP.op rfl (fun Hg hg => (R.indexAddrArr (j := q) rfl Try.underlying29 sz24 rfl rfl (by first | rfl | omega) (by omega)).val (congrArg (fun p => Value.pointer (some p)) (addrA _ _))) rfl rfl rfl ?_
                    refine KP.op rfl (fun Hg hg => R.load rfl Try.underlying24 rfl rfl (cell_of (hg.2 rfl) (nthG (by omega)))) rfl rfl rfl ?_
                    refine KP.op rfl (fun Hg hg => (R.indexAddrArr (j := i) rfl Try.underlying28 sz27 rfl rfl (by first | rfl | omega) (by omega)).val (congrArg (fun p => Value.pointer (some p)) (addrA _ _))) rfl rfl rfl ?_
                    have oq9 := oq
                    refine KP.opS rfl (S.store rfl sz27 rfl rfl rfl rfl bA (by simp [hlen]; omega)) rfl rfl (fun _ h j hj1 hj2 => ⟨fun hj => by subst hj; exact absurd (by decide +kernel) hj2, fun _ => (h.1.2 _ (Ne.symm hAB)).trans bB⟩) ?_
                    rintro H20 ⟨u20, b20⟩
                    have o0 := o0.upd u20 (by omega)
                    have zu20 := u20.1
                    have bB := ((u20).2 _ (by omega)).trans bB
                    have bA := b20
                    have hke : HMn H20 (⟨Array.size H12, vr2, (L.getD q default).m⟩ : HE).g (⟨Array.size H12, vr2, (L.getD q default).m⟩ : HE).v (⟨Array.size H12, vr2, (L.getD q default).m⟩ : HE).m ((L.getD q default).m.length : Nat) := HMn.keepB (e := ⟨Array.size H12, vr2, (L.getD q default).m⟩) hmc (fun b hb hm => u20.2 b (by have := HMn.lowB (e := ⟨Array.size H12, vr2, (L.getD q default).m⟩) hmc b hm; show b ≠ _; have h9 : Array.size H12 ≤ b := this.1; omega))
                    obtain ⟨hh, stA⟩ := hh0.put (e := ⟨Array.size H12, vr2, (L.getD q default).m⟩) (H' := H20) hi (by have := u20.1; have := oq9.1; omega) (by rw [map_set_ptr]; exact bA) (fun b hb hbA _ => (u20.2 b hbA).trans (oq9.2 b hb)) hke (by show H.size ≤ Array.size H12; omega) (fun b hb => .inr (HMn.lowB (e := ⟨Array.size H12, vr2, (L.getD q default).m⟩) hmc b hb).1)
                    have hw := hw0.other stA (fun b hb => (hh.low b hb).2)
                    have hw1 := hw
                    have hh1 := hh
                    have bB := hw.bB
                    refine KP.op rfl (fun Hg hg => (R.indexAddrArr (j := i) rfl Try.underlying29 sz24 rfl rfl (by first | rfl | omega) (by omega)).val (congrArg (fun p => Value.pointer (some p)) (addrA _ _))) rfl rfl rfl ?_
                    refine KP.opS rfl (S.store rfl sz24 rfl rfl (hSq _ (KeepP.refl _ _)).cells1 (hSq _ (KeepP.refl _ _)).one bB (by simp [hWn]; omega)) rfl rfl (fun _ h j hj1 hj2 => ⟨fun hj => by subst hj; exact absurd (by decide +kernel) hj2, fun hj => by subst hj; exact absurd (by decide +kernel) hj2⟩) ?_
                    rintro H21 ⟨u21, b21⟩
                    have o0 := o0.upd u21 (by omega)
                    have zu21 := u21.1
                    have bB := b21
                    obtain ⟨hw, stB⟩ := hw1.put (c := (⟨Array.size H12, vr2, (L.getD q default).m⟩ : HE).m) hi (by rw [List.length_map]; omega) u21 bB (fun H2 kk => hSq H2 ⟨by have := stA.1; have := kk.1; omega, fun b hb hn => (kk.2 b (by have := stA.1; omega) (fun hm => hm.elim (fun e => hn (.inl e)) (fun hm => (stA.2.2 b hm).elim (fun h => hn (.inr h)) (fun h => by omega)))).trans (stA.2.1 b hb (fun hm => hn (.inr hm)))⟩)
                    have hh := hh1.other stB (fun b hb => by subst hb; have := u21.1; omega)
                    have hw2 : HW H.size (M1 (Array.size H2) (L.set i ⟨Array.size H12, vr2, (L.getD q default).m⟩)) H21 (Array.size H5) (W.set i (W.getD q default)) ((L.set i ⟨Array.size H12, vr2, (L.getD q default).m⟩).map HE.m) := by rw [← map_setM2]; exact hw
                    have hw := hw2
                    have hlm2 : ∀ j, j < 4 → ((L.set i ⟨Array.size H12, vr2, (L.getD q default).m⟩).getD j default).m.length ≤ wt (l.take (k + 1)) := fun j hj => by
                      rw [getD_setE (by omega)]
                      split
                      · have := hlm q hq; show (L.getD q default).m.length ≤ _; omega
                      · have := hlm j hj; omega
                    refine KP.nil ?_
                    refine KQ.normBlock ?_
                    refine KQ.meet () ?_ ?_
                    · exact (Ext.sub (by repeat (first | exact Ext.refl _ _ | refine Ext.put rfl ?_ | refine Ext.drop rfl ?_)))
                    · first | exact ⟨o0, _, _, hh, hw, hlm2⟩ | exact ⟨o0, _, _, hh, hw, fun j hj => by have := hlm j hj; omega⟩
                  · intro hc90
                    try simp only [decide_eq_true_eq, decide_eq_false_iff_not, Bool.not_eq_true', Bool.not_eq_false', Bool.and_eq_true, Bool.or_eq_false_iff] at hc90
                    refine KC.skip ?_
                    refine KQ.normBlock ?_
                    refine KQ.meet () ?_ ?_
                    · exact (Ext.sub (by repeat (first | exact Ext.refl _ _ | refine Ext.put rfl ?_ | refine Ext.drop rfl ?_)))
                    · first | exact ⟨o0, _, _, hh, hw, hlm2⟩ | exact ⟨o0, _, _, hh, hw, fun j hj => by have := hlm j hj; omega⟩
              · rintro _ H22 ⟨o0, L, W, hh, hw, hlm⟩
                have zl := o0.1
                have hlen := hh.len
                have hWn := hw.len
                have hmi := hlm i hi
                have hSi := hw.hw i hi _ (KeepP.refl _ _)
                rw [mapM (by omega)] at hSi
                have hHi := (hh.hm i hi).1
                refine KQ.seq ?_
                refine KC.seq ?_
                have bA9 := hh.bA
                have bB9 := hw.bB
                have os : Old H22 H22 := Old.refl _
                have ob := o0
                have hhS := hh
                have hwS := hw
                have bA9S := bA9
                have bB9S := bB9
                refine KC.text (clOf [(8, 2), (12, 2), (19, 2)]) (fun _ Hc => Old H22 Hc) (by kernel_rfl) (by kernel_rfl) (fun _ => Old.refl _) ?_
                refine KP.op rfl (fun Hg og => by have hh := hhS.old og; have hw := hwS.old og; have bA9 := og.blk bA9S; have bB9 := og.blk bB9S; have o0 := ob.trans og; exact R.move rfl rfl) rfl rfl rfl ?_
                refine KP.op rfl (fun Hg og => by have hh := hhS.old og; have hw := hwS.old og; have bA9 := og.blk bA9S; have bB9 := og.blk bB9S; have o0 := ob.trans og; exact (R.indexAddrArr (j := i) rfl Try.underlying28 sz27 rfl rfl (by first | rfl | omega) (by omega)).val (congrArg (fun p => Value.pointer (some p)) (addrA _ _))) rfl rfl rfl ?_
                refine KP.op rfl (fun Hg og => by have hh := hhS.old og; have hw := hwS.old og; have bA9 := og.blk bA9S; have bB9 := og.blk bB9S; have o0 := ob.trans og; exact R.load rfl Try.underlying27 rfl rfl (cell_of bA9 (nth_ptr (by omega)))) rfl rfl rfl ?_
                refine KP.op rfl (fun Hg og => by have hh := hhS.old og; have hw := hwS.old og; have bA9 := og.blk bA9S; have bB9 := og.blk bB9S; have o0 := ob.trans og; exact R.eqlP rfl Try.underlying27 rfl rfl) rfl rfl rfl ?_
                refine KP.op rfl (fun Hg og => by have hh := hhS.old og; have hw := hwS.old og; have bA9 := og.blk bA9S; have bB9 := og.blk bB9S; have o0 := ob.trans og; exact R.move rfl rfl) rfl rfl rfl ?_
                refine KP.op rfl (fun Hg og => by have hh := hhS.old og; have hw := hwS.old og; have bA9 := og.blk bA9S; have bB9 := og.blk bB9S; have o0 := ob.trans og; exact R.move rfl rfl) rfl rfl rfl ?_
                refine KP.op rfl (fun Hg og => by have hh := hhS.old og; have hw := hwS.old og; have bA9 := og.blk bA9S; have bB9 := og.blk bB9S; have o0 := ob.trans og; exact (R.indexAddrArr (j := i) rfl Try.underlying28 sz27 rfl rfl (by first | rfl | omega) (by omega)).val (congrArg (fun p => Value.pointer (some p)) (addrA _ _))) rfl rfl rfl ?_
                refine KP.op rfl (fun Hg og => by have hh := hhS.old og; have hw := hwS.old og; have bA9 := og.blk bA9S; have bB9 := og.blk bB9S; have o0 := ob.trans og; exact R.load rfl Try.underlying27 rfl rfl (cell_of bA9 (nth_ptr (by omega)))) rfl rfl rfl ?_
                refine KP.call rfl rfl rfl rfl rfl Try.call11 rfl rfl rfl (Sum_any _ _ _ hHi (by omega)) (fun _ _ h _ _ _ => os.trans h.2) ?_
                rintro _ H23 ⟨rfl, ox⟩
                have hHi := hHi.old ox
                have zc_H23 := (ox).1
                have o0 := o0.trans ox
                have os := os.trans ox
                have hh := hh.old ox
                have hw := hw.old ox
                have bA9 := (ox).blk bA9
                have bB9 := (ox).blk bB9
                refine KP.op rfl (fun Hg og => by have hh := hhS.old og; have hw := hwS.old og; have bA9 := og.blk bA9S; have bB9 := og.blk bB9S; have o0 := ob.trans og; exact R.move rfl rfl) rfl rfl rfl ?_
                refine KP.op rfl (fun Hg og => by have hh := hhS.old og; have hw := hwS.old og; have bA9 := og.blk bA9S; have bB9 := og.blk bB9S; have o0 := ob.trans og; exact (R.indexAddrArr (j := i) rfl Try.underlying29 sz24 rfl rfl (by first | rfl | omega) (by omega)).val (congrArg (fun p => Value.pointer (some p)) (addrA _ _))) rfl rfl rfl ?_
                refine KP.op rfl (fun Hg og => by have hh := hhS.old og; have hw := hwS.old og; have bA9 := og.blk bA9S; have bB9 := og.blk bB9S; have o0 := ob.trans og; exact R.load rfl Try.underlying24 rfl rfl (cell_of bB9 (nthG (by omega)))) rfl rfl rfl ?_
                refine KP.call rfl rfl rfl rfl rfl Try.call12 rfl rfl rfl (lof_any _ _ (hSi.old os) (by omega)) (fun _ _ h _ _ _ => os.trans h.2) ?_
                rintro _ H24 ⟨rfl, ox⟩
                have hHi := hHi.old ox
                have zc_H24 := (ox).1
                have o0 := o0.trans ox
                have os := os.trans ox
                have hh := hh.old ox
                have hw := hw.old ox
                have bA9 := (ox).blk bA9
                have bB9 := (ox).blk bB9
                refine KP.op rfl (fun Hg og => by have hh := hhS.old og; have hw := hwS.old og; have bA9 := og.blk bA9S; have bB9 := og.blk bB9S; have o0 := ob.trans og; exact (R.neqA rfl Try.underlying33 Try.underlying5 sz5 (by kernel_rfl) rfl rfl (Sha.digest_length _) (Sha.digest_length _)).val (congrArg (fun b => Value.bool (!b)) (decide_eq_true rfl))) rfl rfl rfl ?_
                refine KP.op rfl (fun Hg og => by have hh := hhS.old og; have hw := hwS.old og; have bA9 := og.blk bA9S; have bB9 := og.blk bB9S; have o0 := ob.trans og; exact R.pick rfl rfl rfl) rfl rfl rfl ?_
                refine KP.op rfl (fun Hg og => by have hh := hhS.old og; have hw := hwS.old og; have bA9 := og.blk bA9S; have bB9 := og.blk bB9S; have o0 := ob.trans og; exact R.move rfl rfl) rfl rfl rfl ?_
                refine KP.op rfl (fun Hg og => by have hh := hhS.old og; have hw := hwS.old og; have bA9 := og.blk bA9S; have bB9 := og.blk bB9S; have o0 := ob.trans og; exact R.move rfl rfl) rfl rfl rfl ?_
                refine KP.op rfl (fun Hg og => by have hh := hhS.old og; have hw := hwS.old og; have bA9 := og.blk bA9S; have bB9 := og.blk bB9S; have o0 := ob.trans og; exact (R.indexAddrArr (j := i) rfl Try.underlying28 sz27 rfl rfl (by first | rfl | omega) (by omega)).val (congrArg (fun p => Value.pointer (some p)) (addrA _ _))) rfl rfl rfl ?_
                refine KP.op rfl (fun Hg og => by have hh := hhS.old og; have hw := hwS.old og; have bA9 := og.blk bA9S; have bB9 := og.blk bB9S; have o0 := ob.trans og; exact R.load rfl Try.underlying27 rfl rfl (cell_of bA9 (nth_ptr (by omega)))) rfl rfl rfl ?_
                refine KP.call rfl rfl rfl rfl rfl Try.call13 rfl rfl rfl (Len_any _ _ _ _ hHi) (fun _ _ h _ _ _ => h.2 ▸ os) ?_
                rintro _ _ ⟨rfl, rfl⟩
                refine KP.op rfl (fun Hg og => by have hh := hhS.old og; have hw := hwS.old og; have bA9 := og.blk bA9S; have bB9 := og.blk bB9S; have o0 := ob.trans og; exact R.move rfl rfl) rfl rfl rfl ?_
                refine KP.op rfl (fun Hg og => by have hh := hhS.old og; have hw := hwS.old og; have bA9 := og.blk bA9S; have bB9 := og.blk bB9S; have o0 := ob.trans og; exact (R.indexAddrArr (j := i) rfl Try.underlying29 sz24 rfl rfl (by first | rfl | omega) (by omega)).val (congrArg (fun p => Value.pointer (some p)) (addrA _ _))) rfl rfl rfl ?_
                refine KP.op rfl (fun Hg og => by have hh := hhS.old og; have hw := hwS.old og; have bA9 := og.blk bA9S; have bB9 := og.blk bB9S; have o0 := ob.trans og; exact R.load rfl Try.underlying24 rfl rfl (cell_of bB9 (nthG (by omega)))) rfl rfl rfl ?_
                refine KP.op rfl (fun Hg og => by have hh := hhS.old og; have hw := hwS.old og; have bA9 := og.blk bA9S; have bB9 := og.blk bB9S; have o0 := ob.trans og; exact R.lenS rfl Try.underlying24 rfl hSi) rfl rfl rfl ?_
                refine KP.op rfl (fun Hg og => by have hh := hhS.old og; have hw := hwS.old og; have bA9 := og.blk bA9S; have bB9 := og.blk bB9S; have o0 := ob.trans og; exact R.convI rfl Try.underlying3 Try.underlying36 rfl (by dsimp only [InR]; omega)) rfl rfl rfl ?_
                refine KP.op rfl (fun Hg og => by have hh := hhS.old og; have hw := hwS.old og; have bA9 := og.blk bA9S; have bB9 := og.blk bB9S; have o0 := ob.trans og; exact (R.neq rfl rfl rfl).val ((congrArg (fun b => Value.bool (!b)) (decide_eq_true (by rfl))))) rfl rfl rfl ?_
                refine KP.op rfl (fun Hg og => by have hh := hhS.old og; have hw := hwS.old og; have bA9 := og.blk bA9S; have bB9 := og.blk bB9S; have o0 := ob.trans og; exact R.pick rfl rfl rfl) rfl rfl rfl ?_
                refine KP.nil ?_
                refine KQ.seq ?_
                refine KC.condF rfl ?_
                refine KC.skip ?_
                refine KQ.normBlock ?_
                refine KQ.seq ?_
                refine KC.region ?_
                refine KL.op ((R.add rfl rfl rfl (by dsimp only [InR]; omega)).val (congrArg (Value.int .i64) (show (k : Int) + 1 = ((k + 1 : Nat) : Int) by omega))) rfl rfl rfl ?_
                refine KL.op (R.move rfl rfl) rfl rfl rfl ?_
                refine KL.nil ?_
                refine KQ.again (k + 1) ?_ ?_ ?_
                · exact (Sub.cons rfl (Ext.sub (by repeat (first | exact Ext.refl _ _ | refine Ext.put rfl ?_ | refine Ext.drop rfl ?_))))
                · omega
                · exact ⟨by omega, o0, _, _, hh, hw, hlm⟩
            · intro hc46
              try simp only [decide_eq_true_eq, decide_eq_false_iff_not, Bool.not_eq_true', Bool.not_eq_false', Bool.and_eq_true, Bool.or_eq_false_iff] at hc46
              have hkl : k = l.length := by omega
              subst hkl
              rw [List.take_length] at hlm
              refine KC.exit ?_
              refine KQ.exitThen ?_
              refine KQ.exitThen ?_
              refine KQ.hit ?_
              refine KQ.seq ?_
              refine KC.seq ?_
              refine KC.seq ?_
              refine KC.region ?_
              refine KL.op (R.move rfl rfl) rfl rfl rfl ?_
              refine KL.nil ?_
              refine KQ.seq ?_
              refine KC.block ?_
              refine KC.loopD (κ := Nat) [132, 133, 14, 134, 135, 136, 137, 138, 139, 140, 141, 142, 2, 143, 131] (fun k => [(131, .int .i64 (k : Nat))]) (fun k Hl => k ≤ 4 ∧ Old H Hl ∧ HS H.size (fun b => b = (Array.size H5)) Hl (Array.size H2) L ∧ HW H.size (M1 (Array.size H2) L) Hl (Array.size H5) W (L.map HE.m)) (fun k => 4 - k) 0 ?_ ?_ ?_
              · exact (Sub.cons rfl (Ext.sub (Ext.refl _ _)))
              · exact ⟨Nat.zero_le _, o0, hh, hw⟩
              · rintro k H25 ⟨hk, o0, hh, hw⟩
                have zl_H25 := o0.1
                have zl := o0.1
                refine KC.seq ?_
                refine KC.region ?_
                refine KL.op (R.lss rfl rfl rfl) rfl rfl rfl ?_
                refine KL.nil ?_
                refine KQ.seq ?_
                refine KC.seq ?_
                refine KC.iteL rfl ?_ ?_
                · intro hc132
                  try simp only [decide_eq_true_eq, decide_eq_false_iff_not, Bool.not_eq_true', Bool.not_eq_false', Bool.and_eq_true, Bool.or_eq_false_iff] at hc132
                  have hlen := hh.len
                  have hWn := hw.len
                  have hmi := hlm k (by omega)
                  have hSi := hw.hw k (by omega) _ (KeepP.refl _ _)
                  rw [mapM (by omega)] at hSi
                  have hHi := (hh.hm k (by omega)).1
                  refine KC.skip ?_
                  refine KQ.seq ?_
                  refine KC.seq ?_
                  refine KC.block ?_
                  refine KC.seq ?_
                  refine KC.region ?_
                  refine KL.op (R.move rfl rfl) rfl rfl rfl ?_
                  refine KL.op (R.assign rfl rfl) rfl rfl rfl ?_
                  refine KL.nil ?_
                  refine KQ.seq ?_
                  refine KC.seq ?_
                  have bA9 := hh.bA
                  have bB9 := hw.bB
                  have os : Old H25 H25 := Old.refl _
                  have ob := o0
                  have hhS := hh
                  have hwS := hw
                  have bA9S := bA9
                  have bB9S := bB9
                  refine KC.text (clOf [(3, 2), (7, 2)]) (fun _ Hc => Old H25 Hc) (by kernel_rfl) (by kernel_rfl) (fun _ => Old.refl _) ?_
                  refine KP.op rfl (fun Hg og => by have hh := hhS.old og; have hw := hwS.old og; have bA9 := og.blk bA9S; have bB9 := og.blk bB9S; have o0 := ob.trans og; exact R.move rfl rfl) rfl rfl rfl ?_
                  refine KP.op rfl (fun Hg og => by have hh := hhS.old og; have hw := hwS.old og; have bA9 := og.blk bA9S; have bB9 := og.blk bB9S; have o0 := ob.trans og; exact (R.indexAddrArr (j := k) rfl Try.underlying28 sz27 rfl rfl (by first | rfl | omega) (by omega)).val (congrArg (fun p => Value.pointer (some p)) (addrA _ _))) rfl rfl rfl ?_
                  refine KP.op rfl (fun Hg og => by have hh := hhS.old og; have hw := hwS.old og; have bA9 := og.blk bA9S; have bB9 := og.blk bB9S; have o0 := ob.trans og; exact R.load rfl Try.underlying27 rfl rfl (cell_of bA9 (nth_ptr (by omega)))) rfl rfl rfl ?_
                  refine KP.call rfl rfl rfl rfl rfl Try.call11 rfl rfl rfl (Sum_any _ _ _ hHi (by omega)) (fun _ _ h _ _ _ => os.trans h.2) ?_
                  rintro _ H26 ⟨rfl, ox⟩
                  have hHi := hHi.old ox
                  have zc_H26 := (ox).1
                  have o0 := o0.trans ox
                  have os := os.trans ox
                  have hh := hh.old ox
                  have hw := hw.old ox
                  have bA9 := (ox).blk bA9
                  have bB9 := (ox).blk bB9
                  refine KP.op rfl (fun Hg og => by have hh := hhS.old og; have hw := hwS.old og; have bA9 := og.blk bA9S; have bB9 := og.blk bB9S; have o0 := ob.trans og; exact R.move rfl rfl) rfl rfl rfl ?_
                  refine KP.op rfl (fun Hg og => by have hh := hhS.old og; have hw := hwS.old og; have bA9 := og.blk bA9S; have bB9 := og.blk bB9S; have o0 := ob.trans og; exact (R.indexAddrArr (j := k) rfl Try.underlying29 sz24 rfl rfl (by first | rfl | omega) (by omega)).val (congrArg (fun p => Value.pointer (some p)) (addrA _ _))) rfl rfl rfl ?_
                  refine KP.op rfl (fun Hg og => by have hh := hhS.old og; have hw := hwS.old og; have bA9 := og.blk bA9S; have bB9 := og.blk bB9S; have o0 := ob.trans og; exact R.load rfl Try.underlying24 rfl rfl (cell_of bB9 (nthG (by omega)))) rfl rfl rfl ?_
                  refine KP.call rfl rfl rfl rfl rfl Try.call12 rfl rfl rfl (lof_any _ _ (hSi.old os) (by omega)) (fun _ _ h _ _ _ => os.trans h.2) ?_
                  rintro _ H27 ⟨rfl, ox⟩
                  have zc_H27 := (ox).1
                  have o0 := o0.trans ox
                  have os := os.trans ox
                  have hh := hh.old ox
                  have hw := hw.old ox
                  have bA9 := (ox).blk bA9
                  have bB9 := (ox).blk bB9
                  refine KP.op rfl (fun Hg og => by have hh := hhS.old og; have hw := hwS.old og; have bA9 := og.blk bA9S; have bB9 := og.blk bB9S; have o0 := ob.trans og; exact (R.neqA rfl Try.underlying33 Try.underlying5 sz5 (by kernel_rfl) rfl rfl (Sha.digest_length _) (Sha.digest_length _)).val (congrArg (fun b => Value.bool (!b)) (decide_eq_true rfl))) rfl rfl rfl ?_
                  refine KP.nil ?_
                  refine KQ.seq ?_
                  refine KC.condF rfl ?_
                  refine KC.skip ?_
                  refine KQ.normBlock ?_
                  refine KQ.seq ?_
                  refine KC.region ?_
                  refine KL.op ((R.add rfl rfl rfl (by dsimp only [InR]; omega)).val (congrArg (Value.int .i64) (show (k : Int) + 1 = ((k + 1 : Nat) : Int) by omega))) rfl rfl rfl ?_
                  refine KL.op (R.move rfl rfl) rfl rfl rfl ?_
                  refine KL.nil ?_
                  refine KQ.again (k + 1) ?_ ?_ ?_
                  · exact (Sub.cons rfl (Ext.sub (by repeat (first | exact Ext.refl _ _ | refine Ext.put rfl ?_ | refine Ext.drop rfl ?_))))
                  · omega
                  · exact ⟨by omega, o0, hh, hw⟩
                · intro hc132
                  try simp only [decide_eq_true_eq, decide_eq_false_iff_not, Bool.not_eq_true', Bool.not_eq_false', Bool.and_eq_true, Bool.or_eq_false_iff] at hc132
                  refine KC.exit ?_
                  refine KQ.exitThen ?_
                  refine KQ.exitThen ?_
                  refine KQ.hit ?_
                  refine KQ.seq ?_
                  refine KC.seq ?_
                  refine KC.region ?_
                  refine KL.op (R.assign rfl rfl) rfl rfl rfl ?_
                  refine KL.nil ?_
                  refine KQ.seq ?_
                  refine KC.ret ?_
                  refine KQ.ofRet ?_
                  refine KQ.fin1 Try.results3 rfl ?_
                  exact ⟨rfl, o0⟩

end Go.Proofs.Ytgpbdimccbimnaa
