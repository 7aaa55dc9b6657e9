/- gabellelaw18.InstLast returns true. No condition but those that each states. -/
import Derived.Test.YticnkojpfmkjeaaIstL
namespace Go.Proofs.Yticnkojpfmkjeaa
open Go Go.RowKit
set_option linter.unusedVariables false
set_option linter.unusedSimpArgs false
set_option linter.unnecessarySimpa false

theorem lay_all {p : Int → Prop} : ∀ (l : List El2) (t : List Int), (∀ x ∈ t, p x) → (∀ e ∈ l, ∀ x ∈ e.2, p x) → ∀ x ∈ lay t l, p x
  | [], t, h, _ => h
  | e :: l, t, h, hl => by
    refine lay_all l _ ?_ (fun e' he => hl e' (List.mem_cons_of_mem _ he))
    intro x hx
    unfold putAt at hx
    rcases List.mem_append.1 hx with hx | hx
    · rcases List.mem_append.1 hx with hx | hx
      · exact h x (List.mem_of_mem_take hx)
      · exact hl e List.mem_cons_self x hx
    · exact h x (List.mem_of_mem_drop hx)
theorem tabL_rng {H : Heap} {v : Value} {m : Md} (h : Sl 3 EEl H v m.elems) : ∀ x ∈ tabL m, x = -1 ∨ (0 ≤ x ∧ x ≤ 4294967295) := by
  refine lay_all m.elems (tab0 m) (fun x hx => .inl (List.eq_of_mem_replicate hx)) ?_
  intro e he x hx
  obtain ⟨j, hj, rfl⟩ := List.getElem_of_mem he
  obtain ⟨t, u, w, _, _, hw, _⟩ := h.elAt j hj
  rw [List.getD_eq_getElem?_getD, List.getElem?_eq_getElem hj] at hw
  have := hw.int_range x hx
  dsimp only [InR] at this
  exact .inr this
theorem tabL_len {m : Md} (h : Fit m) : (tabL m).length = tlen m := lay_length _ _ (tab0_len m) h.e
theorem memL_len {m : Md} (h : Fit m) (hp : 0 ≤ pages m) : (memL m).length = (pages m * 65536).toNat := lay_length _ _ (zeros_length _) (fun e he => by have := h.d e he; omega)
def eF (t : List Int) (i : Nat) : Int := if t.getD i default = -1 then 0 else IntKind.u32.wrap (t.getD i default)
def eI (t : List Int) (i : Nat) : Bool := if t.getD i default = -1 then false else true
theorem elV_in {t : List Int} {i : Nat} (h : i < t.length) : elV t i = .tuple #[.int .u32 (eF t i), .bool true, .bool (eI t i)] := by
  unfold elV eF eI
  rw [if_pos h]
  split <;> rfl
theorem u32w {x : Int} (h0 : 0 ≤ x) (h1 : x ≤ 4294967295) : IntKind.u32.wrap x = x := u32s h0 (by omega)
theorem prtP_whole {bs : List Int} {n : Int} (h : (bs.length : Int) = n) : prtP bs 0 n = bs := by
  unfold prtP prt
  rw [if_pos (by omega)]
  simp only [Int.toNat_zero, List.drop_zero, Nat.zero_add]
  rw [show n.toNat = bs.length by omega, List.take_length]
theorem mem_last {m : Md} (hf : Fit m) (hp : 0 ≤ pages m) (h : 0 < m.datas.length) : prt (memL m) (iv (m.datas.getD (m.datas.length - 1) default).1).toNat (m.datas.getD (m.datas.length - 1) default).2.length = (m.datas.getD (m.datas.length - 1) default).2 := by
  have e : memL m = lay (zeros (pages m)) (m.datas.take (m.datas.length - 1 + 1)) := by rw [show m.datas.length - 1 + 1 = m.datas.length by omega, List.take_length]; rfl
  rw [e, lay_take (by omega)]
  have hd := hf.d _ (getD_mem (l := m.datas) (k := m.datas.length - 1) (by omega))
  have hv := (iv_R (m.datas.getD (m.datas.length - 1) default).1).1
  refine prt_putAt ?_
  rw [lay_length (n := (pages m * 65536).toNat) _ _ (zeros_length _) (fun e he => by have := hf.d e (List.mem_of_mem_take he); omega)]
  omega
theorem map_putAt_set {t l : List Int} {p q : Nat} (hp : p + q < t.length) (hq : q < l.length) : ((putAt t p (l.take q)).map (· + 1)).set (p + q) (l.getD q default + 1) = (putAt t p (l.take (q + 1))).map (· + 1) := by
  rw [take_succ_of hq, ← putAt_set (bs := t) (p := p) (k := q) (l := l.take q) hp (by rw [List.length_take]; omega), List.map_set]
theorem fit_pages {H : Heap} {v : Value} {m : Md} (h : Sl 2 ELim H v m.mems) (hf : Fit m) : 0 ≤ pages m ∧ pages m ≤ 16 := by
  cases hm : m.mems with
  | nil => rw [pages_nil hm]; omega
  | cons x r =>
    have h1 := hf.y x r hm
    obtain ⟨_, h2, _⟩ := h.limAt 0 (by rw [hm]; simp)
    rw [hm] at h2
    rw [pages_cons hm]
    unfold newOk at h1
    rw [List.getD_cons_zero] at h2
    dsimp only [InR] at h2
    omega

set_option maxRecDepth 100000 in
set_option maxHeartbeats 4000000 in
theorem InstLast_any {H : Heap} {v0 v1 v2 v3 v4 v5 v6 v7 v8 v9 va vb : Value} {m : Md} (mv : MI H v0 v1 v2 v3 v4 v5 v6 v7 v8 v9 va vb m) : Ct Try.prog 3 [.agg [v0, v1, v2, v3, v4, v5, v6, v7, v8, v9, va, vb].toArray] H (fun u H' => u = .bool true ∧ Old H H') := by
  refine Ct.mk Try.func3 rfl Try.ntmps3 rfl ?_
  intro W0 hW0
  have o0 : Old H H := Old.refl H
  have hn := mv.n
  refine KC.seq ?_
  refine KC.region ?_
  refine KL.opM (M.box rfl rfl rfl) rfl rfl rfl ?_
  rintro _ H1 ⟨rfl, n1⟩
  have z1 := n1.2.1
  have o0 := o0.trans n1.1
  have b1 := n1.2.2
  have bm := b1
  refine KL.op (R.assign rfl rfl) rfl rfl rfl ?_
  refine KL.nil ?_
  refine KQ.seq ?_
  refine KC.seq ?_
  refine KC.seq ?_
  refine KC.region ?_
  refine KL.op (R.loadAgg rfl Try.underlying33 rfl sz33 rfl (cells_of bm) rfl) rfl rfl rfl ?_
  refine KL.call rfl rfl rfl rfl Try.call5 rfl rfl rfl (Great_any (mv.old o0)) ?_
  rintro _ H2 ⟨hv, rfl, ox⟩
  have zc_H2 := (ox).1
  have o0 := o0.trans ox
  have bm := (ox).blk bm
  refine KL.nil ?_
  refine KQ.seq ?_
  refine KC.iteL rfl ?_ ?_
  · intro hc25
    try simp only [decide_eq_true_eq, decide_eq_false_iff_not, Bool.not_eq_true', Bool.not_eq_false', Bool.and_eq_true, Bool.or_eq_false_iff] at hc25
    refine KC.seq ?_
    refine KC.region ?_
    refine KL.call rfl rfl rfl rfl Try.call6 rfl rfl rfl (works_any) ?_
    rintro _ H3 ⟨rfl, ox⟩
    have zc_H3 := (ox).1
    have o0 := o0.trans ox
    have bm := (ox).blk bm
    refine KL.op (R.assign rfl rfl) rfl rfl rfl ?_
    refine KL.nil ?_
    refine KQ.seq ?_
    refine KC.ret ?_
    refine KQ.retThen ?_
    refine KQ.ofRet ?_
    refine KQ.fin1 Try.results3 rfl ?_
    exact ⟨rfl, o0⟩
  · intro hc25
    try simp only [decide_eq_true_eq, decide_eq_false_iff_not, Bool.not_eq_true', Bool.not_eq_false', Bool.and_eq_true, Bool.or_eq_false_iff] at hc25
    refine KC.skip ?_
    refine KQ.seq ?_
    refine KC.seq ?_
    refine KC.region ?_
    refine KL.op (R.loadAgg rfl Try.underlying33 rfl sz33 rfl (cells_of bm) rfl) rfl rfl rfl ?_
    refine KL.call rfl rfl rfl rfl Try.call7 rfl rfl rfl (NewI_any (mv.old o0)) ?_
    rintro u H4 hR
    rcases hR with ⟨hfit, g, mp, tv, gv, rfl, is, hgs, ox⟩ | ⟨hno, rfl, ox⟩
    · skip
      have o0 := o0.trans ox
      have bm := (ox).blk bm
      refine KL.op (R.move rfl rfl) rfl rfl rfl ?_
      refine KL.op (R.extract rfl rfl rfl) rfl rfl rfl ?_
      refine KL.op (R.extract rfl rfl rfl) rfl rfl rfl ?_
      refine KL.op (R.assign rfl rfl) rfl rfl rfl ?_
      refine KL.op (R.assign rfl rfl) rfl rfl rfl ?_
      refine KL.nil ?_
      refine KQ.seq ?_
      refine KC.seq ?_
      refine KC.seq ?_
      refine KC.region ?_
      refine KL.op (R.move rfl rfl) rfl rfl rfl ?_
      refine KL.op ((R.neq rfl rfl rfl).val ((congrArg (fun b => Value.bool (!b)) (decide_eq_true (by rfl))))) rfl rfl rfl ?_
      refine KL.nil ?_
      refine KQ.seq ?_
      refine KC.condF rfl ?_
      refine KC.skip ?_
      refine KQ.seq ?_
      refine KC.seq ?_
      obtain ⟨hpg0, hpg1⟩ := fit_pages mv.mm hfit
      have htl := tlen_le hfit.t
      have hTl := tabL_len hfit
      have hMl := memL_len hfit hpg0
      have hrng := tabL_rng mv.e
      refine KC.region ?_
      refine KL.op (R.assign rfl rfl) rfl rfl rfl ?_
      refine KL.op (R.assign rfl rfl) rfl rfl rfl ?_
      refine KL.nil ?_
      refine KQ.seq ?_
      refine KC.seq ?_
      refine KC.cutD (κ := Unit) [43, 44, 45, 46, 47, 48, 49, 50, 51, 52, 5] (fun _ => [(5, .int .u64 (tlen m : Nat))]) (fun _ Hl => H4 = Hl) ?_ ?_
      · skip
        refine KC.seq ?_
        refine KC.region ?_
        refine KL.op ((by first | exact R.fieldAddr rfl Try.underlying33 rfl rfl sz25 rfl | exact R.fieldAddrP rfl Try.underlying33 rfl rfl sz25 rfl)) rfl rfl rfl ?_
        refine KL.op (R.load rfl Try.underlying25 rfl rfl (by first | exact cell_of bm rfl | assumption)) rfl rfl rfl ?_
        refine KL.op (R.lenS rfl Try.underlying25 rfl mv.a) rfl rfl rfl ?_
        refine KL.op (R.gtr rfl rfl rfl) rfl rfl rfl ?_
        refine KL.nil ?_
        refine KQ.seq ?_
        refine KC.iteL rfl ?_ ?_
        · intro hc46
          try simp only [decide_eq_true_eq, decide_eq_false_iff_not, Bool.not_eq_true', Bool.not_eq_false', Bool.and_eq_true, Bool.or_eq_false_iff] at hc46
          obtain ⟨tx, tr, hts, hgd⟩ := head_of (l := m.tables) (by omega)
          obtain ⟨hlc, hr1, hr2⟩ := mv.a.limAt 0 (by omega)
          rw [hgd] at hlc hr1 hr2
          dsimp only [InR] at hr1
          refine KC.region ?_
          refine KL.op ((by first | exact R.fieldAddr rfl Try.underlying33 rfl rfl sz25 rfl | exact R.fieldAddrP rfl Try.underlying33 rfl rfl sz25 rfl)) rfl rfl rfl ?_
          refine KL.op (R.load rfl Try.underlying25 rfl rfl (by first | exact cell_of bm rfl | assumption)) rfl rfl rfl ?_
          refine KL.op (R.index (j := 0) rfl Try.underlying25 sz41 rfl rfl mv.a rfl (by omega)) rfl rfl rfl ?_
          refine KL.op ((by first | exact R.fieldAddr rfl Try.underlying41 rfl rfl sz28 rfl | exact R.fieldAddrP rfl Try.underlying41 rfl rfl sz28 rfl)) rfl rfl rfl ?_
          refine KL.op (R.load rfl Try.underlying28 rfl rfl (o0.cells hlc 0 _ rfl)) rfl rfl rfl ?_
          refine KL.op (R.convI rfl Try.underlying28 Try.underlying39 rfl (by dsimp only [InR]; omega)) rfl rfl rfl ?_
          refine KL.op (R.assign rfl rfl) rfl rfl rfl ?_
          refine KL.nil ?_
          refine KQ.meet () ?_ ?_
          · exact (Sub.cons (by exact congrArg (fun z => some (Value.int .u64 z)) (by first | (rw [tlen_cons hts]; omega) | (rw [tlen_nil hts]; rfl))) (Ext.sub (by repeat (first | exact Ext.refl _ _ | refine Ext.put rfl ?_ | refine Ext.drop rfl ?_))))
          · exact rfl
        · intro hc46
          try simp only [decide_eq_true_eq, decide_eq_false_iff_not, Bool.not_eq_true', Bool.not_eq_false', Bool.and_eq_true, Bool.or_eq_false_iff] at hc46
          have hts := nil_of (l := m.tables) (by omega)
          refine KC.skip ?_
          refine KQ.meet () ?_ ?_
          · exact (Sub.cons (by exact congrArg (fun z => some (Value.int .u64 z)) (by first | (rw [tlen_cons hts]; omega) | (rw [tlen_nil hts]; rfl))) (Ext.sub (by repeat (first | exact Ext.refl _ _ | refine Ext.put rfl ?_ | refine Ext.drop rfl ?_))))
          · exact rfl
      · rintro _ _ rfl
        refine KQ.seq ?_
        refine KC.seq ?_
        refine KC.cutD (κ := Unit) [53, 54, 55, 56, 57, 58, 59, 60, 61, 62, 63, 6] (fun _ => [(6, .int .u64 (pages m * 65536))]) (fun _ Hl => H4 = Hl) ?_ ?_
        · skip
          refine KC.seq ?_
          refine KC.region ?_
          refine KL.op ((by first | exact R.fieldAddr rfl Try.underlying33 rfl rfl sz25 rfl | exact R.fieldAddrP rfl Try.underlying33 rfl rfl sz25 rfl)) rfl rfl rfl ?_
          refine KL.op (R.load rfl Try.underlying25 rfl rfl (by first | exact cell_of bm rfl | assumption)) rfl rfl rfl ?_
          refine KL.op (R.lenS rfl Try.underlying25 rfl mv.mm) rfl rfl rfl ?_
          refine KL.op (R.gtr rfl rfl rfl) rfl rfl rfl ?_
          refine KL.nil ?_
          refine KQ.seq ?_
          refine KC.iteL rfl ?_ ?_
          · intro hc56
            try simp only [decide_eq_true_eq, decide_eq_false_iff_not, Bool.not_eq_true', Bool.not_eq_false', Bool.and_eq_true, Bool.or_eq_false_iff] at hc56
            obtain ⟨tx, tr, hts, hgd⟩ := head_of (l := m.mems) (by omega)
            obtain ⟨hlc, hr1, hr2⟩ := mv.mm.limAt 0 (by omega)
            rw [hgd] at hlc hr1 hr2
            dsimp only [InR] at hr1
            have hpe := pages_cons hts
            refine KC.region ?_
            refine KL.op ((by first | exact R.fieldAddr rfl Try.underlying33 rfl rfl sz25 rfl | exact R.fieldAddrP rfl Try.underlying33 rfl rfl sz25 rfl)) rfl rfl rfl ?_
            refine KL.op (R.load rfl Try.underlying25 rfl rfl (by first | exact cell_of bm rfl | assumption)) rfl rfl rfl ?_
            refine KL.op (R.index (j := 0) rfl Try.underlying25 sz41 rfl rfl mv.mm rfl (by omega)) rfl rfl rfl ?_
            refine KL.op ((by first | exact R.fieldAddr rfl Try.underlying41 rfl rfl sz28 rfl | exact R.fieldAddrP rfl Try.underlying41 rfl rfl sz28 rfl)) rfl rfl rfl ?_
            refine KL.op (R.load rfl Try.underlying28 rfl rfl (o0.cells hlc 0 _ rfl)) rfl rfl rfl ?_
            refine KL.op (R.convI rfl Try.underlying28 Try.underlying39 rfl (by dsimp only [InR]; omega)) rfl rfl rfl ?_
            refine KL.op (R.mul rfl rfl rfl (by dsimp only [InR]; omega)) rfl rfl rfl ?_
            refine KL.op (R.assign rfl rfl) rfl rfl rfl ?_
            refine KL.nil ?_
            refine KQ.meet () ?_ ?_
            · exact (Sub.cons (by exact congrArg (fun z => some (Value.int .u64 z)) (by first | (rw [pages_cons hts]) | (rw [pages_nil hts]; rfl))) (Ext.sub (by repeat (first | exact Ext.refl _ _ | refine Ext.put rfl ?_ | refine Ext.drop rfl ?_))))
            · exact rfl
          · intro hc56
            try simp only [decide_eq_true_eq, decide_eq_false_iff_not, Bool.not_eq_true', Bool.not_eq_false', Bool.and_eq_true, Bool.or_eq_false_iff] at hc56
            have hts := nil_of (l := m.mems) (by omega)
            refine KC.skip ?_
            refine KQ.meet () ?_ ?_
            · exact (Sub.cons (by exact congrArg (fun z => some (Value.int .u64 z)) (by first | (rw [pages_cons hts]) | (rw [pages_nil hts]; rfl))) (Ext.sub (by repeat (first | exact Ext.refl _ _ | refine Ext.put rfl ?_ | refine Ext.drop rfl ?_))))
            · exact rfl
        · rintro _ _ rfl
          refine KQ.seq ?_
          refine KC.seq ?_
          refine KC.region ?_
          refine KL.op (R.move rfl rfl) rfl rfl rfl ?_
          have is0 := is
          have zis := is.lt
          have oW : Old H4 H4 := Old.refl _
          refine KL.opM (M.make rfl Try.underlying42 inf2 rfl rfl rfl (by omega) (by omega) (by omega) (by omega)) rfl rfl rfl ?_
          rintro _ H5 ⟨rfl, n5⟩
          have z5 := n5.2.1
          have o0 := o0.trans n5.1
          have bm := (n5.1).blk bm
          have is := is.old n5.1
          have b5 := n5.2.2
          have bz := b5
          have wk : Own 1 (EInt .i64) 2 #[] (Array.size H4) H5 (.slice (some ⟨Array.size H4, 0, none⟩) (tlen m) (tlen m)) ((tab0 m).map (· + 1)) := by
            have w := Own.made (e := 2) (E := EInt .i64) (H0 := #[]) (B := Array.size H4) (m := tlen m) (z := .int .i64 0) (x := (0 : Int)) n5 (Nat.le_refl _) (by unfold maxLen; omega) ⟨rfl, by dsimp only [InR]; omega⟩
            rw [show (tab0 m).map (· + 1) = List.replicate (tlen m) 0 by unfold tab0; rw [List.map_replicate]; rfl]
            exact w
          rw [Int.toNat_natCast (tlen m)]
          have oW := oW.trans n5.1
          have hvk : vblock (.slice (some ⟨Array.size H4, 0, none⟩) (tlen m) (tlen m)) = Array.size H4 := rfl
          refine KL.op (R.assign rfl rfl) rfl rfl rfl ?_
          refine KL.nil ?_
          refine KQ.seq ?_
          refine KC.seq ?_
          refine KC.seq ?_
          refine KC.region ?_
          refine KL.op ((by first | exact R.fieldAddr rfl Try.underlying33 rfl rfl sz29 rfl | exact R.fieldAddrP rfl Try.underlying33 rfl rfl sz29 rfl)) rfl rfl rfl ?_
          refine KL.op (R.load rfl Try.underlying29 rfl rfl (by first | exact cell_of bm rfl | assumption)) rfl rfl rfl ?_
          refine KL.op (R.lenS rfl Try.underlying29 rfl mv.e) rfl rfl rfl ?_
          refine KL.op (R.move rfl rfl) rfl rfl rfl ?_
          refine KL.nil ?_
          refine KQ.seq ?_
          refine KC.block ?_
          refine KC.loopD (κ := Nat) [70, 71, 72, 9, 73, 74, 75, 10, 76, 77, 78, 79, 80, 81, 82, 83, 84, 85, 86, 87, 88, 2, 89, 90, 91, 92, 93, 94, 95, 96, 11, 12, 97, 98, 99, 100, 101, 102, 103, 104, 105, 106, 107, 69] (fun k => [(69, .int .i64 (k : Nat))]) (fun k Hl => k ≤ m.elems.length ∧ Own 1 (EInt .i64) 2 #[] (Array.size H4) Hl (.slice (some ⟨Array.size H4, 0, none⟩) (tlen m) (tlen m)) ((lay (tab0 m) (m.elems.take k)).map (· + 1)) ∧ Hl[Array.size H]? = some (.cells [v0, v1, v2, v3, v4, v5, v6, v7, v8, v9, va, vb].toArray 33 (0, 0)) ∧ Old H4 Hl ∧ Old H Hl) (fun k => m.elems.length - k) 0 ?_ ?_ ?_
          · exact (Sub.cons rfl (Ext.sub (Ext.refl _ _)))
          · exact ⟨Nat.zero_le _, wk, bm, oW, o0⟩
          · rintro k H6 ⟨hk, wk, bm, oW, o0⟩
            have zl_H6 := o0.1
            have zW := oW.1
            have zwk := wk.lt.resolve_left (by simp)
            refine KC.seq ?_
            refine KC.region ?_
            refine KL.op (R.lss rfl rfl rfl) rfl rfl rfl ?_
            refine KL.nil ?_
            refine KQ.seq ?_
            refine KC.seq ?_
            refine KC.iteL rfl ?_ ?_
            · intro hc70
              try simp only [decide_eq_true_eq, decide_eq_false_iff_not, Bool.not_eq_true', Bool.not_eq_false', Bool.and_eq_true, Bool.or_eq_false_iff] at hc70
              obtain ⟨tt, vu, vw, hcx, hsu, hsw, hlw⟩ := mv.e.elAt k (by omega)
              have hiv := iv_R (m.elems.getD k default).1
              have hfk := hfit.e _ (getD_mem (l := m.elems) (k := k) (by omega))
              have hTk : (lay (tab0 m) (m.elems.take k)).length = tlen m := lay_length _ _ (tab0_len m) (fun e he => hfit.e e (List.mem_of_mem_take he))
              refine KC.skip ?_
              refine KQ.seq ?_
              refine KC.seq ?_
              refine KC.block ?_
              refine KC.seq ?_
              refine KC.region ?_
              refine KL.op (R.index (j := k) rfl Try.underlying29 sz45 rfl rfl mv.e rfl (by omega)) rfl rfl rfl ?_
              refine KL.op (R.loadAgg rfl Try.underlying45 rfl sz45 rfl (o0.cells hcx) rfl) rfl rfl rfl ?_
              refine KL.opM (M.alloc rfl zr45 rfl) rfl rfl rfl ?_
              rintro _ H7 ⟨rfl, n7⟩
              have z7 := n7.2.1
              have o0 := o0.trans n7.1
              have wk := wk.old n7.1
              have bm := (n7.1).blk bm
              have oW := oW.trans n7.1
              have b7 := n7.2.2
              have bv := b7
              refine KL.opS (S.storeAgg rfl sz45 rfl rfl (rfl) (by intro z hz; simp only [List.mem_cons, List.not_mem_nil, or_false] at hz; rcases hz with rfl | rfl | rfl <;> first | rfl | exact hsu.one | exact hsw.one) bv (by simp)) rfl rfl ?_
              rintro H8 ⟨u8, b8⟩
              have o0 := o0.upd u8 (by omega)
              have zu8 := u8.1
              have wk := wk.upd u8 (by first | exact .inl rfl | exact .inr (by omega) | exact wk.lt.imp id (fun h => by omega))
              have bm := ((u8).2 _ (by omega)).trans bm
              have oW := oW.upd u8 (by omega)
              have bv := b8
              rw [over_all (by rfl)] at bv
              refine KL.nil ?_
              refine KQ.seq ?_
              refine KC.seq ?_
              refine KC.region ?_
              refine KL.op ((by first | exact R.fieldAddr rfl Try.underlying45 rfl rfl sz43 rfl | exact R.fieldAddrP rfl Try.underlying45 rfl rfl sz43 rfl)) rfl rfl rfl ?_
              refine KL.op (R.load rfl Try.underlying43 rfl rfl (cell_of bv rfl)) rfl rfl rfl ?_
              refine KL.call rfl rfl rfl rfl Try.call8 rfl rfl rfl (Value_any _ _ (hsu.old o0)) ?_
              rintro _ _ ⟨rfl, rfl⟩
              refine KL.op (R.assign rfl rfl) rfl rfl rfl ?_
              refine KL.nil ?_
              refine KQ.seq ?_
              refine KC.seq ?_
              refine KC.seq ?_
              refine KC.region ?_
              refine KL.op (R.move rfl rfl) rfl rfl rfl ?_
              refine KL.op (R.move rfl rfl) rfl rfl rfl ?_
              refine KL.op ((R.gtr rfl rfl rfl).val (congrArg Value.bool (decide_eq_false (by omega)))) rfl rfl rfl ?_
              refine KL.op (R.move rfl rfl) rfl rfl rfl ?_
              refine KL.op ((by first | exact R.fieldAddr rfl Try.underlying45 rfl rfl sz24 rfl | exact R.fieldAddrP rfl Try.underlying45 rfl rfl sz24 rfl)) rfl rfl rfl ?_
              refine KL.op (R.load rfl Try.underlying24 rfl rfl (cell_of bv rfl)) rfl rfl rfl ?_
              refine KL.op (R.lenS rfl Try.underlying24 rfl hsw) rfl rfl rfl ?_
              refine KL.op (R.convI rfl Try.underlying3 Try.underlying39 rfl (by dsimp only [InR]; omega)) rfl rfl rfl ?_
              refine KL.op (R.move rfl rfl) rfl rfl rfl ?_
              refine KL.op (R.move rfl rfl) rfl rfl rfl ?_
              refine KL.op (R.sub rfl rfl rfl (by dsimp only [InR]; omega)) rfl rfl rfl ?_
              refine KL.op ((R.gtr rfl rfl rfl).val (congrArg Value.bool (decide_eq_false (by omega)))) rfl rfl rfl ?_
              refine KL.op (R.pick rfl rfl rfl) rfl rfl rfl ?_
              refine KL.nil ?_
              refine KQ.seq ?_
              refine KC.condF rfl ?_
              refine KC.skip ?_
              refine KQ.seq ?_
              refine KC.seq ?_
              refine KC.region ?_
              refine KL.op ((by first | exact R.fieldAddr rfl Try.underlying45 rfl rfl sz24 rfl | exact R.fieldAddrP rfl Try.underlying45 rfl rfl sz24 rfl)) rfl rfl rfl ?_
              refine KL.op (R.load rfl Try.underlying24 rfl rfl (cell_of bv rfl)) rfl rfl rfl ?_
              refine KL.op (R.lenS rfl Try.underlying24 rfl hsw) rfl rfl rfl ?_
              refine KL.op (R.move rfl rfl) rfl rfl rfl ?_
              refine KL.nil ?_
              refine KQ.seq ?_
              refine KC.block ?_
              refine KC.loopD (κ := Nat) [93, 94, 95, 96, 11, 12, 97, 98, 99, 100, 101, 102, 103, 104, 105, 106, 92] (fun q => [(92, .int .i64 (q : Nat))]) (fun q Hl => q ≤ (m.elems.getD k default).2.length ∧ Own 1 (EInt .i64) 2 #[] (Array.size H4) Hl (.slice (some ⟨Array.size H4, 0, none⟩) (tlen m) (tlen m)) ((putAt (lay (tab0 m) (m.elems.take k)) (iv (m.elems.getD k default).1).toNat ((m.elems.getD k default).2.take q)).map (· + 1)) ∧ Hl[Array.size H]? = some (.cells [v0, v1, v2, v3, v4, v5, v6, v7, v8, v9, va, vb].toArray 33 (0, 0)) ∧ Old H4 Hl ∧ Old H Hl) (fun q => (m.elems.getD k default).2.length - q) 0 ?_ ?_ ?_
              · exact (Sub.cons rfl (Ext.sub (Ext.refl _ _)))
              · exact ⟨Nat.zero_le _, by rw [List.take_zero, putAt_nil]; exact wk, bm, oW, o0⟩
              · rintro q H9 ⟨hq, wk, bm, oW, o0⟩
                have zl_H9 := o0.1
                have zW := oW.1
                have zwk := wk.lt.resolve_left (by simp)
                refine KC.seq ?_
                refine KC.region ?_
                refine KL.op (R.lss rfl rfl rfl) rfl rfl rfl ?_
                refine KL.nil ?_
                refine KQ.seq ?_
                refine KC.seq ?_
                refine KC.iteL rfl ?_ ?_
                · intro hc93
                  try simp only [decide_eq_true_eq, decide_eq_false_iff_not, Bool.not_eq_true', Bool.not_eq_false', Bool.and_eq_true, Bool.or_eq_false_iff] at hc93
                  have hPl : ((putAt (lay (tab0 m) (m.elems.take k)) (iv (m.elems.getD k default).1).toNat ((m.elems.getD k default).2.take q)).map (· + 1)).length = tlen m := by rw [List.length_map, putAt_length (by rw [List.length_take]; omega)]; exact hTk
                  obtain ⟨hcf, hrf⟩ := hsw.int q (by omega)
                  dsimp only [InR] at hrf
                  refine KC.skip ?_
                  refine KQ.seq ?_
                  refine KC.seq ?_
                  refine KC.block ?_
                  refine KC.seq ?_
                  refine KC.region ?_
                  refine KL.op (R.move rfl rfl) rfl rfl rfl ?_
                  refine KL.op (R.index1 (j := q) rfl Try.underlying24 sz28 rfl rfl hsw rfl (by omega)) rfl rfl rfl ?_
                  refine KL.op (R.load rfl Try.underlying28 rfl rfl (o0.cell hcf)) rfl rfl rfl ?_
                  refine KL.op (R.assign rfl rfl) rfl rfl rfl ?_
                  refine KL.op (R.assign rfl rfl) rfl rfl rfl ?_
                  refine KL.nil ?_
                  refine KQ.seq ?_
                  refine KC.region ?_
                  refine KL.op (R.move rfl rfl) rfl rfl rfl ?_
                  refine KL.op (R.move rfl rfl) rfl rfl rfl ?_
                  refine KL.op (R.move rfl rfl) rfl rfl rfl ?_
                  refine KL.op (R.convI rfl Try.underlying3 Try.underlying39 rfl (by dsimp only [InR]; omega)) rfl rfl rfl ?_
                  refine KL.op (R.add rfl rfl rfl (by dsimp only [InR]; omega)) rfl rfl rfl ?_
                  refine KL.op (R.move rfl rfl) rfl rfl rfl ?_
                  refine KL.op (R.convI rfl Try.underlying28 Try.underlying2 rfl (by dsimp only [InR]; omega)) rfl rfl rfl ?_
                  refine KL.op (R.add rfl rfl rfl (by dsimp only [InR]; omega)) rfl rfl rfl ?_
                  refine KL.op (R.index1 (j := (iv (m.elems.getD k default).1).toNat + q) rfl Try.underlying42 sz2 rfl rfl (wk.sl (emptyOld _) (by decide)) (by omega) (by rw [hPl]; omega)) rfl rfl rfl ?_
                  refine KL.opS (S.own1 rfl sz2 rfl rfl rfl rfl wk (by rw [hPl]; omega) ⟨rfl, by dsimp only [InR]; omega⟩) rfl rfl ?_
                  rintro H10 ⟨u10, w10⟩
                  have o0 := o0.upd u10 (by omega)
                  have zu10 := u10.1
                  have bm := ((u10).2 _ (by omega)).trans bm
                  have oW := oW.upd u10 (by omega)
                  have wk := w10
                  have wk : Own 1 (EInt .i64) 2 #[] (Array.size H4) H10 (.slice (some ⟨Array.size H4, 0, none⟩) (tlen m) (tlen m)) ((putAt (lay (tab0 m) (m.elems.take k)) (iv (m.elems.getD k default).1).toNat ((m.elems.getD k default).2.take (q + 1))).map (· + 1)) := by rw [← map_putAt_set (by rw [hTk]; omega) (by omega)]; exact wk
                  refine KL.nil ?_
                  refine KQ.normBlock ?_
                  refine KQ.seq ?_
                  refine KC.region ?_
                  refine KL.op ((R.add rfl rfl rfl (by dsimp only [InR]; omega)).val (congrArg (Value.int .i64) (show (q : Int) + 1 = ((q + 1 : Nat) : Int) by omega))) rfl rfl rfl ?_
                  refine KL.op (R.move rfl rfl) rfl rfl rfl ?_
                  refine KL.nil ?_
                  refine KQ.again (q + 1) ?_ ?_ ?_
                  · exact (Sub.cons rfl (Ext.sub (by repeat (first | exact Ext.refl _ _ | refine Ext.put rfl ?_ | refine Ext.drop rfl ?_))))
                  · omega
                  · exact ⟨by omega, wk, bm, oW, o0⟩
                · intro hc93
                  try simp only [decide_eq_true_eq, decide_eq_false_iff_not, Bool.not_eq_true', Bool.not_eq_false', Bool.and_eq_true, Bool.or_eq_false_iff] at hc93
                  have hql : q = (m.elems.getD k default).2.length := by omega
                  rw [hql, List.take_length] at wk
                  refine KC.exit ?_
                  refine KQ.exitThen ?_
                  refine KQ.exitThen ?_
                  refine KQ.hit ?_
                  refine KQ.normBlock ?_
                  refine KQ.seq ?_
                  refine KC.region ?_
                  refine KL.op ((R.add rfl rfl rfl (by dsimp only [InR]; omega)).val (congrArg (Value.int .i64) (show (k : Int) + 1 = ((k + 1 : Nat) : Int) by omega))) rfl rfl rfl ?_
                  refine KL.op (R.move rfl rfl) rfl rfl rfl ?_
                  refine KL.nil ?_
                  refine KQ.again (k + 1) ?_ ?_ ?_
                  · exact (Sub.cons rfl (Ext.sub (by repeat (first | exact Ext.refl _ _ | refine Ext.put rfl ?_ | refine Ext.drop rfl ?_))))
                  · omega
                  · exact ⟨by omega, by rw [lay_take (by omega)]; exact wk, bm, oW, o0⟩
            · intro hc70
              try simp only [decide_eq_true_eq, decide_eq_false_iff_not, Bool.not_eq_true', Bool.not_eq_false', Bool.and_eq_true, Bool.or_eq_false_iff] at hc70
              have hkl : k = m.elems.length := by omega
              rw [hkl, List.take_length] at wk
              refine KC.exit ?_
              refine KQ.exitThen ?_
              refine KQ.exitThen ?_
              refine KQ.hit ?_
              refine KQ.seq ?_
              refine KC.seq ?_
              refine KC.seq ?_
              refine KC.region ?_
              refine KL.op (R.move rfl rfl) rfl rfl rfl ?_
              refine KL.op ((R.lenO rfl Try.underlying42 rfl wk).val (congrArg (Value.int .i64) (show (((lay (tab0 m) m.elems).map (· + 1)).length : Int) = (tlen m : Nat) by rw [List.length_map]; exact congrArg _ hTl))) rfl rfl rfl ?_
              refine KL.op (R.move rfl rfl) rfl rfl rfl ?_
              refine KL.nil ?_
              refine KQ.seq ?_
              refine KC.block ?_
              refine KC.loopD (κ := Nat) [111, 112, 113, 114, 13, 14, 116, 117, 118, 119, 115, 120, 121, 122, 15, 16, 17, 123, 124, 125, 126, 127, 128, 129, 130, 131, 132, 133, 134, 135, 136, 137, 138, 139, 140, 2, 141, 110] (fun k => [(110, .int .i64 (k : Nat))]) (fun k Hl => k ≤ tlen m ∧ Own 1 (EInt .i64) 2 #[] (Array.size H4) Hl (.slice (some ⟨Array.size H4, 0, none⟩) (tlen m) (tlen m)) ((tabL m).map (· + 1)) ∧ Hl[Array.size H]? = some (.cells [v0, v1, v2, v3, v4, v5, v6, v7, v8, v9, va, vb].toArray 33 (0, 0)) ∧ Old H4 Hl ∧ Old H Hl) (fun k => tlen m - k) 0 ?_ ?_ ?_
              · exact (Sub.cons rfl (Ext.sub (Ext.refl _ _)))
              · exact ⟨Nat.zero_le _, wk, bm, oW, o0⟩
              · rintro k H11 ⟨hk, wk, bm, oW, o0⟩
                have zl_H11 := o0.1
                have zW := oW.1
                refine KC.seq ?_
                refine KC.region ?_
                refine KL.op (R.lss rfl rfl rfl) rfl rfl rfl ?_
                refine KL.nil ?_
                refine KQ.seq ?_
                refine KC.seq ?_
                refine KC.iteL rfl ?_ ?_
                · intro hc111
                  try simp only [decide_eq_true_eq, decide_eq_false_iff_not, Bool.not_eq_true', Bool.not_eq_false', Bool.and_eq_true, Bool.or_eq_false_iff] at hc111
                  have hst := wk.sl (emptyOld _) (by decide)
                  have hkT : k < (tabL m).length := by omega
                  obtain ⟨hcw, hrw⟩ := hst.int k (by rw [List.length_map]; omega)
                  have hgd : ((tabL m).map (· + 1)).getD k default = (tabL m).getD k default + 1 := by
                    rw [List.getD_eq_getElem?_getD, List.getD_eq_getElem?_getD, List.getElem?_map, List.getElem?_eq_getElem hkT]; rfl
                  rw [hgd] at hcw hrw
                  have hrk := hrng _ (getD_mem hkT)
                  have heF : eI (tabL m) k = decide (0 < (tabL m).getD k default + 1) := by
                    unfold eI
                    split
                    · rename_i e; rw [e]; rfl
                    · symm; exact decide_eq_true (by omega)
                  refine KC.skip ?_
                  refine KQ.seq ?_
                  refine KC.seq ?_
                  refine KC.block ?_
                  refine KC.seq ?_
                  refine KC.region ?_
                  refine KL.op (R.move rfl rfl) rfl rfl rfl ?_
                  refine KL.op (R.index1 (j := k) rfl Try.underlying42 sz2 rfl rfl hst rfl (by rw [List.length_map]; omega)) rfl rfl rfl ?_
                  refine KL.op (R.load rfl Try.underlying2 rfl rfl hcw) rfl rfl rfl ?_
                  refine KL.op (R.assign rfl rfl) rfl rfl rfl ?_
                  refine KL.op (R.assign rfl rfl) rfl rfl rfl ?_
                  refine KL.nil ?_
                  refine KQ.seq ?_
                  refine KC.seq ?_
                  refine KC.region ?_
                  refine KL.op (R.move rfl rfl) rfl rfl rfl ?_
                  refine KL.op (R.move rfl rfl) rfl rfl rfl ?_
                  refine KL.op (R.convI rfl Try.underlying3 Try.underlying28 rfl (by dsimp only [InR]; omega)) rfl rfl rfl ?_
                  refine KL.call rfl rfl rfl rfl Try.call9 rfl rfl rfl (Elem_at (is0.old oW) k (by omega) (by omega) (elV_in hkT)) ?_
                  rintro _ _ ⟨rfl, rfl⟩
                  refine KL.op (R.move rfl rfl) rfl rfl rfl ?_
                  refine KL.op (R.extract rfl rfl rfl) rfl rfl rfl ?_
                  refine KL.op (R.extract rfl rfl rfl) rfl rfl rfl ?_
                  refine KL.op (R.extract rfl rfl rfl) rfl rfl rfl ?_
                  refine KL.op (R.assign rfl rfl) rfl rfl rfl ?_
                  refine KL.op (R.assign rfl rfl) rfl rfl rfl ?_
                  refine KL.op (R.assign rfl rfl) rfl rfl rfl ?_
                  refine KL.nil ?_
                  refine KQ.seq ?_
                  refine KC.seq ?_
                  refine KC.region ?_
                  refine KL.op (R.move rfl rfl) rfl rfl rfl ?_
                  refine KL.op ((R.not rfl rfl).val (show _ = Value.bool false from rfl)) rfl rfl rfl ?_
                  refine KL.op (R.move rfl rfl) rfl rfl rfl ?_
                  refine KL.op (R.move rfl rfl) rfl rfl rfl ?_
                  refine KL.op (R.move rfl rfl) rfl rfl rfl ?_
                  refine KL.op (R.gtr rfl rfl rfl) rfl rfl rfl ?_
                  refine KL.op ((R.neqB rfl Try.underlying4 rfl rfl).val (show _ = Value.bool false from congrArg Value.bool (by rw [heF]; simp))) rfl rfl rfl ?_
                  refine KL.op (R.pick rfl rfl rfl) rfl rfl rfl ?_
                  refine KL.op (R.move rfl rfl) rfl rfl rfl ?_
                  refine KL.op (R.move rfl rfl) rfl rfl rfl ?_
                  refine KL.op (R.move rfl rfl) rfl rfl rfl ?_
                  refine KL.case (d := 133) rfl ?_ ?_
                  · intro hg133
                    try simp only [decide_eq_true_eq, decide_eq_false_iff_not, Bool.not_eq_true', Bool.not_eq_false', Bool.and_eq_true, Bool.or_eq_false_iff] at hg133
                    have hne1 : ¬ (tabL m).getD k default = -1 := by
                      intro e; unfold eI at hg133; rw [if_pos e] at hg133; cases hg133
                    have heq : eF (tabL m) k = (tabL m).getD k default := by unfold eF; rw [if_neg hne1]; exact u32w (by omega) (by omega)
                    refine KL.op (R.move rfl rfl) rfl rfl rfl ?_
                    refine KL.op ((R.convI rfl Try.underlying28 Try.underlying2 rfl (by rw [heq]; dsimp only [InR]; omega)).val (congrArg (Value.int .i64) heq)) rfl rfl rfl ?_
                    refine KL.op (R.add rfl rfl rfl (by dsimp only [InR]; omega)) rfl rfl rfl ?_
                    refine KL.op (R.move rfl rfl) rfl rfl rfl ?_
                    refine KL.op ((R.neq rfl rfl rfl).val ((congrArg (fun b => Value.bool (!b)) (decide_eq_true (by rfl))))) rfl rfl rfl ?_
                    refine KL.op (R.pick rfl rfl rfl) rfl rfl rfl ?_
                    refine KL.op (R.pick rfl rfl rfl) rfl rfl rfl ?_
                    refine KL.nil ?_
                    refine KQ.seq ?_
                    refine KC.condF rfl ?_
                    refine KC.skip ?_
                    refine KQ.normBlock ?_
                    refine KQ.seq ?_
                    refine KC.region ?_
                    refine KL.op ((R.add rfl rfl rfl (by dsimp only [InR]; omega)).val (congrArg (Value.int .i64) (show (k : Int) + 1 = ((k + 1 : Nat) : Int) by omega))) rfl rfl rfl ?_
                    refine KL.op (R.move rfl rfl) rfl rfl rfl ?_
                    refine KL.nil ?_
                    refine KQ.again (k + 1) ?_ ?_ ?_
                    · exact (Sub.cons rfl (Ext.sub (by repeat (first | exact Ext.refl _ _ | refine Ext.put rfl ?_ | refine Ext.drop rfl ?_))))
                    · omega
                    · exact ⟨by omega, wk, bm, oW, o0⟩
                  · intro hg133
                    try simp only [decide_eq_true_eq, decide_eq_false_iff_not, Bool.not_eq_true', Bool.not_eq_false', Bool.and_eq_true, Bool.or_eq_false_iff] at hg133
                    refine KL.skip rfl rfl rfl ?_
                    refine KL.skip rfl rfl rfl ?_
                    refine KL.skip rfl rfl rfl ?_
                    refine KL.skip rfl rfl rfl ?_
                    refine KL.skip rfl rfl rfl ?_
                    refine KL.op (R.pick rfl rfl rfl) rfl rfl rfl ?_
                    refine KL.op (R.pick rfl rfl rfl) rfl rfl rfl ?_
                    refine KL.nil ?_
                    refine KQ.seq ?_
                    refine KC.condF rfl ?_
                    refine KC.skip ?_
                    refine KQ.normBlock ?_
                    refine KQ.seq ?_
                    refine KC.region ?_
                    refine KL.op ((R.add rfl rfl rfl (by dsimp only [InR]; omega)).val (congrArg (Value.int .i64) (show (k : Int) + 1 = ((k + 1 : Nat) : Int) by omega))) rfl rfl rfl ?_
                    refine KL.op (R.move rfl rfl) rfl rfl rfl ?_
                    refine KL.nil ?_
                    refine KQ.again (k + 1) ?_ ?_ ?_
                    · exact (Sub.cons rfl (Ext.sub (by repeat (first | exact Ext.refl _ _ | refine Ext.put rfl ?_ | refine Ext.drop rfl ?_))))
                    · omega
                    · exact ⟨by omega, wk, bm, oW, o0⟩
                · intro hc111
                  try simp only [decide_eq_true_eq, decide_eq_false_iff_not, Bool.not_eq_true', Bool.not_eq_false', Bool.and_eq_true, Bool.or_eq_false_iff] at hc111
                  refine KC.exit ?_
                  refine KQ.exitThen ?_
                  refine KQ.exitThen ?_
                  refine KQ.hit ?_
                  refine KQ.seq ?_
                  refine KC.seq ?_
                  refine KC.region ?_
                  refine KL.op (R.move rfl rfl) rfl rfl rfl ?_
                  refine KL.call rfl rfl rfl rfl Try.call10 rfl rfl rfl (Mem_any (is0.old oW)) ?_
                  rintro _ _ ⟨rfl, rfl⟩
                  refine KL.op (R.move rfl rfl) rfl rfl rfl ?_
                  refine KL.op (R.convI rfl Try.underlying39 Try.underlying28 rfl (by dsimp only [InR]; omega)) rfl rfl rfl ?_
                  refine KL.call rfl rfl rfl rfl Try.call11 rfl rfl rfl (get_is (is0.old oW) (by rw [hMl]; omega) 0 (pages m * 65536) (by dsimp only [InR]; omega) (by dsimp only [InR]; omega)) ?_
                  rintro _ H12 ⟨xb, b, rfl, wx, hb, ox⟩
                  rw [prtP_whole (by rw [hMl]; omega)] at wx
                  have zc_H12 := (ox).1
                  have o0 := o0.trans ox
                  have wk := wk.old ox
                  have bm := (ox).blk bm
                  have oW := oW.trans ox
                  have sx := wx.sl (emptyOld _) (by decide)
                  refine KL.op (R.move rfl rfl) rfl rfl rfl ?_
                  refine KL.op (R.extract rfl rfl rfl) rfl rfl rfl ?_
                  refine KL.op (R.extract rfl rfl rfl) rfl rfl rfl ?_
                  refine KL.op (R.assign rfl rfl) rfl rfl rfl ?_
                  refine KL.op (R.assign rfl rfl) rfl rfl rfl ?_
                  refine KL.nil ?_
                  refine KQ.seq ?_
                  refine KC.seq ?_
                  refine KC.seq ?_
                  refine KC.region ?_
                  refine KL.op (R.move rfl rfl) rfl rfl rfl ?_
                  refine KL.op ((R.lenS rfl Try.underlying49 rfl sx).val (congrArg (Value.int .i64) (show ((memL m).length : Int) = pages m * 65536 by rw [hMl]; omega))) rfl rfl rfl ?_
                  refine KL.op (R.convI rfl Try.underlying3 Try.underlying39 rfl (by dsimp only [InR]; omega)) rfl rfl rfl ?_
                  refine KL.op (R.move rfl rfl) rfl rfl rfl ?_
                  refine KL.op ((R.neq rfl rfl rfl).val ((congrArg (fun b => Value.bool (!b)) (decide_eq_true (by rfl))))) rfl rfl rfl ?_
                  refine KL.nil ?_
                  refine KQ.seq ?_
                  refine KC.condF rfl ?_
                  refine KC.skip ?_
                  refine KQ.seq ?_
                  refine KC.seq ?_
                  refine KC.seq ?_
                  refine KC.region ?_
                  refine KL.op ((by first | exact R.fieldAddr rfl Try.underlying33 rfl rfl sz31 rfl | exact R.fieldAddrP rfl Try.underlying33 rfl rfl sz31 rfl)) rfl rfl rfl ?_
                  refine KL.op (R.load rfl Try.underlying31 rfl rfl (by first | exact cell_of bm rfl | assumption)) rfl rfl rfl ?_
                  refine KL.op (R.lenS rfl Try.underlying31 rfl mv.d) rfl rfl rfl ?_
                  refine KL.op (R.sub rfl rfl rfl (by dsimp only [InR]; omega)) rfl rfl rfl ?_
                  refine KL.op (R.assign rfl rfl) rfl rfl rfl ?_
                  refine KL.nil ?_
                  refine KQ.seq ?_
                  refine KC.block ?_
                  refine KC.loopD (κ := Nat) [159, 160, 163, 164, 165, 166, 167, 168, 169, 21, 170, 171, 172, 173, 174, 175, 176, 177, 178, 179, 180, 181, 182, 183, 184, 185, 186, 2, 187, 188, 189, 190, 191, 192, 193, 194, 195, 196, 197, 198, 199, 200, 201, 202, 203, 204, 205, 206, 207, 208, 209, 210, 211, 212, 213, 214, 215, 216, 161, 162, 20] (fun k => [(20, .int .i64 ((m.datas.length : Int) - 1 - (k : Nat)))]) (fun k Hl => k ≤ m.datas.length ∧ H12 = Hl) (fun k => m.datas.length - k) 0 ?_ ?_ ?_
                  · exact (Sub.cons (congrArg (fun z => some (Value.int .i64 z)) (show (m.datas.length : Int) - 1 = (m.datas.length : Int) - 1 - (0 : Nat) by omega)) (Ext.sub (Ext.refl _ _)))
                  · exact ⟨Nat.zero_le _, rfl⟩
                  · rintro k H13 ⟨hk, rfl⟩
                    refine KC.seq ?_
                    refine KC.seq ?_
                    refine KC.region ?_
                    refine KL.op (R.move rfl rfl) rfl rfl rfl ?_
                    refine KL.op (R.geq rfl rfl rfl) rfl rfl rfl ?_
                    refine KL.nil ?_
                    refine KQ.seq ?_
                    refine KC.iteL rfl ?_ ?_
                    · intro hc160
                      try simp only [decide_eq_true_eq, decide_eq_false_iff_not, Bool.not_eq_true', Bool.not_eq_false', Bool.and_eq_true, Bool.or_eq_false_iff] at hc160
                      obtain ⟨tt, vu, vw, hcx, hsu, hsw, hlw⟩ := mv.d.daAt (m.datas.length - 1 - k) (by omega)
                      have hiv := iv_R (m.datas.getD (m.datas.length - 1 - k) default).1
                      have hfk := hfit.d _ (getD_mem (l := m.datas) (k := (m.datas.length - 1 - k)) (by omega))
                      refine KC.skip ?_
                      refine KQ.seq ?_
                      refine KC.seq ?_
                      refine KC.block ?_
                      refine KC.seq ?_
                      refine KC.region ?_
                      refine KL.op ((by first | exact R.fieldAddr rfl Try.underlying33 rfl rfl sz31 rfl | exact R.fieldAddrP rfl Try.underlying33 rfl rfl sz31 rfl)) rfl rfl rfl ?_
                      refine KL.op (R.load rfl Try.underlying31 rfl rfl (by first | exact cell_of bm rfl | assumption)) rfl rfl rfl ?_
                      refine KL.op (R.move rfl rfl) rfl rfl rfl ?_
                      refine KL.op (R.index (j := (m.datas.length - 1 - k)) rfl Try.underlying31 sz55 rfl rfl mv.d (by omega) (by omega)) rfl rfl rfl ?_
                      refine KL.op ((by first | exact R.fieldAddr rfl Try.underlying55 rfl rfl sz43 rfl | exact R.fieldAddrP rfl Try.underlying55 rfl rfl sz43 rfl)) rfl rfl rfl ?_
                      refine KL.op (R.load rfl Try.underlying43 rfl rfl (o0.cells hcx 1 _ rfl)) rfl rfl rfl ?_
                      refine KL.call rfl rfl rfl rfl Try.call8 rfl rfl rfl (Value_any _ _ (hsu.old o0)) ?_
                      rintro _ _ ⟨rfl, rfl⟩
                      refine KL.op (R.assign rfl rfl) rfl rfl rfl ?_
                      refine KL.nil ?_
                      refine KQ.seq ?_
                      refine KC.seq ?_
                      refine KC.seq ?_
                      refine KC.region ?_
                      refine KL.op (R.move rfl rfl) rfl rfl rfl ?_
                      refine KL.op (R.move rfl rfl) rfl rfl rfl ?_
                      refine KL.op ((R.gtr rfl rfl rfl).val (congrArg Value.bool (decide_eq_false (by omega)))) rfl rfl rfl ?_
                      refine KL.op (R.move rfl rfl) rfl rfl rfl ?_
                      refine KL.op ((by first | exact R.fieldAddr rfl Try.underlying33 rfl rfl sz31 rfl | exact R.fieldAddrP rfl Try.underlying33 rfl rfl sz31 rfl)) rfl rfl rfl ?_
                      refine KL.op (R.load rfl Try.underlying31 rfl rfl (by first | exact cell_of bm rfl | assumption)) rfl rfl rfl ?_
                      refine KL.op (R.move rfl rfl) rfl rfl rfl ?_
                      refine KL.op (R.index (j := (m.datas.length - 1 - k)) rfl Try.underlying31 sz55 rfl rfl mv.d (by omega) (by omega)) rfl rfl rfl ?_
                      refine KL.op ((by first | exact R.fieldAddr rfl Try.underlying55 rfl rfl sz49 rfl | exact R.fieldAddrP rfl Try.underlying55 rfl rfl sz49 rfl)) rfl rfl rfl ?_
                      refine KL.op (R.load rfl Try.underlying49 rfl rfl (o0.cells hcx 2 _ rfl)) rfl rfl rfl ?_
                      refine KL.op (R.lenS rfl Try.underlying49 rfl hsw) rfl rfl rfl ?_
                      refine KL.op (R.convI rfl Try.underlying3 Try.underlying39 rfl (by dsimp only [InR]; omega)) rfl rfl rfl ?_
                      refine KL.op (R.move rfl rfl) rfl rfl rfl ?_
                      refine KL.op (R.move rfl rfl) rfl rfl rfl ?_
                      refine KL.op (R.sub rfl rfl rfl (by dsimp only [InR]; omega)) rfl rfl rfl ?_
                      refine KL.op ((R.gtr rfl rfl rfl).val (congrArg Value.bool (decide_eq_false (by omega)))) rfl rfl rfl ?_
                      refine KL.op (R.pick rfl rfl rfl) rfl rfl rfl ?_
                      refine KL.nil ?_
                      refine KQ.seq ?_
                      refine KC.condF rfl ?_
                      refine KC.skip ?_
                      refine KQ.seq ?_
                      refine KC.seq ?_
                      refine KC.quiet (by kernel_rfl) (by kernel_rfl) ?_
                      refine KD.op (R.move rfl rfl) rfl rfl rfl ?_
                      refine KD.op ((by first | exact R.fieldAddr rfl Try.underlying33 rfl rfl sz31 rfl | exact R.fieldAddrP rfl Try.underlying33 rfl rfl sz31 rfl)) rfl rfl rfl ?_
                      refine KD.op (R.load rfl Try.underlying31 rfl rfl (by first | exact cell_of bm rfl | assumption)) rfl rfl rfl ?_
                      refine KD.op (R.lenS rfl Try.underlying31 rfl mv.d) rfl rfl rfl ?_
                      refine KD.op (R.sub rfl rfl rfl (by dsimp only [InR]; omega)) rfl rfl rfl ?_
                      refine KD.op (R.eql rfl rfl rfl) rfl rfl rfl ?_
                      refine KD.op (R.move rfl rfl) rfl rfl rfl ?_
                      refine KD.case (d := 193) rfl ?_ ?_
                      · intro hg193
                        try simp only [decide_eq_true_eq, decide_eq_false_iff_not, Bool.not_eq_true', Bool.not_eq_false', Bool.and_eq_true, Bool.or_eq_false_iff] at hg193
                        have hk0 : k = 0 := by omega
                        have hJ : m.datas.length - 1 - k = m.datas.length - 1 := by omega
                        have hsub : Sl 1 (EInt .u8) H12 (subV 1 xb (iv (m.datas.getD (m.datas.length - 1 - k) default).1).toNat ((iv (m.datas.getD (m.datas.length - 1 - k) default).1).toNat + (m.datas.getD (m.datas.length - 1 - k) default).2.length)) (m.datas.getD (m.datas.length - 1 - k) default).2 := by
                          have hs := sx.sub (lo := (iv (m.datas.getD (m.datas.length - 1 - k) default).1).toNat) (hi := (iv (m.datas.getD (m.datas.length - 1 - k) default).1).toNat + (m.datas.getD (m.datas.length - 1 - k) default).2.length) (by omega) (by rw [hMl]; omega)
                          have hl := mem_last hfit hpg0 (by omega)
                          unfold prt at hl
                          rw [← hJ] at hl
                          rw [hl] at hs
                          exact hs
                        refine KD.op (R.move rfl rfl) rfl rfl rfl ?_
                        refine KD.op (R.move rfl rfl) rfl rfl rfl ?_
                        refine KD.op (R.move rfl rfl) rfl rfl rfl ?_
                        refine KD.op ((by first | exact R.fieldAddr rfl Try.underlying33 rfl rfl sz31 rfl | exact R.fieldAddrP rfl Try.underlying33 rfl rfl sz31 rfl)) rfl rfl rfl ?_
                        refine KD.op (R.load rfl Try.underlying31 rfl rfl (by first | exact cell_of bm rfl | assumption)) rfl rfl rfl ?_
                        refine KD.op (R.move rfl rfl) rfl rfl rfl ?_
                        refine KD.op (R.index (j := (m.datas.length - 1 - k)) rfl Try.underlying31 sz55 rfl rfl mv.d (by omega) (by omega)) rfl rfl rfl ?_
                        refine KD.op ((by first | exact R.fieldAddr rfl Try.underlying55 rfl rfl sz49 rfl | exact R.fieldAddrP rfl Try.underlying55 rfl rfl sz49 rfl)) rfl rfl rfl ?_
                        refine KD.op (R.load rfl Try.underlying49 rfl rfl (o0.cells hcx 2 _ rfl)) rfl rfl rfl ?_
                        refine KD.op (R.lenS rfl Try.underlying49 rfl hsw) rfl rfl rfl ?_
                        refine KD.op (R.convI rfl Try.underlying3 Try.underlying39 rfl (by dsimp only [InR]; omega)) rfl rfl rfl ?_
                        refine KD.op (R.add rfl rfl rfl (by dsimp only [InR]; omega)) rfl rfl rfl ?_
                        refine KD.op (R.slice (i := (iv (m.datas.getD (m.datas.length - 1 - k) default).1).toNat) (j := (iv (m.datas.getD (m.datas.length - 1 - k) default).1).toNat + (m.datas.getD (m.datas.length - 1 - k) default).2.length) rfl Try.underlying49 sz5 rfl sx (bnd.mk rfl (by omega)) (bnd.mk rfl (by omega)) (by omega) (by rw [hMl]; omega)) rfl rfl rfl ?_
                        refine KD.op (R.convBS rfl Try.underlying49 Try.underlying5 Try.underlying9 rfl hsub) rfl rfl rfl ?_
                        refine KD.op ((by first | exact R.fieldAddr rfl Try.underlying33 rfl rfl sz31 rfl | exact R.fieldAddrP rfl Try.underlying33 rfl rfl sz31 rfl)) rfl rfl rfl ?_
                        refine KD.op (R.load rfl Try.underlying31 rfl rfl (by first | exact cell_of bm rfl | assumption)) rfl rfl rfl ?_
                        refine KD.op (R.move rfl rfl) rfl rfl rfl ?_
                        refine KD.op (R.index (j := (m.datas.length - 1 - k)) rfl Try.underlying31 sz55 rfl rfl mv.d (by omega) (by omega)) rfl rfl rfl ?_
                        refine KD.op ((by first | exact R.fieldAddr rfl Try.underlying55 rfl rfl sz49 rfl | exact R.fieldAddrP rfl Try.underlying55 rfl rfl sz49 rfl)) rfl rfl rfl ?_
                        refine KD.op (R.load rfl Try.underlying49 rfl rfl (o0.cells hcx 2 _ rfl)) rfl rfl rfl ?_
                        refine KD.op (R.convBS rfl Try.underlying49 Try.underlying5 Try.underlying9 rfl (hsw.old o0)) rfl rfl rfl ?_
                        refine KD.op ((R.neqStr rfl rfl rfl).val (show _ = Value.bool false from congrArg Value.bool (by simp))) rfl rfl rfl ?_
                        refine KD.op (R.pick rfl rfl rfl) rfl rfl rfl ?_
                        refine KD.nil ?_
                        refine KQ.seq ?_
                        refine KC.condF rfl ?_
                        refine KC.skip ?_
                        refine KQ.normBlock ?_
                        refine KQ.seq ?_
                        refine KC.region ?_
                        refine KL.op (R.move rfl rfl) rfl rfl rfl ?_
                        refine KL.op ((R.sub rfl rfl rfl (by dsimp only [InR]; omega)).val (congrArg (Value.int .i64) (show (m.datas.length : Int) - 1 - (k : Nat) - 1 = (m.datas.length : Int) - 1 - (k + 1 : Nat) by omega))) rfl rfl rfl ?_
                        refine KL.op (R.assign rfl rfl) rfl rfl rfl ?_
                        refine KL.nil ?_
                        refine KQ.again (k + 1) ?_ ?_ ?_
                        · exact (Sub.cons rfl (Ext.sub (by repeat (first | exact Ext.refl _ _ | refine Ext.put rfl ?_ | refine Ext.drop rfl ?_))))
                        · omega
                        · exact ⟨by omega, rfl⟩
                      · intro hg193
                        try simp only [decide_eq_true_eq, decide_eq_false_iff_not, Bool.not_eq_true', Bool.not_eq_false', Bool.and_eq_true, Bool.or_eq_false_iff] at hg193
                        refine KD.skip rfl rfl rfl ?_
                        refine KD.skip rfl rfl rfl ?_
                        refine KD.skip rfl rfl rfl ?_
                        refine KD.skip rfl rfl rfl ?_
                        refine KD.skip rfl rfl rfl ?_
                        refine KD.skip rfl rfl rfl ?_
                        refine KD.skip rfl rfl rfl ?_
                        refine KD.skip rfl rfl rfl ?_
                        refine KD.skip rfl rfl rfl ?_
                        refine KD.skip rfl rfl rfl ?_
                        refine KD.skip rfl rfl rfl ?_
                        refine KD.skip rfl rfl rfl ?_
                        refine KD.skip rfl rfl rfl ?_
                        refine KD.skip rfl rfl rfl ?_
                        refine KD.skip rfl rfl rfl ?_
                        refine KD.skip rfl rfl rfl ?_
                        refine KD.skip rfl rfl rfl ?_
                        refine KD.skip rfl rfl rfl ?_
                        refine KD.skip rfl rfl rfl ?_
                        refine KD.skip rfl rfl rfl ?_
                        refine KD.skip rfl rfl rfl ?_
                        refine KD.skip rfl rfl rfl ?_
                        refine KD.op (R.pick rfl rfl rfl) rfl rfl rfl ?_
                        refine KD.nil ?_
                        refine KQ.seq ?_
                        refine KC.condF rfl ?_
                        refine KC.skip ?_
                        refine KQ.normBlock ?_
                        refine KQ.seq ?_
                        refine KC.region ?_
                        refine KL.op (R.move rfl rfl) rfl rfl rfl ?_
                        refine KL.op ((R.sub rfl rfl rfl (by dsimp only [InR]; omega)).val (congrArg (Value.int .i64) (show (m.datas.length : Int) - 1 - (k : Nat) - 1 = (m.datas.length : Int) - 1 - (k + 1 : Nat) by omega))) rfl rfl rfl ?_
                        refine KL.op (R.assign rfl rfl) rfl rfl rfl ?_
                        refine KL.nil ?_
                        refine KQ.again (k + 1) ?_ ?_ ?_
                        · exact (Sub.cons rfl (Ext.sub (by repeat (first | exact Ext.refl _ _ | refine Ext.put rfl ?_ | refine Ext.drop rfl ?_))))
                        · omega
                        · exact ⟨by omega, rfl⟩
                    · intro hc160
                      try simp only [decide_eq_true_eq, decide_eq_false_iff_not, Bool.not_eq_true', Bool.not_eq_false', Bool.and_eq_true, Bool.or_eq_false_iff] at hc160
                      refine KC.exit ?_
                      refine KQ.exitThen ?_
                      refine KQ.exitThen ?_
                      refine KQ.hit ?_
                      refine KQ.seq ?_
                      refine KC.seq ?_
                      refine KC.seq ?_
                      refine KC.region ?_
                      refine KL.op ((by first | exact R.fieldAddr rfl Try.underlying33 rfl rfl sz31 rfl | exact R.fieldAddrP rfl Try.underlying33 rfl rfl sz31 rfl)) rfl rfl rfl ?_
                      refine KL.op (R.load rfl Try.underlying31 rfl rfl (by first | exact cell_of bm rfl | assumption)) rfl rfl rfl ?_
                      refine KL.op (R.lenS rfl Try.underlying31 rfl mv.d) rfl rfl rfl ?_
                      refine KL.op (R.eql rfl rfl rfl) rfl rfl rfl ?_
                      refine KL.nil ?_
                      refine KQ.seq ?_
                      refine KC.iteL rfl ?_ ?_
                      · intro hc220
                        try simp only [decide_eq_true_eq, decide_eq_false_iff_not, Bool.not_eq_true', Bool.not_eq_false', Bool.and_eq_true, Bool.or_eq_false_iff] at hc220
                        have hd0 : m.datas = [] := List.eq_nil_of_length_eq_zero (by omega)
                        have hz : memL m = zeros (pages m) := by unfold memL; rw [hd0]; rfl
                        refine KC.seq ?_
                        refine KC.region ?_
                        refine KL.op (R.move rfl rfl) rfl rfl rfl ?_
                        refine KL.op (R.lenS rfl Try.underlying49 rfl sx) rfl rfl rfl ?_
                        refine KL.op (R.move rfl rfl) rfl rfl rfl ?_
                        refine KL.nil ?_
                        refine KQ.seq ?_
                        refine KC.block ?_
                        refine KC.loopD (κ := Nat) [224, 225, 226, 23, 227, 228, 2, 229, 223] (fun k => [(223, .int .i64 (k : Nat))]) (fun k Hl => k ≤ (memL m).length ∧ H12 = Hl) (fun k => (memL m).length - k) 0 ?_ ?_ ?_
                        · exact (Sub.cons rfl (Ext.sub (Ext.refl _ _)))
                        · exact ⟨Nat.zero_le _, rfl⟩
                        · rintro k H14 ⟨hk, rfl⟩
                          refine KC.seq ?_
                          refine KC.region ?_
                          refine KL.op (R.lss rfl rfl rfl) rfl rfl rfl ?_
                          refine KL.nil ?_
                          refine KQ.seq ?_
                          refine KC.seq ?_
                          refine KC.iteL rfl ?_ ?_
                          · intro hc224
                            try simp only [decide_eq_true_eq, decide_eq_false_iff_not, Bool.not_eq_true', Bool.not_eq_false', Bool.and_eq_true, Bool.or_eq_false_iff] at hc224
                            have hc0 := (sx.int k (by omega)).1
                            have hz0 : (memL m).getD k default = 0 := by
                              have hlt : k < (memL m).length := by omega
                              rw [hz] at hlt ⊢
                              rw [List.getD_eq_getElem?_getD, List.getElem?_eq_getElem hlt]
                              exact List.eq_of_mem_replicate (List.getElem_mem _)
                            rw [hz0] at hc0
                            refine KC.skip ?_
                            refine KQ.seq ?_
                            refine KC.seq ?_
                            refine KC.block ?_
                            refine KC.seq ?_
                            refine KC.region ?_
                            refine KL.op (R.index1 (j := k) rfl Try.underlying49 sz5 rfl rfl sx rfl (by omega)) rfl rfl rfl ?_
                            refine KL.op (R.load rfl Try.underlying5 rfl rfl hc0) rfl rfl rfl ?_
                            refine KL.op (R.assign rfl rfl) rfl rfl rfl ?_
                            refine KL.nil ?_
                            refine KQ.seq ?_
                            refine KC.seq ?_
                            refine KC.region ?_
                            refine KL.op (R.move rfl rfl) rfl rfl rfl ?_
                            refine KL.op ((R.neq rfl rfl rfl).val ((congrArg (fun b => Value.bool (!b)) (decide_eq_true (by rfl))))) rfl rfl rfl ?_
                            refine KL.nil ?_
                            refine KQ.seq ?_
                            refine KC.condF rfl ?_
                            refine KC.skip ?_
                            refine KQ.normBlock ?_
                            refine KQ.seq ?_
                            refine KC.region ?_
                            refine KL.op ((R.add rfl rfl rfl (by dsimp only [InR]; omega)).val (congrArg (Value.int .i64) (show (k : Int) + 1 = ((k + 1 : Nat) : Int) by omega))) rfl rfl rfl ?_
                            refine KL.op (R.move rfl rfl) rfl rfl rfl ?_
                            refine KL.nil ?_
                            refine KQ.again (k + 1) ?_ ?_ ?_
                            · exact (Sub.cons rfl (Ext.sub (by repeat (first | exact Ext.refl _ _ | refine Ext.put rfl ?_ | refine Ext.drop rfl ?_))))
                            · omega
                            · exact ⟨by omega, rfl⟩
                          · intro hc224
                            try simp only [decide_eq_true_eq, decide_eq_false_iff_not, Bool.not_eq_true', Bool.not_eq_false', Bool.and_eq_true, Bool.or_eq_false_iff] at hc224
                            refine KC.exit ?_
                            refine KQ.exitThen ?_
                            refine KQ.exitThen ?_
                            refine KQ.hit ?_
                            refine KQ.seq ?_
                            refine KC.seq ?_
                            refine KC.region ?_
                            refine KL.call rfl rfl rfl rfl Try.call6 rfl rfl rfl (works_any) ?_
                            rintro _ H15 ⟨rfl, ox⟩
                            have zc_H15 := (ox).1
                            have o0 := o0.trans ox
                            have wk := wk.old ox
                            have bm := (ox).blk bm
                            have oW := oW.trans ox
                            have sx := sx.old ox
                            refine KL.op (R.assign rfl rfl) rfl rfl rfl ?_
                            refine KL.nil ?_
                            refine KQ.seq ?_
                            refine KC.ret ?_
                            refine KQ.ofRet ?_
                            refine KQ.fin1 Try.results3 rfl ?_
                            exact ⟨rfl, o0⟩
                      · intro hc220
                        try simp only [decide_eq_true_eq, decide_eq_false_iff_not, Bool.not_eq_true', Bool.not_eq_false', Bool.and_eq_true, Bool.or_eq_false_iff] at hc220
                        refine KC.skip ?_
                        refine KQ.seq ?_
                        refine KC.seq ?_
                        refine KC.region ?_
                        refine KL.call rfl rfl rfl rfl Try.call6 rfl rfl rfl (works_any) ?_
                        rintro _ H16 ⟨rfl, ox⟩
                        have zc_H16 := (ox).1
                        have o0 := o0.trans ox
                        have wk := wk.old ox
                        have bm := (ox).blk bm
                        have oW := oW.trans ox
                        have sx := sx.old ox
                        refine KL.op (R.assign rfl rfl) rfl rfl rfl ?_
                        refine KL.nil ?_
                        refine KQ.seq ?_
                        refine KC.ret ?_
                        refine KQ.ofRet ?_
                        refine KQ.fin1 Try.results3 rfl ?_
                        exact ⟨rfl, o0⟩
    · skip
      have o0 := o0.trans ox
      have bm := (ox).blk bm
      refine KL.op (R.move rfl rfl) rfl rfl rfl ?_
      refine KL.op (R.extract rfl rfl rfl) rfl rfl rfl ?_
      refine KL.op (R.extract rfl rfl rfl) rfl rfl rfl ?_
      refine KL.op (R.assign rfl rfl) rfl rfl rfl ?_
      refine KL.op (R.assign rfl rfl) rfl rfl rfl ?_
      refine KL.nil ?_
      refine KQ.seq ?_
      refine KC.seq ?_
      refine KC.seq ?_
      refine KC.region ?_
      refine KL.op (R.move rfl rfl) rfl rfl rfl ?_
      refine KL.op ((R.neq rfl rfl rfl).val ((congrArg (fun b => Value.bool (!b)) (decide_eq_false (by decide))))) rfl rfl rfl ?_
      refine KL.nil ?_
      refine KQ.seq ?_
      refine KC.condT rfl ?_
      refine KC.seq ?_
      refine KC.region ?_
      refine KL.op (R.move rfl rfl) rfl rfl rfl ?_
      refine KL.op (R.eqlP rfl Try.underlying36 rfl rfl) rfl rfl rfl ?_
      refine KL.op (R.move rfl rfl) rfl rfl rfl ?_
      refine KL.op (R.move rfl rfl) rfl rfl rfl ?_
      refine KL.op ((R.eql rfl rfl rfl).val (congrArg Value.bool (decide_eq_true (by rfl)))) rfl rfl rfl ?_
      refine KL.op (R.pick rfl rfl rfl) rfl rfl rfl ?_
      refine KL.op (R.move rfl rfl) rfl rfl rfl ?_
      refine KL.call rfl rfl rfl rfl Try.call6 rfl rfl rfl (works_any) ?_
      rintro _ H17 ⟨rfl, ox⟩
      have zc_H17 := (ox).1
      have o0 := o0.trans ox
      have bm := (ox).blk bm
      refine KL.op (R.pick rfl rfl rfl) rfl rfl rfl ?_
      refine KL.op (R.assign rfl rfl) rfl rfl rfl ?_
      refine KL.nil ?_
      refine KQ.seq ?_
      refine KC.ret ?_
      refine KQ.retThen ?_
      refine KQ.ofRet ?_
      refine KQ.fin1 Try.results3 rfl ?_
      exact ⟨rfl, o0⟩

end Go.Proofs.Yticnkojpfmkjeaa
