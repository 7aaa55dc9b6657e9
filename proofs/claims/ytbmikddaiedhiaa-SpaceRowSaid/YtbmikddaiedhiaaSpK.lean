/- The document's functions, globals, limits. No condition but sizes. -/
import Derived.Test.YtbmikddaiedhiaaSpJ
import Derived.Test.YtbmikddaiedhiaaKEq
namespace Go.Proofs.Ytbmikddaiedhiaa
open Go Go.RowKit
set_option linter.unusedVariables false
set_option linter.unusedSimpArgs false
set_option linter.unnecessarySimpa false

theorem getD_lt {α : Type} [Inhabited α] {l : List α} {i : Nat} (h : i < l.length) : l.getD i default = l[i] := by
  rw [List.getD_eq_getElem?_getD, List.getElem?_eq_getElem h]; rfl
theorem getD_app1 {α : Type} [Inhabited α] {l m : List α} {i : Nat} (h : i < l.length) : (l ++ m).getD i default = l.getD i default := by
  rw [List.getD_eq_getElem?_getD, List.getElem?_append_left h, ← List.getD_eq_getElem?_getD]
theorem getD_app2 {α : Type} [Inhabited α] {l m : List α} {i : Nat} (h : l.length ≤ i) : (l ++ m).getD i default = m.getD (i - l.length) default := by
  rw [List.getD_eq_getElem?_getD, List.getElem?_append_right h, ← List.getD_eq_getElem?_getD]
theorem getD_mapI {α β : Type} [Inhabited α] [Inhabited β] {f : α → β} {l : List α} {i : Nat} (h : i < l.length) : (l.map f).getD i default = f (l.getD i default) := by
  rw [getD_lt (by simpa using h), getD_lt h, List.getElem_map]
/-- the functions' types' numbers; the globals; limits of a kind -/
def fnL (m : Mo) : List Int := (ofK 0 m.imports).map (·.ty) ++ m.funcs
def glL (m : Mo) : List Glb := (ofK 3 m.imports).map (·.glb) ++ m.globals
def lmL (m : Mo) (k : Nat) : List Lim := (ofK k m.imports).map (·.lim) ++ (if k = 1 then m.tables else m.mems)
/-- the type of a number, if there is one -/
def fnTy (types : List FTy) (t : Nat) : Ty := if t < types.length then (types.getD t default, true) else (([], []), false)
def fnsOf (m : Mo) : List Ty := (fnL m).map (fun t => fnTy m.types t.toNat)
theorem fnL_len (m : Mo) : (fnL m).length = (ofK 0 m.imports).length + m.funcs.length := by simp [fnL]
theorem fnL_lo {m : Mo} {i : Nat} (h : i < (ofK 0 m.imports).length) : (fnL m).getD i default = ((ofK 0 m.imports).getD i default).ty := by
  unfold fnL
  rw [getD_app1 (by simpa using h), getD_mapI h]
theorem fnL_hi {m : Mo} {i : Nat} (h : (ofK 0 m.imports).length ≤ i) : (fnL m).getD i default = m.funcs.getD (i - (ofK 0 m.imports).length) default := by
  unfold fnL
  rw [getD_app2 (by simpa using h)]; simp
theorem fnAt_of {m : Mo} {i : Nat} {t : Int} (h : i < (fnL m).length) (ht : (fnL m).getD i default = t) : fnAt (fnsOf m) i = fnTy m.types t.toNat := by
  unfold fnAt fnsOf
  rw [if_pos (by simpa using h), getD_mapI h, ht]
theorem fnAt_no {m : Mo} {i : Nat} (h : (fnL m).length ≤ i) : fnAt (fnsOf m) i = (([], []), false) := by
  unfold fnAt fnsOf
  rw [if_neg (by simp; omega)]
theorem fnTy_in {types : List FTy} {t : Nat} (h : t < types.length) : fnTy types t = (types.getD t default, true) := if_pos h
theorem fnTy_out {types : List FTy} {t : Nat} (h : types.length ≤ t) : fnTy types t = (([], []), false) := if_neg (by omega)
theorem Sl.ftyAt {H : Heap} {v : Value} {l : List FTy} (h : Sl 2 EFTy H v l) (j : Nat) (hj : j < l.length) : ∃ cs, cs.length = 2 ∧ CellsH H ((vbase v).add (j * 2)) cs ∧ EFTy H cs (l.getD j default) := h.at j hj

set_option maxRecDepth 100000 in
set_option maxHeartbeats 4000000 in
theorem RFunc_any {H : Heap} {v0 v1 v2 v3 v4 v5 v6 v7 v8 v9 va vb : Value} {m : Mo} (mv : MV H v0 v1 v2 v3 v4 v5 v6 v7 v8 v9 va vb m) (i : Nat) (hi : i ≤ 4294967295) : Ct Try.prog 12 [.agg [v0, v1, v2, v3, v4, v5, v6, v7, v8, v9, va, vb].toArray, .int .u32 (i : Nat)] H (fun u H' => (∃ cs, u = .tuple #[.agg cs.toArray, .bool (fnAt (fnsOf m) i).2] ∧ EFTy H' cs (fnAt (fnsOf m) i).1) ∧ Old H H') := by
  refine Ct.mk Try.func12 rfl Try.ntmps12 rfl ?_
  intro W0 hW0
  have o0 : Old H H := Old.refl H
  have mv0 := mv
  have hlm := mv.i.lenM
  have hlf := mv.f.lenM
  have hlt := mv.t.lenM
  unfold maxLen at hlm hlf hlt
  refine KC.seq ?_
  refine KC.region ?_
  refine KL.opM (M.box rfl rfl rfl) rfl rfl rfl ?_
  rintro _ H1 ⟨rfl, n1⟩
  have z1 := n1.2.1
  have o0 := o0.trans n1.1
  have mv := mv.old n1.1
  have b1 := n1.2.2
  have bx := b1
  refine KL.opM (M.alloc rfl zr24 rfl) rfl rfl rfl ?_
  rintro _ H2 ⟨rfl, n2⟩
  have z2 := n2.2.1
  have o0 := o0.trans n2.1
  have mv := mv.old n2.1
  have bx := (n2.1).blk bx
  have b2 := n2.2.2
  have bq := b2
  refine KL.op (R.assign rfl rfl) rfl rfl rfl ?_
  refine KL.nil ?_
  refine KQ.seq ?_
  refine KC.seq ?_
  refine KC.region ?_
  refine KL.op (R.assign rfl rfl) rfl rfl rfl ?_
  refine KL.nil ?_
  refine KQ.seq ?_
  refine KC.seq ?_
  refine KC.region ?_
  refine KL.op (R.assign rfl rfl) rfl rfl rfl ?_
  refine KL.nil ?_
  refine KQ.seq ?_
  refine KC.seq ?_
  refine KC.region ?_
  refine KL.op (R.assign rfl rfl) rfl rfl rfl ?_
  refine KL.nil ?_
  refine KQ.seq ?_
  refine KC.seq ?_
  refine KC.seq ?_
  refine KC.region ?_
  refine KL.op (R.assign rfl rfl) rfl rfl rfl ?_
  refine KL.nil ?_
  refine KQ.seq ?_
  refine KC.block ?_
  refine KC.loopD (κ := Nat × Nat × Int × Bool) [10, 11, 12, 13, 14, 17, 18, 19, 20, 21, 22, 23, 24, 25, 26, 27, 28, 29, 30, 31, 32, 33, 34, 7, 8, 35, 36, 6, 15, 16, 9] (fun k => [(9, .int .i64 (k.1 : Nat)), (6, .int .u64 (k.2.1 : Nat)), (7, .int .u64 k.2.2.1), (8, .bool k.2.2.2)]) (fun k Hl => k.1 ≤ m.imports.length ∧ H2 = Hl ∧ k.2.1 = (ofK 0 (m.imports.take k.1)).length ∧ k.2.2.2 = decide (i < k.2.1) ∧ (i < k.2.1 → k.2.2.1 = ((ofK 0 m.imports).getD i default).ty) ∧ 0 ≤ k.2.2.1 ∧ k.2.2.1 ≤ 4294967295) (fun k => m.imports.length - k.1) (0, 0, 0, false) ?_ ?_ ?_
  · exact (Sub.cons rfl (Sub.cons rfl (Sub.cons rfl (Sub.cons rfl (Ext.sub (Ext.refl _ _))))))
  · exact ⟨Nat.zero_le _, rfl, by simp [ofK], rfl, fun h => absurd h (Nat.not_lt_zero _), by decide, by decide⟩
  · rintro ⟨k, n, t, fd⟩ H3 ⟨hk, rfl, hn, hfd, htt, ht0, ht1⟩
    dsimp only at hk hn hfd htt ht0 ht1
    have hcn := ofK_len (k := 0) (l := m.imports.take k)
    rw [List.length_take] at hcn
    refine KC.seq ?_
    refine KC.seq ?_
    refine KC.region ?_
    refine KL.op (R.move rfl rfl) rfl rfl rfl ?_
    refine KL.op ((by first | exact R.fieldAddr rfl Try.underlying38 rfl rfl sz28 rfl | exact R.fieldAddrP rfl Try.underlying38 rfl rfl sz28 rfl)) rfl rfl rfl ?_
    refine KL.op (R.load rfl Try.underlying28 rfl rfl (by first | exact cell_of bx rfl | exact cell_of bq rfl | assumption)) rfl rfl rfl ?_
    refine KL.op (R.lenS rfl Try.underlying28 rfl mv.i) rfl rfl rfl ?_
    refine KL.op (R.lss rfl rfl rfl) rfl rfl rfl ?_
    refine KL.nil ?_
    refine KQ.seq ?_
    refine KC.iteL rfl ?_ ?_
    · intro hc14
      try simp only [decide_eq_true_eq, decide_eq_false_iff_not, Bool.not_eq_true', Bool.not_eq_false', Bool.and_eq_true, Bool.or_eq_false_iff] at hc14
      have hst := ofK_step (k := 0) (l := m.imports) (j := k) (by omega)
      obtain ⟨hcx, hxr⟩ := mv.i.impAt k (by omega)
      have hxr2 := hxr.2.1
      dsimp only [InR] at hxr2
      refine KC.skip ?_
      refine KQ.seq ?_
      refine KC.seq ?_
      refine KC.block ?_
      refine KC.seq ?_
      refine KC.region ?_
      refine KL.op ((by first | exact R.fieldAddr rfl Try.underlying38 rfl rfl sz28 rfl | exact R.fieldAddrP rfl Try.underlying38 rfl rfl sz28 rfl)) rfl rfl rfl ?_
      refine KL.op (R.load rfl Try.underlying28 rfl rfl (by first | exact cell_of bx rfl | exact cell_of bq rfl | assumption)) rfl rfl rfl ?_
      refine KL.op (R.move rfl rfl) rfl rfl rfl ?_
      refine KL.op (R.index (j := k) rfl Try.underlying28 sz63 rfl rfl mv.i rfl (by omega)) rfl rfl rfl ?_
      refine KL.op ((by first | exact R.fieldAddr rfl Try.underlying63 rfl rfl sz5 rfl | exact R.fieldAddrP rfl Try.underlying63 rfl rfl sz5 rfl)) rfl rfl rfl ?_
      refine KL.op (R.load rfl Try.underlying5 rfl rfl (hcx 2 _ rfl)) rfl rfl rfl ?_
      refine KL.op (R.eql rfl rfl rfl) rfl rfl rfl ?_
      refine KL.nil ?_
      refine KQ.seq ?_
      refine KC.iteL rfl ?_ ?_
      · intro hc23
        try simp only [decide_eq_true_eq, decide_eq_false_iff_not, Bool.not_eq_true', Bool.not_eq_false', Bool.and_eq_true, Bool.or_eq_false_iff] at hc23
        have hkk : isK 0 (m.imports.getD k default) = true := by unfold isK; exact decide_eq_true hc23
        rw [if_pos hkk] at hst
        have hst2 := congrArg List.length hst
        rw [List.length_append, List.length_singleton] at hst2
        refine KC.seq ?_
        refine KC.seq ?_
        refine KC.region ?_
        refine KL.op (R.move rfl rfl) rfl rfl rfl ?_
        refine KL.op (R.move rfl rfl) rfl rfl rfl ?_
        refine KL.op (R.convI rfl Try.underlying33 Try.underlying55 rfl (by dsimp only [InR]; omega)) rfl rfl rfl ?_
        refine KL.op (R.eql rfl rfl rfl) rfl rfl rfl ?_
        refine KL.nil ?_
        refine KQ.seq ?_
        refine KC.iteL rfl ?_ ?_
        · intro hc27
          try simp only [decide_eq_true_eq, decide_eq_false_iff_not, Bool.not_eq_true', Bool.not_eq_false', Bool.and_eq_true, Bool.or_eq_false_iff] at hc27
          refine KC.seq ?_
          refine KC.region ?_
          refine KL.op ((by first | exact R.fieldAddr rfl Try.underlying38 rfl rfl sz28 rfl | exact R.fieldAddrP rfl Try.underlying38 rfl rfl sz28 rfl)) rfl rfl rfl ?_
          refine KL.op (R.load rfl Try.underlying28 rfl rfl (by first | exact cell_of bx rfl | exact cell_of bq rfl | assumption)) rfl rfl rfl ?_
          refine KL.op (R.move rfl rfl) rfl rfl rfl ?_
          refine KL.op (R.index (j := k) rfl Try.underlying28 sz63 rfl rfl mv.i rfl (by omega)) rfl rfl rfl ?_
          refine KL.op ((by first | exact R.fieldAddr rfl Try.underlying63 rfl rfl sz33 rfl | exact R.fieldAddrP rfl Try.underlying63 rfl rfl sz33 rfl)) rfl rfl rfl ?_
          refine KL.op (R.load rfl Try.underlying33 rfl rfl (hcx 3 _ rfl)) rfl rfl rfl ?_
          refine KL.op (R.convI rfl Try.underlying33 Try.underlying55 rfl (by dsimp only [InR]; omega)) rfl rfl rfl ?_
          refine KL.op (R.assign rfl rfl) rfl rfl rfl ?_
          refine KL.nil ?_
          refine KQ.seq ?_
          refine KC.region ?_
          refine KL.op (R.assign rfl rfl) rfl rfl rfl ?_
          refine KL.nil ?_
          refine KQ.seq ?_
          refine KC.region ?_
          refine KL.op (R.move rfl rfl) rfl rfl rfl ?_
          refine KL.op ((R.add rfl rfl rfl (by dsimp only [InR]; omega)).val (congrArg (Value.int .u64) (show (n : Int) + 1 = ((n + 1 : Nat) : Int) by omega))) rfl rfl rfl ?_
          refine KL.op (R.assign rfl rfl) rfl rfl rfl ?_
          refine KL.nil ?_
          refine KQ.normBlock ?_
          refine KQ.seq ?_
          refine KC.region ?_
          refine KL.op (R.move rfl rfl) rfl rfl rfl ?_
          refine KL.op ((R.add rfl rfl rfl (by dsimp only [InR]; omega)).val (congrArg (Value.int .i64) (show (k : Int) + 1 = ((k + 1 : Nat) : Int) by omega))) rfl rfl rfl ?_
          refine KL.op (R.assign rfl rfl) rfl rfl rfl ?_
          refine KL.nil ?_
          refine KQ.again ((k + 1, n + 1, (m.imports.getD k default).ty, true)) ?_ ?_ ?_
          · exact (Sub.cons rfl (Sub.cons rfl (Sub.cons rfl (Sub.cons rfl (Ext.sub (by repeat (first | exact Ext.refl _ _ | refine Ext.put rfl ?_ | refine Ext.drop rfl ?_)))))))
          · show m.imports.length - (k + 1) < m.imports.length - k; omega
          · first
              | exact ⟨by show k + 1 ≤ _; omega, rfl, by dsimp only; omega, hfd, htt, ht0, ht1⟩
              | exact ⟨by show k + 1 ≤ _; omega, rfl, by dsimp only; omega, by dsimp only; rw [hfd, decide_eq_decide]; omega, fun h => htt (by dsimp only at h; omega), ht0, ht1⟩
              | exact ⟨by show k + 1 ≤ _; omega, rfl, by dsimp only; omega, by dsimp only; exact (decide_eq_true (by omega)).symm, fun _ => by dsimp only; rw [ofK_at (k := 0) (j := k) (by omega) hkk (by omega)], hxr.2.1.1, hxr.2.1.2⟩
        · intro hc27
          try simp only [decide_eq_true_eq, decide_eq_false_iff_not, Bool.not_eq_true', Bool.not_eq_false', Bool.and_eq_true, Bool.or_eq_false_iff] at hc27
          refine KC.skip ?_
          refine KQ.seq ?_
          refine KC.region ?_
          refine KL.op (R.move rfl rfl) rfl rfl rfl ?_
          refine KL.op ((R.add rfl rfl rfl (by dsimp only [InR]; omega)).val (congrArg (Value.int .u64) (show (n : Int) + 1 = ((n + 1 : Nat) : Int) by omega))) rfl rfl rfl ?_
          refine KL.op (R.assign rfl rfl) rfl rfl rfl ?_
          refine KL.nil ?_
          refine KQ.normBlock ?_
          refine KQ.seq ?_
          refine KC.region ?_
          refine KL.op (R.move rfl rfl) rfl rfl rfl ?_
          refine KL.op ((R.add rfl rfl rfl (by dsimp only [InR]; omega)).val (congrArg (Value.int .i64) (show (k : Int) + 1 = ((k + 1 : Nat) : Int) by omega))) rfl rfl rfl ?_
          refine KL.op (R.assign rfl rfl) rfl rfl rfl ?_
          refine KL.nil ?_
          refine KQ.again ((k + 1, n + 1, t, fd)) ?_ ?_ ?_
          · exact (Sub.cons rfl (Sub.cons rfl (Sub.cons rfl (Sub.cons rfl (Ext.sub (by repeat (first | exact Ext.refl _ _ | refine Ext.put rfl ?_ | refine Ext.drop rfl ?_)))))))
          · show m.imports.length - (k + 1) < m.imports.length - k; omega
          · first
              | exact ⟨by show k + 1 ≤ _; omega, rfl, by dsimp only; omega, hfd, htt, ht0, ht1⟩
              | exact ⟨by show k + 1 ≤ _; omega, rfl, by dsimp only; omega, by dsimp only; rw [hfd, decide_eq_decide]; omega, fun h => htt (by dsimp only at h; omega), ht0, ht1⟩
              | exact ⟨by show k + 1 ≤ _; omega, rfl, by dsimp only; omega, by dsimp only; exact (decide_eq_true (by omega)).symm, fun _ => by dsimp only; rw [ofK_at (k := 0) (j := k) (by omega) hkk (by omega)], hxr.2.1.1, hxr.2.1.2⟩
      · intro hc23
        try simp only [decide_eq_true_eq, decide_eq_false_iff_not, Bool.not_eq_true', Bool.not_eq_false', Bool.and_eq_true, Bool.or_eq_false_iff] at hc23
        rw [if_neg (by unfold isK; simpa using hc23), List.append_nil] at hst
        have hst2 := congrArg List.length hst
        refine KC.skip ?_
        refine KQ.normBlock ?_
        refine KQ.seq ?_
        refine KC.region ?_
        refine KL.op (R.move rfl rfl) rfl rfl rfl ?_
        refine KL.op ((R.add rfl rfl rfl (by dsimp only [InR]; omega)).val (congrArg (Value.int .i64) (show (k : Int) + 1 = ((k + 1 : Nat) : Int) by omega))) rfl rfl rfl ?_
        refine KL.op (R.assign rfl rfl) rfl rfl rfl ?_
        refine KL.nil ?_
        refine KQ.again ((k + 1, n, t, fd)) ?_ ?_ ?_
        · exact (Sub.cons rfl (Sub.cons rfl (Sub.cons rfl (Sub.cons rfl (Ext.sub (by repeat (first | exact Ext.refl _ _ | refine Ext.put rfl ?_ | refine Ext.drop rfl ?_)))))))
        · show m.imports.length - (k + 1) < m.imports.length - k; omega
        · first
            | exact ⟨by show k + 1 ≤ _; omega, rfl, by dsimp only; omega, hfd, htt, ht0, ht1⟩
            | exact ⟨by show k + 1 ≤ _; omega, rfl, by dsimp only; omega, by dsimp only; rw [hfd, decide_eq_decide]; omega, fun h => htt (by dsimp only at h; omega), ht0, ht1⟩
            | exact ⟨by show k + 1 ≤ _; omega, rfl, by dsimp only; omega, by dsimp only; exact (decide_eq_true (by omega)).symm, fun _ => by dsimp only; rw [ofK_at (k := 0) (j := k) (by omega) hkk (by omega)], hxr.2.1.1, hxr.2.1.2⟩
    · intro hc14
      try simp only [decide_eq_true_eq, decide_eq_false_iff_not, Bool.not_eq_true', Bool.not_eq_false', Bool.and_eq_true, Bool.or_eq_false_iff] at hc14
      have hkl : k = m.imports.length := by omega
      rw [hkl, List.take_length] at hn
      have hn2 := hn
      refine KC.exit ?_
      refine KQ.exitThen ?_
      refine KQ.exitThen ?_
      refine KQ.hit ?_
      refine KQ.seq ?_
      refine KC.seq ?_
      refine KC.seq ?_
      refine KC.region ?_
      refine KL.op (R.move rfl rfl) rfl rfl rfl ?_
      refine KL.op (R.not rfl rfl) rfl rfl rfl ?_
      refine KL.op (R.move rfl rfl) rfl rfl rfl ?_
      refine KL.case (d := 39) rfl ?_ ?_
      · intro hg39
        try simp only [decide_eq_true_eq, decide_eq_false_iff_not, Bool.not_eq_true', Bool.not_eq_false', Bool.and_eq_true, Bool.or_eq_false_iff] at hg39
        have hff : fd = false := by simpa using hg39
        subst hff
        have hni : ¬ i < n := by simpa using hfd.symm
        refine KL.op (R.move rfl rfl) rfl rfl rfl ?_
        refine KL.op (R.convI rfl Try.underlying33 Try.underlying55 rfl (by dsimp only [InR]; omega)) rfl rfl rfl ?_
        refine KL.op (R.move rfl rfl) rfl rfl rfl ?_
        refine KL.op ((R.geq rfl rfl rfl).val (congrArg Value.bool (decide_eq_true (by dsimp only; omega)))) rfl rfl rfl ?_
        refine KL.op (R.pick rfl rfl rfl) rfl rfl rfl ?_
        refine KL.op (R.move rfl rfl) rfl rfl rfl ?_
        refine KL.op (R.move rfl rfl) rfl rfl rfl ?_
        refine KL.op (R.convI rfl Try.underlying33 Try.underlying55 rfl (by dsimp only [InR]; omega)) rfl rfl rfl ?_
        refine KL.op (R.move rfl rfl) rfl rfl rfl ?_
        refine KL.op ((R.sub rfl rfl rfl (by dsimp only [InR]; omega)).val (congrArg (Value.int .u64) (show (i : Int) - (n : Int) = ((i - n : Nat) : Int) by omega))) rfl rfl rfl ?_
        refine KL.op ((by first | exact R.fieldAddr rfl Try.underlying38 rfl rfl sz29 rfl | exact R.fieldAddrP rfl Try.underlying38 rfl rfl sz29 rfl)) rfl rfl rfl ?_
        refine KL.op (R.load rfl Try.underlying29 rfl rfl (by first | exact cell_of bx rfl | exact cell_of bq rfl | assumption)) rfl rfl rfl ?_
        refine KL.op (R.lenS rfl Try.underlying29 rfl mv.f) rfl rfl rfl ?_
        refine KL.op (R.convI rfl Try.underlying3 Try.underlying55 rfl (by dsimp only [InR]; omega)) rfl rfl rfl ?_
        refine KL.op (R.lss rfl rfl rfl) rfl rfl rfl ?_
        refine KL.op (R.pick rfl rfl rfl) rfl rfl rfl ?_
        refine KL.nil ?_
        refine KQ.seq ?_
        refine KC.iteL rfl ?_ ?_
        · intro hc55
          try simp only [decide_eq_true_eq, decide_eq_false_iff_not, Bool.not_eq_true', Bool.not_eq_false', Bool.and_eq_true, Bool.or_eq_false_iff] at hc55
          refine KC.seq ?_
          refine KC.region ?_
          refine KL.op ((by first | exact R.fieldAddr rfl Try.underlying38 rfl rfl sz29 rfl | exact R.fieldAddrP rfl Try.underlying38 rfl rfl sz29 rfl)) rfl rfl rfl ?_
          refine KL.op (R.load rfl Try.underlying29 rfl rfl (by first | exact cell_of bx rfl | exact cell_of bq rfl | assumption)) rfl rfl rfl ?_
          refine KL.op (R.move rfl rfl) rfl rfl rfl ?_
          refine KL.op (R.convI rfl Try.underlying33 Try.underlying55 rfl (by dsimp only [InR]; omega)) rfl rfl rfl ?_
          refine KL.op (R.move rfl rfl) rfl rfl rfl ?_
          refine KL.op ((R.sub rfl rfl rfl (by dsimp only [InR]; omega)).val (congrArg (Value.int .u64) (show (i : Int) - (n : Int) = ((i - n : Nat) : Int) by omega))) rfl rfl rfl ?_
          refine KL.op (R.index1 (j := i - n) rfl Try.underlying29 sz33 rfl rfl mv.f rfl (by omega)) rfl rfl rfl ?_
          refine KL.op (R.load rfl Try.underlying33 rfl rfl (mv.f.int (i - n) (by omega)).1) rfl rfl rfl ?_
          have hfr := (mv.f.int (i - n) (by omega)).2
          dsimp only [InR] at hfr
          refine KL.op (R.convI rfl Try.underlying33 Try.underlying55 rfl (by dsimp only [InR]; omega)) rfl rfl rfl ?_
          refine KL.op (R.assign rfl rfl) rfl rfl rfl ?_
          refine KL.nil ?_
          refine KQ.seq ?_
          refine KC.region ?_
          refine KL.op (R.assign rfl rfl) rfl rfl rfl ?_
          refine KL.nil ?_
          refine KQ.seq ?_
          refine KC.seq ?_
          refine KC.seq ?_
          refine KC.region ?_
          refine KL.op (R.move rfl rfl) rfl rfl rfl ?_
          refine KL.op (R.not rfl rfl) rfl rfl rfl ?_
          refine KL.op (R.move rfl rfl) rfl rfl rfl ?_
          refine KL.op (R.move rfl rfl) rfl rfl rfl ?_
          refine KL.op ((by first | exact R.fieldAddr rfl Try.underlying38 rfl rfl sz27 rfl | exact R.fieldAddrP rfl Try.underlying38 rfl rfl sz27 rfl)) rfl rfl rfl ?_
          refine KL.op (R.load rfl Try.underlying27 rfl rfl (by first | exact cell_of bx rfl | exact cell_of bq rfl | assumption)) rfl rfl rfl ?_
          refine KL.op (R.lenS rfl Try.underlying27 rfl mv.t) rfl rfl rfl ?_
          refine KL.op (R.convI rfl Try.underlying3 Try.underlying55 rfl (by dsimp only [InR]; omega)) rfl rfl rfl ?_
          refine KL.op (R.geq rfl rfl rfl) rfl rfl rfl ?_
          refine KL.op (R.pick rfl rfl rfl) rfl rfl rfl ?_
          refine KL.nil ?_
          refine KQ.seq ?_
          refine KC.iteL rfl ?_ ?_
          · intro hc74
            try simp only [decide_eq_true_eq, decide_eq_false_iff_not, Bool.not_eq_true', Bool.not_eq_false', Bool.and_eq_true, Bool.or_eq_false_iff] at hc74
            try dsimp only at hc74
            refine KC.seq ?_
            refine KC.region ?_
            refine KL.op (R.buildL rfl Try.underlying24 zr24 [(0, 1), (1, 1)] (fun w => by kernel_rfl) rfl trivial rfl rfl trivial rfl) rfl rfl rfl ?_
            refine KL.opS (S.storeAgg rfl sz24 rfl rfl (rfl) (by intro u hu; simp only [List.mem_cons, List.not_mem_nil, or_false] at hu; rcases hu with rfl | rfl <;> rfl) bq (by simp)) rfl rfl ?_
            rintro H4 ⟨u4, b4⟩
            have o0 := o0.upd u4 (by omega)
            have zu4 := u4.1
            have bx := ((u4).2 _ (by omega)).trans bx
            have bq := b4
            rw [over_all (by rfl)] at bq
            refine KL.op (R.assign rfl rfl) rfl rfl rfl ?_
            refine KL.nil ?_
            refine KQ.seq ?_
            refine KC.ret ?_
            refine KQ.retThen ?_
            refine KQ.ofRet ?_
            refine KQ.finCell2 Try.results12 rfl Try.underlying24 rfl sz24 (cells_of bq) (by first | rfl | exact hcl) rfl ?_
            first
              | (have hF := fnAt_no (m := m) (i := i) (by rw [fnL_len]; omega)
                 exact ⟨⟨_, by rw [hF], by rw [hF]; exact ⟨_, _, rfl, Sl.nil _ _ _, Sl.nil _ _ _⟩⟩, o0⟩)
              | (have hF : fnAt (fnsOf m) i = (([], []), false) := by
                   first
                     | exact (fnAt_of (by rw [fnL_len]; omega) ((fnL_lo (by omega)).trans (htt (by omega)).symm)).trans (fnTy_out (by omega))
                     | exact (fnAt_of (by rw [fnL_len]; omega) ((fnL_hi (by omega)).trans (by rw [← hn2]))).trans (fnTy_out (by omega))
                 exact ⟨⟨_, by rw [hF], by rw [hF]; exact ⟨_, _, rfl, Sl.nil _ _ _, Sl.nil _ _ _⟩⟩, o0⟩)
              | (have hF : fnAt (fnsOf m) i = (m.types.getD (m.funcs.getD (i - n) default).toNat default, true) := by
                   first
                     | exact (fnAt_of (by rw [fnL_len]; omega) ((fnL_lo (by omega)).trans (htt (by omega)).symm)).trans (fnTy_in (by omega))
                     | exact (fnAt_of (by rw [fnL_len]; omega) ((fnL_hi (by omega)).trans (by rw [← hn2]))).trans (fnTy_in (by omega))
                 exact ⟨⟨cs, by rw [hF], by rw [hF]; exact Keeps.keep o0 hce⟩, o0⟩)
          · intro hc74
            try simp only [decide_eq_true_eq, decide_eq_false_iff_not, Bool.not_eq_true', Bool.not_eq_false', Bool.and_eq_true, Bool.or_eq_false_iff] at hc74
            try dsimp only at hc74
            refine KC.skip ?_
            refine KQ.seq ?_
            refine KC.seq ?_
            refine KC.region ?_
            refine KL.op ((by first | exact R.fieldAddr rfl Try.underlying38 rfl rfl sz27 rfl | exact R.fieldAddrP rfl Try.underlying38 rfl rfl sz27 rfl)) rfl rfl rfl ?_
            refine KL.op (R.load rfl Try.underlying27 rfl rfl (by first | exact cell_of bx rfl | exact cell_of bq rfl | assumption)) rfl rfl rfl ?_
            refine KL.op (R.move rfl rfl) rfl rfl rfl ?_
            obtain ⟨cs, hcl, hcx, hce⟩ := mv0.t.ftyAt (m.funcs.getD (i - n) default).toNat (by omega)
            refine KL.op (R.index (j := (m.funcs.getD (i - n) default).toNat) rfl Try.underlying27 sz24 rfl rfl mv.t (by first | omega | (dsimp only; omega)) (by omega)) rfl rfl rfl ?_
            refine KL.op (R.loadAgg rfl Try.underlying24 rfl sz24 rfl (o0.cells hcx) hcl) rfl rfl rfl ?_
            refine KL.opS (S.storeAgg (us := cs) rfl sz24 rfl rfl (hcl) (by exact One.one hce) bq (by simp [hcl])) rfl rfl ?_
            rintro H5 ⟨u5, b5⟩
            have o0 := o0.upd u5 (by omega)
            have zu5 := u5.1
            have bx := ((u5).2 _ (by omega)).trans bx
            have bq := b5
            rw [over_all (by rw [hcl]; rfl)] at bq
            refine KL.op (R.assign rfl rfl) rfl rfl rfl ?_
            refine KL.nil ?_
            refine KQ.seq ?_
            refine KC.ret ?_
            refine KQ.ofRet ?_
            refine KQ.finCell2 Try.results12 rfl Try.underlying24 rfl sz24 (cells_of bq) (by first | rfl | exact hcl) rfl ?_
            first
              | (have hF := fnAt_no (m := m) (i := i) (by rw [fnL_len]; omega)
                 exact ⟨⟨_, by rw [hF], by rw [hF]; exact ⟨_, _, rfl, Sl.nil _ _ _, Sl.nil _ _ _⟩⟩, o0⟩)
              | (have hF : fnAt (fnsOf m) i = (([], []), false) := by
                   first
                     | exact (fnAt_of (by rw [fnL_len]; omega) ((fnL_lo (by omega)).trans (htt (by omega)).symm)).trans (fnTy_out (by omega))
                     | exact (fnAt_of (by rw [fnL_len]; omega) ((fnL_hi (by omega)).trans (by rw [← hn2]))).trans (fnTy_out (by omega))
                 exact ⟨⟨_, by rw [hF], by rw [hF]; exact ⟨_, _, rfl, Sl.nil _ _ _, Sl.nil _ _ _⟩⟩, o0⟩)
              | (have hF : fnAt (fnsOf m) i = (m.types.getD (m.funcs.getD (i - n) default).toNat default, true) := by
                   first
                     | exact (fnAt_of (by rw [fnL_len]; omega) ((fnL_lo (by omega)).trans (htt (by omega)).symm)).trans (fnTy_in (by omega))
                     | exact (fnAt_of (by rw [fnL_len]; omega) ((fnL_hi (by omega)).trans (by rw [← hn2]))).trans (fnTy_in (by omega))
                 exact ⟨⟨cs, by rw [hF], by rw [hF]; exact Keeps.keep o0 hce⟩, o0⟩)
        · intro hc55
          try simp only [decide_eq_true_eq, decide_eq_false_iff_not, Bool.not_eq_true', Bool.not_eq_false', Bool.and_eq_true, Bool.or_eq_false_iff] at hc55
          refine KC.skip ?_
          refine KQ.seq ?_
          refine KC.seq ?_
          refine KC.seq ?_
          refine KC.region ?_
          refine KL.op (R.move rfl rfl) rfl rfl rfl ?_
          refine KL.op ((R.not rfl rfl).val (rfl)) rfl rfl rfl ?_
          refine KL.op (R.move rfl rfl) rfl rfl rfl ?_
          refine KL.skip rfl rfl rfl ?_
          refine KL.skip rfl rfl rfl ?_
          refine KL.skip rfl rfl rfl ?_
          refine KL.skip rfl rfl rfl ?_
          refine KL.skip rfl rfl rfl ?_
          refine KL.skip rfl rfl rfl ?_
          refine KL.op (R.pick rfl rfl rfl) rfl rfl rfl ?_
          refine KL.nil ?_
          refine KQ.seq ?_
          refine KC.condT rfl ?_
          refine KC.seq ?_
          refine KC.region ?_
          refine KL.op (R.buildL rfl Try.underlying24 zr24 [(0, 1), (1, 1)] (fun w => by kernel_rfl) rfl trivial rfl rfl trivial rfl) rfl rfl rfl ?_
          refine KL.opS (S.storeAgg rfl sz24 rfl rfl (rfl) (by intro u hu; simp only [List.mem_cons, List.not_mem_nil, or_false] at hu; rcases hu with rfl | rfl <;> rfl) bq (by simp)) rfl rfl ?_
          rintro H6 ⟨u6, b6⟩
          have o0 := o0.upd u6 (by omega)
          have zu6 := u6.1
          have bx := ((u6).2 _ (by omega)).trans bx
          have bq := b6
          rw [over_all (by rfl)] at bq
          refine KL.op (R.assign rfl rfl) rfl rfl rfl ?_
          refine KL.nil ?_
          refine KQ.seq ?_
          refine KC.ret ?_
          refine KQ.retThen ?_
          refine KQ.ofRet ?_
          refine KQ.finCell2 Try.results12 rfl Try.underlying24 rfl sz24 (cells_of bq) (by first | rfl | exact hcl) rfl ?_
          first
            | (have hF := fnAt_no (m := m) (i := i) (by rw [fnL_len]; omega)
               exact ⟨⟨_, by rw [hF], by rw [hF]; exact ⟨_, _, rfl, Sl.nil _ _ _, Sl.nil _ _ _⟩⟩, o0⟩)
            | (have hF : fnAt (fnsOf m) i = (([], []), false) := by
                 first
                   | exact (fnAt_of (by rw [fnL_len]; omega) ((fnL_lo (by omega)).trans (htt (by omega)).symm)).trans (fnTy_out (by omega))
                   | exact (fnAt_of (by rw [fnL_len]; omega) ((fnL_hi (by omega)).trans (by rw [← hn2]))).trans (fnTy_out (by omega))
               exact ⟨⟨_, by rw [hF], by rw [hF]; exact ⟨_, _, rfl, Sl.nil _ _ _, Sl.nil _ _ _⟩⟩, o0⟩)
            | (have hF : fnAt (fnsOf m) i = (m.types.getD (m.funcs.getD (i - n) default).toNat default, true) := by
                 first
                   | exact (fnAt_of (by rw [fnL_len]; omega) ((fnL_lo (by omega)).trans (htt (by omega)).symm)).trans (fnTy_in (by omega))
                   | exact (fnAt_of (by rw [fnL_len]; omega) ((fnL_hi (by omega)).trans (by rw [← hn2]))).trans (fnTy_in (by omega))
               exact ⟨⟨cs, by rw [hF], by rw [hF]; exact Keeps.keep o0 hce⟩, o0⟩)
      · intro hg39
        try simp only [decide_eq_true_eq, decide_eq_false_iff_not, Bool.not_eq_true', Bool.not_eq_false', Bool.and_eq_true, Bool.or_eq_false_iff] at hg39
        have hff : fd = true := by simpa using hg39
        subst hff
        have hni : i < n := by simpa using hfd.symm
        refine KL.skip rfl rfl rfl ?_
        refine KL.skip rfl rfl rfl ?_
        refine KL.skip rfl rfl rfl ?_
        refine KL.skip rfl rfl rfl ?_
        refine KL.op (R.pick rfl rfl rfl) rfl rfl rfl ?_
        refine KL.op (R.move rfl rfl) rfl rfl rfl ?_
        refine KL.skip rfl rfl rfl ?_
        refine KL.skip rfl rfl rfl ?_
        refine KL.skip rfl rfl rfl ?_
        refine KL.skip rfl rfl rfl ?_
        refine KL.skip rfl rfl rfl ?_
        refine KL.skip rfl rfl rfl ?_
        refine KL.skip rfl rfl rfl ?_
        refine KL.skip rfl rfl rfl ?_
        refine KL.skip rfl rfl rfl ?_
        refine KL.op (R.pick rfl rfl rfl) rfl rfl rfl ?_
        refine KL.nil ?_
        refine KQ.seq ?_
        refine KC.condF rfl ?_
        refine KC.skip ?_
        refine KQ.seq ?_
        refine KC.seq ?_
        refine KC.seq ?_
        refine KC.region ?_
        refine KL.op (R.move rfl rfl) rfl rfl rfl ?_
        refine KL.op ((R.not rfl rfl).val (rfl)) rfl rfl rfl ?_
        refine KL.op (R.move rfl rfl) rfl rfl rfl ?_
        refine KL.op (R.move rfl rfl) rfl rfl rfl ?_
        refine KL.op ((by first | exact R.fieldAddr rfl Try.underlying38 rfl rfl sz27 rfl | exact R.fieldAddrP rfl Try.underlying38 rfl rfl sz27 rfl)) rfl rfl rfl ?_
        refine KL.op (R.load rfl Try.underlying27 rfl rfl (by first | exact cell_of bx rfl | exact cell_of bq rfl | assumption)) rfl rfl rfl ?_
        refine KL.op (R.lenS rfl Try.underlying27 rfl mv.t) rfl rfl rfl ?_
        refine KL.op (R.convI rfl Try.underlying3 Try.underlying55 rfl (by dsimp only [InR]; omega)) rfl rfl rfl ?_
        refine KL.op (R.geq rfl rfl rfl) rfl rfl rfl ?_
        refine KL.op (R.pick rfl rfl rfl) rfl rfl rfl ?_
        refine KL.nil ?_
        refine KQ.seq ?_
        refine KC.iteL rfl ?_ ?_
        · intro hc74
          try simp only [decide_eq_true_eq, decide_eq_false_iff_not, Bool.not_eq_true', Bool.not_eq_false', Bool.and_eq_true, Bool.or_eq_false_iff] at hc74
          try dsimp only at hc74
          refine KC.seq ?_
          refine KC.region ?_
          refine KL.op (R.buildL rfl Try.underlying24 zr24 [(0, 1), (1, 1)] (fun w => by kernel_rfl) rfl trivial rfl rfl trivial rfl) rfl rfl rfl ?_
          refine KL.opS (S.storeAgg rfl sz24 rfl rfl (rfl) (by intro u hu; simp only [List.mem_cons, List.not_mem_nil, or_false] at hu; rcases hu with rfl | rfl <;> rfl) bq (by simp)) rfl rfl ?_
          rintro H7 ⟨u7, b7⟩
          have o0 := o0.upd u7 (by omega)
          have zu7 := u7.1
          have bx := ((u7).2 _ (by omega)).trans bx
          have bq := b7
          rw [over_all (by rfl)] at bq
          refine KL.op (R.assign rfl rfl) rfl rfl rfl ?_
          refine KL.nil ?_
          refine KQ.seq ?_
          refine KC.ret ?_
          refine KQ.retThen ?_
          refine KQ.ofRet ?_
          refine KQ.finCell2 Try.results12 rfl Try.underlying24 rfl sz24 (cells_of bq) (by first | rfl | exact hcl) rfl ?_
          first
            | (have hF := fnAt_no (m := m) (i := i) (by rw [fnL_len]; omega)
               exact ⟨⟨_, by rw [hF], by rw [hF]; exact ⟨_, _, rfl, Sl.nil _ _ _, Sl.nil _ _ _⟩⟩, o0⟩)
            | (have hF : fnAt (fnsOf m) i = (([], []), false) := by
                 first
                   | exact (fnAt_of (by rw [fnL_len]; omega) ((fnL_lo (by omega)).trans (htt (by omega)).symm)).trans (fnTy_out (by omega))
                   | exact (fnAt_of (by rw [fnL_len]; omega) ((fnL_hi (by omega)).trans (by rw [← hn2]))).trans (fnTy_out (by omega))
               exact ⟨⟨_, by rw [hF], by rw [hF]; exact ⟨_, _, rfl, Sl.nil _ _ _, Sl.nil _ _ _⟩⟩, o0⟩)
            | (have hF : fnAt (fnsOf m) i = (m.types.getD t.toNat default, true) := by
                 first
                   | exact (fnAt_of (by rw [fnL_len]; omega) ((fnL_lo (by omega)).trans (htt (by omega)).symm)).trans (fnTy_in (by omega))
                   | exact (fnAt_of (by rw [fnL_len]; omega) ((fnL_hi (by omega)).trans (by rw [← hn2]))).trans (fnTy_in (by omega))
               exact ⟨⟨cs, by rw [hF], by rw [hF]; exact Keeps.keep o0 hce⟩, o0⟩)
        · intro hc74
          try simp only [decide_eq_true_eq, decide_eq_false_iff_not, Bool.not_eq_true', Bool.not_eq_false', Bool.and_eq_true, Bool.or_eq_false_iff] at hc74
          try dsimp only at hc74
          refine KC.skip ?_
          refine KQ.seq ?_
          refine KC.seq ?_
          refine KC.region ?_
          refine KL.op ((by first | exact R.fieldAddr rfl Try.underlying38 rfl rfl sz27 rfl | exact R.fieldAddrP rfl Try.underlying38 rfl rfl sz27 rfl)) rfl rfl rfl ?_
          refine KL.op (R.load rfl Try.underlying27 rfl rfl (by first | exact cell_of bx rfl | exact cell_of bq rfl | assumption)) rfl rfl rfl ?_
          refine KL.op (R.move rfl rfl) rfl rfl rfl ?_
          obtain ⟨cs, hcl, hcx, hce⟩ := mv0.t.ftyAt t.toNat (by omega)
          refine KL.op (R.index (j := t.toNat) rfl Try.underlying27 sz24 rfl rfl mv.t (by first | omega | (dsimp only; omega)) (by omega)) rfl rfl rfl ?_
          refine KL.op (R.loadAgg rfl Try.underlying24 rfl sz24 rfl (o0.cells hcx) hcl) rfl rfl rfl ?_
          refine KL.opS (S.storeAgg (us := cs) rfl sz24 rfl rfl (hcl) (by exact One.one hce) bq (by simp [hcl])) rfl rfl ?_
          rintro H8 ⟨u8, b8⟩
          have o0 := o0.upd u8 (by omega)
          have zu8 := u8.1
          have bx := ((u8).2 _ (by omega)).trans bx
          have bq := b8
          rw [over_all (by rw [hcl]; rfl)] at bq
          refine KL.op (R.assign rfl rfl) rfl rfl rfl ?_
          refine KL.nil ?_
          refine KQ.seq ?_
          refine KC.ret ?_
          refine KQ.ofRet ?_
          refine KQ.finCell2 Try.results12 rfl Try.underlying24 rfl sz24 (cells_of bq) (by first | rfl | exact hcl) rfl ?_
          first
            | (have hF := fnAt_no (m := m) (i := i) (by rw [fnL_len]; omega)
               exact ⟨⟨_, by rw [hF], by rw [hF]; exact ⟨_, _, rfl, Sl.nil _ _ _, Sl.nil _ _ _⟩⟩, o0⟩)
            | (have hF : fnAt (fnsOf m) i = (([], []), false) := by
                 first
                   | exact (fnAt_of (by rw [fnL_len]; omega) ((fnL_lo (by omega)).trans (htt (by omega)).symm)).trans (fnTy_out (by omega))
                   | exact (fnAt_of (by rw [fnL_len]; omega) ((fnL_hi (by omega)).trans (by rw [← hn2]))).trans (fnTy_out (by omega))
               exact ⟨⟨_, by rw [hF], by rw [hF]; exact ⟨_, _, rfl, Sl.nil _ _ _, Sl.nil _ _ _⟩⟩, o0⟩)
            | (have hF : fnAt (fnsOf m) i = (m.types.getD t.toNat default, true) := by
                 first
                   | exact (fnAt_of (by rw [fnL_len]; omega) ((fnL_lo (by omega)).trans (htt (by omega)).symm)).trans (fnTy_in (by omega))
                   | exact (fnAt_of (by rw [fnL_len]; omega) ((fnL_hi (by omega)).trans (by rw [← hn2]))).trans (fnTy_in (by omega))
               exact ⟨⟨cs, by rw [hF], by rw [hF]; exact Keeps.keep o0 hce⟩, o0⟩)

end Go.Proofs.Ytbmikddaiedhiaa
