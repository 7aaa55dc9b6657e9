/- The document of package opc: Sig; the known answers. No condition. -/
import Derived.Test.YthgdaacbhcondaaDoorOpcA
import Derived.Test.YthgdaacbhcondaaDoorOpcC
import Derived.Test.YthgdaacbhcondaaDoorKVals
namespace Go.Proofs.YthgdaacbhcondaaDoor
open Go Go.RowKit
set_option linter.unusedVariables false
set_option linter.unusedSimpArgs false
set_option linter.unnecessarySimpa false
theorem Ct.is {P : Program} {f : FuncId} {args : List Value} {H : Heap} {v : Value} (v' : Value) (h : Ct P f args H (fun u H' => u = v ∧ H = H')) (e : v = v') : Ct P f args H (fun u H' => u = v' ∧ H = H') := e ▸ h
theorem Ct.isO {P : Program} {f : FuncId} {args : List Value} {H : Heap} {v : Value} (v' : Value) (h : Ct P f args H (fun u H' => u = v ∧ Old H H')) (e : v = v') : Ct P f args H (fun u H' => u = v' ∧ Old H H') := e ▸ h
theorem Sig_k {H : Heap} (op : Int) {p r : List Int} {ok : Bool} (h : Opc.sig op = (p, r, ok)) : Ct Tryd.prog 8 [.int .u8 op] H (fun u H' => Old H H' ∧ ∃ vp vr, u = .tuple #[vp, vr, .bool ok] ∧ Sl 1 (EInt .u8) H' vp p ∧ Sl 1 (EInt .u8) H' vr r) := by
  have := Sig_any (H := H) op
  rw [h] at this; exact this
namespace Opc
theorem rsig_eq (op : Int) : rsig op = if (rfind op).isSome = false ∨ ((rfind op).getD Row.zero).sg = [45] then ([], [], false) else (tys (((rfind op).getD Row.zero).sg.take (arrow ((rfind op).getD Row.zero).sg)), tys (((rfind op).getD Row.zero).sg.drop (arrow ((rfind op).getD Row.zero).sg + 1)), true) := by
  unfold rsig
  cases rfind op with
  | none => rfl
  | some r => simp
theorem rfind_mem {op : Int} (h : (rfind op).isSome = true) : (rfind op).getD Row.zero ∈ rows := by
  cases hq : rfind op with
  | none => rw [hq] at h; cases h
  | some r => exact part_sub op _ (List.mem_of_find?_eq_some hq)
theorem zero_range : (∀ x ∈ Row.zero.name, InR .u8 x) ∧ (∀ x ∈ Row.zero.sg, InR .u8 x) ∧ Row.zero.name.length ≤ 40 ∧ Row.zero.sg.length ≤ 40 := by decide
theorem rfind_range (op : Int) : (∀ x ∈ ((rfind op).getD Row.zero).name, InR .u8 x) ∧ (∀ x ∈ ((rfind op).getD Row.zero).sg, InR .u8 x) ∧ ((rfind op).getD Row.zero).name.length ≤ 40 ∧ ((rfind op).getD Row.zero).sg.length ≤ 40 := by
  cases hq : (rfind op).isSome with
  | false =>
    have : rfind op = none := by cases h : rfind op <;> simp_all
    rw [this]; exact zero_range
  | true =>
    have := rows_range _ (rfind_mem hq)
    exact ⟨this.1, this.2.1, this.2.2.2.1, this.2.2.2.2.1⟩
end Opc
theorem bstr_ext_size {l : List Int} (hl : ∀ x ∈ l, InR .u8 x) {i j : Nat} : ((bstr l).extract i j).size = ((l.take j).drop i).length := by
  rw [← ints_length, ints_extract, ints_bstr hl]

set_option maxRecDepth 100000 in
set_option maxHeartbeats 4000000 in
theorem RSig_any {H : Heap} (op : Int) : Ct Tryd.prog 9 [.int .u8 op] H (fun u H' => Old H H' ∧ ∃ vp vr, u = .tuple #[vp, vr, .bool (Opc.rsig op).2.2] ∧ Sl 1 (EInt .u8) H' vp (Opc.rsig op).1 ∧ Sl 1 (EInt .u8) H' vr (Opc.rsig op).2.1) := by
  refine Ct.mk Tryd.func9 rfl Tryd.ntmps9 rfl ?_
  intro W0 hW0
  have o0 : Old H H := Old.refl H
  have hrg := Opc.rfind_range op
  refine KC.seq ?_
  refine KC.region ?_
  refine KL.op (R.assign rfl rfl) rfl rfl rfl ?_
  refine KL.op (R.assign rfl rfl) rfl rfl rfl ?_
  refine KL.op (R.assign rfl rfl) rfl rfl rfl ?_
  refine KL.nil ?_
  refine KQ.seq ?_
  refine KC.seq ?_
  refine KC.region ?_
  refine KL.op (R.move rfl rfl) rfl rfl rfl ?_
  refine KL.call rfl rfl rfl rfl Tryd.call7 rfl rfl rfl (RFind_any _) ?_
  rintro _ H1 ⟨rfl, ox⟩
  have zc_H1 := (ox).1
  have o0 := o0.trans ox
  refine KL.op (R.move rfl rfl) rfl rfl rfl ?_
  refine KL.op (R.extract rfl rfl rfl) rfl rfl rfl ?_
  refine KL.op (R.extract rfl rfl rfl) rfl rfl rfl ?_
  refine KL.opM (M.alloc rfl zr24 rfl) rfl rfl rfl ?_
  rintro _ H2 ⟨rfl, n2⟩
  have z2 := n2.2.1
  have o0 := o0.trans n2.1
  have b2 := n2.2.2
  have b5 := b2
  refine KL.opS (S.storeAgg (us := ((Opc.rfind op).getD Opc.Row.zero).cells) rfl sz24 rfl rfl (rfl) (by intro u hu; simp only [Opc.Row.cells, List.mem_cons, List.not_mem_nil, or_false] at hu; rcases hu with rfl | rfl | rfl | rfl | rfl <;> rfl) b5 (by simp [Opc.Row.cells])) rfl rfl ?_
  rintro H3 ⟨u3, b3⟩
  have o0 := o0.upd u3 (by omega)
  have zu3 := u3.1
  have b5 := b3
  rw [over_all (by simp [Opc.Row.cells])] at b5
  refine KL.op (R.assign rfl rfl) rfl rfl rfl ?_
  refine KL.nil ?_
  refine KQ.seq ?_
  refine KC.seq ?_
  refine KC.seq ?_
  refine KC.region ?_
  refine KL.op (R.move rfl rfl) rfl rfl rfl ?_
  refine KL.op (R.not rfl rfl) rfl rfl rfl ?_
  refine KL.op (R.move rfl rfl) rfl rfl rfl ?_
  refine KL.case (d := 15) rfl ?_ ?_
  · intro hg15
    try simp only [decide_eq_true_eq, decide_eq_false_iff_not, Bool.not_eq_true', Bool.not_eq_false', Bool.and_eq_true, Bool.or_eq_false_iff] at hg15
    refine KL.skip rfl rfl rfl ?_
    refine KL.skip rfl rfl rfl ?_
    refine KL.skip rfl rfl rfl ?_
    refine KL.op (R.pick rfl rfl rfl) rfl rfl rfl ?_
    refine KL.nil ?_
    refine KQ.seq ?_
    refine KC.condT rfl ?_
    refine KC.seq ?_
    refine KC.region ?_
    refine KL.op (R.assign rfl rfl) rfl rfl rfl ?_
    refine KL.op (R.assign rfl rfl) rfl rfl rfl ?_
    refine KL.op (R.assign rfl rfl) rfl rfl rfl ?_
    refine KL.nil ?_
    refine KQ.seq ?_
    refine KC.ret ?_
    refine KQ.retThen ?_
    refine KQ.ofRet ?_
    refine KQ.fin3 Tryd.results9 rfl rfl rfl ?_
    first
      | (have ha : Opc.arrow ((Opc.rfind op).getD Opc.Row.zero).sg = k := Opc.arrow_at (by omega) (by simp_all) hno
         have hs : Opc.rsig op = (Opc.tys (((Opc.rfind op).getD Opc.Row.zero).sg.take k), Opc.tys (((Opc.rfind op).getD Opc.Row.zero).sg.drop (k + 1)), true) := by rw [Opc.rsig_eq, if_neg (by rintro (e | e) <;> simp_all), ha]
         exact ⟨o0, _, _, by rw [hs], by rw [hs]; exact h2, by rw [hs]; exact h3⟩)
      | (have hs : Opc.rsig op = ([], [], false) := by rw [Opc.rsig_eq, if_pos (by simp_all [ints])]
         exact ⟨o0, _, _, by rw [hs], by rw [hs]; exact Sl.nil _ _ _, by rw [hs]; exact Sl.nil _ _ _⟩)
  · intro hg15
    try simp only [decide_eq_true_eq, decide_eq_false_iff_not, Bool.not_eq_true', Bool.not_eq_false', Bool.and_eq_true, Bool.or_eq_false_iff] at hg15
    refine KL.op ((by first | exact R.fieldAddr rfl Tryd.underlying24 rfl rfl sz9 rfl | exact R.fieldAddrP rfl Tryd.underlying24 rfl rfl sz9 rfl)) rfl rfl rfl ?_
    refine KL.op (R.load rfl Tryd.underlying9 rfl rfl (cell_of b5 rfl)) rfl rfl rfl ?_
    refine KL.op ((R.eqlStr rfl rfl rfl).val (congrArg Value.bool (sv_cmp hrg.2.1))) rfl rfl rfl ?_
    refine KL.op (R.pick rfl rfl rfl) rfl rfl rfl ?_
    refine KL.nil ?_
    refine KQ.seq ?_
    refine KC.iteL rfl ?_ ?_
    · intro hc19
      try simp only [decide_eq_true_eq, decide_eq_false_iff_not, Bool.not_eq_true', Bool.not_eq_false', Bool.and_eq_true, Bool.or_eq_false_iff] at hc19
      refine KC.seq ?_
      refine KC.region ?_
      refine KL.op (R.assign rfl rfl) rfl rfl rfl ?_
      refine KL.op (R.assign rfl rfl) rfl rfl rfl ?_
      refine KL.op (R.assign rfl rfl) rfl rfl rfl ?_
      refine KL.nil ?_
      refine KQ.seq ?_
      refine KC.ret ?_
      refine KQ.retThen ?_
      refine KQ.ofRet ?_
      refine KQ.fin3 Tryd.results9 rfl rfl rfl ?_
      first
        | (have ha : Opc.arrow ((Opc.rfind op).getD Opc.Row.zero).sg = k := Opc.arrow_at (by omega) (by simp_all) hno
           have hs : Opc.rsig op = (Opc.tys (((Opc.rfind op).getD Opc.Row.zero).sg.take k), Opc.tys (((Opc.rfind op).getD Opc.Row.zero).sg.drop (k + 1)), true) := by rw [Opc.rsig_eq, if_neg (by rintro (e | e) <;> simp_all), ha]
           exact ⟨o0, _, _, by rw [hs], by rw [hs]; exact h2, by rw [hs]; exact h3⟩)
        | (have hs : Opc.rsig op = ([], [], false) := by rw [Opc.rsig_eq, if_pos (by simp_all [ints])]
           exact ⟨o0, _, _, by rw [hs], by rw [hs]; exact Sl.nil _ _ _, by rw [hs]; exact Sl.nil _ _ _⟩)
    · intro hc19
      try simp only [decide_eq_true_eq, decide_eq_false_iff_not, Bool.not_eq_true', Bool.not_eq_false', Bool.and_eq_true, Bool.or_eq_false_iff] at hc19
      refine KC.skip ?_
      refine KQ.seq ?_
      refine KC.seq ?_
      refine KC.region ?_
      refine KL.op (R.assign rfl rfl) rfl rfl rfl ?_
      refine KL.nil ?_
      refine KQ.seq ?_
      refine KC.seq ?_
      refine KC.block ?_
      have hss : (Opc.rfind op).isSome = true := by simp_all
      have hne : ¬ ((Opc.rfind op).getD Opc.Row.zero).sg = [45] := by simp_all [ints]
      have h62 : (62 : Int) ∈ ((Opc.rfind op).getD Opc.Row.zero).sg := ((Opc.rows_range _ (Opc.rfind_mem hss)).2.2.2.2.2).resolve_left hne
      refine KC.loopD (κ := Nat) [20, 21, 22, 23, 24, 25, 26, 7] (fun k => [(7, .int .i64 (k : Nat))]) (fun k Hl => H3 = Hl ∧ ∀ j, j < k → ((Opc.rfind op).getD Opc.Row.zero).sg.getD j default ≠ 62) (fun k => ((Opc.rfind op).getD Opc.Row.zero).sg.length - k) 0 ?_ ?_ ?_
      · exact (Sub.cons rfl (Ext.sub (Ext.refl _ _)))
      · exact ⟨rfl, fun j hj => by omega⟩
      · rintro k H4 ⟨rfl, hno⟩
        have hkl := Opc.arrow_lt h62 hno
        refine KC.seq ?_
        refine KC.seq ?_
        refine KC.region ?_
        refine KL.op ((by first | exact R.fieldAddr rfl Tryd.underlying24 rfl rfl sz9 rfl | exact R.fieldAddrP rfl Tryd.underlying24 rfl rfl sz9 rfl)) rfl rfl rfl ?_
        refine KL.op (R.load rfl Tryd.underlying9 rfl rfl (cell_of b5 rfl)) rfl rfl rfl ?_
        refine KL.op (R.move rfl rfl) rfl rfl rfl ?_
        refine KL.op ((R.indexStr (j := k) rfl Tryd.underlying9 rfl rfl rfl (by rw [bstr_size hrg.2.1]; omega)).val (congrArg (Value.int .u8) (show (ints (bstr ((Opc.rfind op).getD Opc.Row.zero).sg)).getD k default = ((Opc.rfind op).getD Opc.Row.zero).sg.getD k default by rw [ints_bstr hrg.2.1]))) rfl rfl rfl ?_
        refine KL.op (R.neq rfl rfl rfl) rfl rfl rfl ?_
        refine KL.nil ?_
        refine KQ.seq ?_
        refine KC.iteL rfl ?_ ?_
        · intro hc24
          try simp only [decide_eq_true_eq, decide_eq_false_iff_not, Bool.not_eq_true', Bool.not_eq_false', Bool.and_eq_true, Bool.or_eq_false_iff] at hc24
          refine KC.skip ?_
          refine KQ.seq ?_
          refine KC.block ?_
          refine KC.region ?_
          refine KL.op (R.move rfl rfl) rfl rfl rfl ?_
          refine KL.op ((R.add rfl rfl rfl (by dsimp only [InR]; omega)).val (congrArg (Value.int .i64) (show (k : Int) + 1 = ((k + 1 : Nat) : Int) by omega))) rfl rfl rfl ?_
          refine KL.op (R.assign rfl rfl) rfl rfl rfl ?_
          refine KL.nil ?_
          refine KQ.normBlock ?_
          refine KQ.again (k + 1) ?_ ?_ ?_
          · exact (Sub.cons rfl (Ext.sub (by repeat (first | exact Ext.refl _ _ | refine Ext.put rfl ?_ | refine Ext.drop rfl ?_))))
          · omega
          · exact ⟨rfl, fun j hj => by
              by_cases e : j = k
              · subst e; assumption
              · exact hno j (by omega)⟩
        · intro hc24
          try simp only [decide_eq_true_eq, decide_eq_false_iff_not, Bool.not_eq_true', Bool.not_eq_false', Bool.and_eq_true, Bool.or_eq_false_iff] at hc24
          refine KC.exit ?_
          refine KQ.exitThen ?_
          refine KQ.exitThen ?_
          refine KQ.hit ?_
          refine KQ.seq ?_
          refine KC.seq ?_
          refine KC.valsL [27, 28, 29, 30, 31, 32, 33, 34, 35, 36, 37, 2, 3, 4] [[], [0], [], [1, 2], [3], [], [5], [], [7], [6, 8], [9, 4], [4, 10, 0, 1, 2, 3, 4], [10, 11, 0, 1, 2, 3, 4, 5, 6, 7, 8, 9, 10, 11], [12, 0, 1, 2, 3, 4, 5, 6, 7, 8, 9, 10, 11, 12]] (fun (i : Nat) (u : Value) (Hc : Heap) => match i with | 0 => u = .pointer (some ⟨Array.size H1, 3, none⟩) | 1 => u = sv ((Opc.rfind op).getD Opc.Row.zero).sg | 2 => u = .int .i64 (k : Nat) | 3 => u = .string ((bstr ((Opc.rfind op).getD Opc.Row.zero).sg).extract 0 k) | 4 => Sl 1 (EInt .u8) Hc u (Opc.tys (((Opc.rfind op).getD Opc.Row.zero).sg.take k)) | 5 => u = .pointer (some ⟨Array.size H1, 3, none⟩) | 6 => u = sv ((Opc.rfind op).getD Opc.Row.zero).sg | 7 => u = .int .i64 (k : Nat) | 8 => u = .int .i64 (k + 1 : Nat) | 9 => u = .string ((bstr ((Opc.rfind op).getD Opc.Row.zero).sg).extract (k + 1) ((Opc.rfind op).getD Opc.Row.zero).sg.length) | 10 => Sl 1 (EInt .u8) Hc u (Opc.tys (((Opc.rfind op).getD Opc.Row.zero).sg.drop (k + 1))) | 11 => Sl 1 (EInt .u8) Hc u (Opc.tys (((Opc.rfind op).getD Opc.Row.zero).sg.take k)) | 12 => Sl 1 (EInt .u8) Hc u (Opc.tys (((Opc.rfind op).getD Opc.Row.zero).sg.drop (k + 1))) | 13 => u = .bool true | _ => True) (by kernel_rfl) (by kernel_rfl) (by kernel_rfl) (by kernel_rfl) ?_ ?_
          · intro i o ho u Hc og hp
            have hst : ∀ H2, Old Hc H2 → ∀ j x, (fun (i : Nat) (u : Value) (Hc : Heap) => match i with | 0 => u = .pointer (some ⟨Array.size H1, 3, none⟩) | 1 => u = sv ((Opc.rfind op).getD Opc.Row.zero).sg | 2 => u = .int .i64 (k : Nat) | 3 => u = .string ((bstr ((Opc.rfind op).getD Opc.Row.zero).sg).extract 0 k) | 4 => Sl 1 (EInt .u8) Hc u (Opc.tys (((Opc.rfind op).getD Opc.Row.zero).sg.take k)) | 5 => u = .pointer (some ⟨Array.size H1, 3, none⟩) | 6 => u = sv ((Opc.rfind op).getD Opc.Row.zero).sg | 7 => u = .int .i64 (k : Nat) | 8 => u = .int .i64 (k + 1 : Nat) | 9 => u = .string ((bstr ((Opc.rfind op).getD Opc.Row.zero).sg).extract (k + 1) ((Opc.rfind op).getD Opc.Row.zero).sg.length) | 10 => Sl 1 (EInt .u8) Hc u (Opc.tys (((Opc.rfind op).getD Opc.Row.zero).sg.drop (k + 1))) | 11 => Sl 1 (EInt .u8) Hc u (Opc.tys (((Opc.rfind op).getD Opc.Row.zero).sg.take k)) | 12 => Sl 1 (EInt .u8) Hc u (Opc.tys (((Opc.rfind op).getD Opc.Row.zero).sg.drop (k + 1))) | 13 => u = .bool true | _ => True) j x Hc → (fun (i : Nat) (u : Value) (Hc : Heap) => match i with | 0 => u = .pointer (some ⟨Array.size H1, 3, none⟩) | 1 => u = sv ((Opc.rfind op).getD Opc.Row.zero).sg | 2 => u = .int .i64 (k : Nat) | 3 => u = .string ((bstr ((Opc.rfind op).getD Opc.Row.zero).sg).extract 0 k) | 4 => Sl 1 (EInt .u8) Hc u (Opc.tys (((Opc.rfind op).getD Opc.Row.zero).sg.take k)) | 5 => u = .pointer (some ⟨Array.size H1, 3, none⟩) | 6 => u = sv ((Opc.rfind op).getD Opc.Row.zero).sg | 7 => u = .int .i64 (k : Nat) | 8 => u = .int .i64 (k + 1 : Nat) | 9 => u = .string ((bstr ((Opc.rfind op).getD Opc.Row.zero).sg).extract (k + 1) ((Opc.rfind op).getD Opc.Row.zero).sg.length) | 10 => Sl 1 (EInt .u8) Hc u (Opc.tys (((Opc.rfind op).getD Opc.Row.zero).sg.drop (k + 1))) | 11 => Sl 1 (EInt .u8) Hc u (Opc.tys (((Opc.rfind op).getD Opc.Row.zero).sg.take k)) | 12 => Sl 1 (EInt .u8) Hc u (Opc.tys (((Opc.rfind op).getD Opc.Row.zero).sg.drop (k + 1))) | 13 => u = .bool true | _ => True) j x H2 := by
              intro H2 o2 j x hx
              match j, hx with
              | 0, hx => exact hx
              | 1, hx => exact hx
              | 2, hx => exact hx
              | 3, hx => exact hx
              | 4, hx => exact Sl.old hx o2
              | 5, hx => exact hx
              | 6, hx => exact hx
              | 7, hx => exact hx
              | 8, hx => exact hx
              | 9, hx => exact hx
              | 10, hx => exact Sl.old hx o2
              | 11, hx => exact Sl.old hx o2
              | 12, hx => exact Sl.old hx o2
              | 13, hx => exact hx
              | j + 14, hx => exact hx
            match i, ho, hp with
            | 0, ho, hp =>
              have e := Option.some.inj (ho : some _ = some o)
              subst e
              change ∀ j ∈ ([] : List Nat), _ at hp
              change Ob _ _ (([] : Env) ++ _) _ _ _
              exact .inl ⟨rfl, D1.op (R.fieldAddr rfl Tryd.underlying24 rfl rfl sz9 rfl) ⟨rfl, og, fun _ _ h => h⟩⟩
            | 1, ho, hp =>
              have e := Option.some.inj (ho : some _ = some o)
              subst e
              change ∀ j ∈ ([0] : List Nat), _ at hp
              have h27 : (u 0) = .pointer (some ⟨Array.size H1, 3, none⟩) := hp 0 (by simp)
              change Ob _ _ (([(27, u 0)] : Env) ++ _) _ _ _
              simp only [h27]
              exact .inl ⟨rfl, D1.op (R.load rfl Tryd.underlying9 rfl rfl (cell_of (og.blk b5) rfl)) ⟨rfl, og, fun _ _ h => h⟩⟩
            | 2, ho, hp =>
              have e := Option.some.inj (ho : some _ = some o)
              subst e
              change ∀ j ∈ ([] : List Nat), _ at hp
              change Ob _ _ (([] : Env) ++ _) _ _ _
              exact .inl ⟨rfl, D1.op (R.move rfl rfl) ⟨rfl, og, fun _ _ h => h⟩⟩
            | 3, ho, hp =>
              have e := Option.some.inj (ho : some _ = some o)
              subst e
              change ∀ j ∈ ([1, 2] : List Nat), _ at hp
              have h28 : (u 1) = sv ((Opc.rfind op).getD Opc.Row.zero).sg := hp 1 (by simp)
              have h29 : (u 2) = .int .i64 (k : Nat) := hp 2 (by simp)
              change Ob _ _ (([(28, u 1), (29, u 2)] : Env) ++ _) _ _ _
              simp only [h28, h29]
              exact .inl ⟨rfl, D1.op (R.sliceStr (i := 0) (j := k) rfl Tryd.underlying9 rfl bnd.no (bnd.mk rfl rfl) (Nat.zero_le _) (by rw [bstr_size hrg.2.1]; omega)) ⟨rfl, og, fun _ _ h => h⟩⟩
            | 4, ho, hp =>
              have e := Option.some.inj (ho : some _ = some o)
              subst e
              change ∀ j ∈ ([3] : List Nat), _ at hp
              have h30 : (u 3) = .string ((bstr ((Opc.rfind op).getD Opc.Row.zero).sg).extract 0 k) := hp 3 (by simp)
              change Ob _ _ (([(30, u 3)] : Env) ++ _) _ _ _
              simp only [h30]
              refine .inl ⟨rfl, D1.call rfl rfl rfl rfl Tryd.call24 (types_any _ (by rw [bstr_ext_size hrg.2.1, List.length_drop, List.length_take]; omega)) ?_⟩
              rintro v2 H2 ⟨k1, ox⟩
              rw [ints_extract, ints_bstr hrg.2.1] at k1
              exact ⟨by simpa using k1.sl (emptyOld _) (by omega), og.trans ox, hst _ ox⟩
            | 5, ho, hp =>
              have e := Option.some.inj (ho : some _ = some o)
              subst e
              change ∀ j ∈ ([] : List Nat), _ at hp
              change Ob _ _ (([] : Env) ++ _) _ _ _
              exact .inl ⟨rfl, D1.op (R.fieldAddr rfl Tryd.underlying24 rfl rfl sz9 rfl) ⟨rfl, og, fun _ _ h => h⟩⟩
            | 6, ho, hp =>
              have e := Option.some.inj (ho : some _ = some o)
              subst e
              change ∀ j ∈ ([5] : List Nat), _ at hp
              have h32 : (u 5) = .pointer (some ⟨Array.size H1, 3, none⟩) := hp 5 (by simp)
              change Ob _ _ (([(32, u 5)] : Env) ++ _) _ _ _
              simp only [h32]
              exact .inl ⟨rfl, D1.op (R.load rfl Tryd.underlying9 rfl rfl (cell_of (og.blk b5) rfl)) ⟨rfl, og, fun _ _ h => h⟩⟩
            | 7, ho, hp =>
              have e := Option.some.inj (ho : some _ = some o)
              subst e
              change ∀ j ∈ ([] : List Nat), _ at hp
              change Ob _ _ (([] : Env) ++ _) _ _ _
              exact .inl ⟨rfl, D1.op (R.move rfl rfl) ⟨rfl, og, fun _ _ h => h⟩⟩
            | 8, ho, hp =>
              have e := Option.some.inj (ho : some _ = some o)
              subst e
              change ∀ j ∈ ([7] : List Nat), _ at hp
              have h34 : (u 7) = .int .i64 (k : Nat) := hp 7 (by simp)
              change Ob _ _ (([(34, u 7)] : Env) ++ _) _ _ _
              simp only [h34]
              exact .inl ⟨rfl, D1.op ((R.add rfl rfl rfl (by dsimp only [InR]; omega)).val (congrArg (Value.int .i64) (show (k : Int) + 1 = ((k + 1 : Nat) : Int) by omega))) ⟨rfl, og, fun _ _ h => h⟩⟩
            | 9, ho, hp =>
              have e := Option.some.inj (ho : some _ = some o)
              subst e
              change ∀ j ∈ ([6, 8] : List Nat), _ at hp
              have h33 : (u 6) = sv ((Opc.rfind op).getD Opc.Row.zero).sg := hp 6 (by simp)
              have h35 : (u 8) = .int .i64 (k + 1 : Nat) := hp 8 (by simp)
              change Ob _ _ (([(33, u 6), (35, u 8)] : Env) ++ _) _ _ _
              simp only [h33, h35]
              exact .inl ⟨rfl, D1.op (R.sliceStr (i := k + 1) (j := ((Opc.rfind op).getD Opc.Row.zero).sg.length) rfl Tryd.underlying9 rfl (bnd.mk rfl rfl) (show _ = _ from (bstr_size hrg.2.1).symm) (by omega) (by rw [bstr_size hrg.2.1]; omega)) ⟨rfl, og, fun _ _ h => h⟩⟩
            | 10, ho, hp =>
              have e := Option.some.inj (ho : some _ = some o)
              subst e
              change ∀ j ∈ ([9, 4] : List Nat), _ at hp
              have h31 : Sl 1 (EInt .u8) Hc (u 4) (Opc.tys (((Opc.rfind op).getD Opc.Row.zero).sg.take k)) := hp 4 (by simp)
              have h36 : (u 9) = .string ((bstr ((Opc.rfind op).getD Opc.Row.zero).sg).extract (k + 1) ((Opc.rfind op).getD Opc.Row.zero).sg.length) := hp 9 (by simp)
              change Ob _ _ (([(36, u 9), (31, u 4)] : Env) ++ _) _ _ _
              simp only [h36]
              refine .inl ⟨rfl, D1.call rfl rfl rfl rfl Tryd.call24 (types_any _ (by rw [bstr_ext_size hrg.2.1, List.length_drop, List.length_take]; omega)) ?_⟩
              rintro v2 H2 ⟨k1, ox⟩
              rw [ints_extract, ints_bstr hrg.2.1] at k1
              exact ⟨by rw [List.take_length] at k1; exact k1.sl (emptyOld _) (by omega), og.trans ox, hst _ ox⟩
            | 11, ho, hp =>
              have e := Option.some.inj (ho : some _ = some o)
              subst e
              change ∀ j ∈ ([4, 10, 0, 1, 2, 3, 4] : List Nat), _ at hp
              have h27 : (u 0) = .pointer (some ⟨Array.size H1, 3, none⟩) := hp 0 (by simp)
              have h28 : (u 1) = sv ((Opc.rfind op).getD Opc.Row.zero).sg := hp 1 (by simp)
              have h29 : (u 2) = .int .i64 (k : Nat) := hp 2 (by simp)
              have h30 : (u 3) = .string ((bstr ((Opc.rfind op).getD Opc.Row.zero).sg).extract 0 k) := hp 3 (by simp)
              have h31 : Sl 1 (EInt .u8) Hc (u 4) (Opc.tys (((Opc.rfind op).getD Opc.Row.zero).sg.take k)) := hp 4 (by simp)
              have h37 : Sl 1 (EInt .u8) Hc (u 10) (Opc.tys (((Opc.rfind op).getD Opc.Row.zero).sg.drop (k + 1))) := hp 10 (by simp)
              change Ob _ _ (([(31, u 4), (37, u 10), (27, u 0), (28, u 1), (29, u 2), (30, u 3), (31, u 4)] : Env) ++ _) _ _ _
              simp only [h27, h28, h29, h30]
              exact .inl ⟨rfl, D1.op (R.assign rfl rfl) ⟨h31, og, fun _ _ h => h⟩⟩
            | 12, ho, hp =>
              have e := Option.some.inj (ho : some _ = some o)
              subst e
              change ∀ j ∈ ([10, 11, 0, 1, 2, 3, 4, 5, 6, 7, 8, 9, 10, 11] : List Nat), _ at hp
              have h27 : (u 0) = .pointer (some ⟨Array.size H1, 3, none⟩) := hp 0 (by simp)
              have h28 : (u 1) = sv ((Opc.rfind op).getD Opc.Row.zero).sg := hp 1 (by simp)
              have h29 : (u 2) = .int .i64 (k : Nat) := hp 2 (by simp)
              have h30 : (u 3) = .string ((bstr ((Opc.rfind op).getD Opc.Row.zero).sg).extract 0 k) := hp 3 (by simp)
              have h31 : Sl 1 (EInt .u8) Hc (u 4) (Opc.tys (((Opc.rfind op).getD Opc.Row.zero).sg.take k)) := hp 4 (by simp)
              have h32 : (u 5) = .pointer (some ⟨Array.size H1, 3, none⟩) := hp 5 (by simp)
              have h33 : (u 6) = sv ((Opc.rfind op).getD Opc.Row.zero).sg := hp 6 (by simp)
              have h34 : (u 7) = .int .i64 (k : Nat) := hp 7 (by simp)
              have h35 : (u 8) = .int .i64 (k + 1 : Nat) := hp 8 (by simp)
              have h36 : (u 9) = .string ((bstr ((Opc.rfind op).getD Opc.Row.zero).sg).extract (k + 1) ((Opc.rfind op).getD Opc.Row.zero).sg.length) := hp 9 (by simp)
              have h37 : Sl 1 (EInt .u8) Hc (u 10) (Opc.tys (((Opc.rfind op).getD Opc.Row.zero).sg.drop (k + 1))) := hp 10 (by simp)
              have h2 : Sl 1 (EInt .u8) Hc (u 11) (Opc.tys (((Opc.rfind op).getD Opc.Row.zero).sg.take k)) := hp 11 (by simp)
              change Ob _ _ (([(37, u 10), (2, u 11), (27, u 0), (28, u 1), (29, u 2), (30, u 3), (31, u 4), (32, u 5), (33, u 6), (34, u 7), (35, u 8), (36, u 9), (37, u 10), (2, u 11)] : Env) ++ _) _ _ _
              simp only [h27, h28, h29, h30, h32, h33, h34, h35, h36]
              exact .inl ⟨rfl, D1.op (R.assign rfl rfl) ⟨h37, og, fun _ _ h => h⟩⟩
            | 13, ho, hp =>
              have e := Option.some.inj (ho : some _ = some o)
              subst e
              change ∀ j ∈ ([12, 0, 1, 2, 3, 4, 5, 6, 7, 8, 9, 10, 11, 12] : List Nat), _ at hp
              have h27 : (u 0) = .pointer (some ⟨Array.size H1, 3, none⟩) := hp 0 (by simp)
              have h28 : (u 1) = sv ((Opc.rfind op).getD Opc.Row.zero).sg := hp 1 (by simp)
              have h29 : (u 2) = .int .i64 (k : Nat) := hp 2 (by simp)
              have h30 : (u 3) = .string ((bstr ((Opc.rfind op).getD Opc.Row.zero).sg).extract 0 k) := hp 3 (by simp)
              have h31 : Sl 1 (EInt .u8) Hc (u 4) (Opc.tys (((Opc.rfind op).getD Opc.Row.zero).sg.take k)) := hp 4 (by simp)
              have h32 : (u 5) = .pointer (some ⟨Array.size H1, 3, none⟩) := hp 5 (by simp)
              have h33 : (u 6) = sv ((Opc.rfind op).getD Opc.Row.zero).sg := hp 6 (by simp)
              have h34 : (u 7) = .int .i64 (k : Nat) := hp 7 (by simp)
              have h35 : (u 8) = .int .i64 (k + 1 : Nat) := hp 8 (by simp)
              have h36 : (u 9) = .string ((bstr ((Opc.rfind op).getD Opc.Row.zero).sg).extract (k + 1) ((Opc.rfind op).getD Opc.Row.zero).sg.length) := hp 9 (by simp)
              have h37 : Sl 1 (EInt .u8) Hc (u 10) (Opc.tys (((Opc.rfind op).getD Opc.Row.zero).sg.drop (k + 1))) := hp 10 (by simp)
              have h2 : Sl 1 (EInt .u8) Hc (u 11) (Opc.tys (((Opc.rfind op).getD Opc.Row.zero).sg.take k)) := hp 11 (by simp)
              have h3 : Sl 1 (EInt .u8) Hc (u 12) (Opc.tys (((Opc.rfind op).getD Opc.Row.zero).sg.drop (k + 1))) := hp 12 (by simp)
              change Ob _ _ (([(3, u 12), (27, u 0), (28, u 1), (29, u 2), (30, u 3), (31, u 4), (32, u 5), (33, u 6), (34, u 7), (35, u 8), (36, u 9), (37, u 10), (2, u 11), (3, u 12)] : Env) ++ _) _ _ _
              simp only [h27, h28, h29, h30, h32, h33, h34, h35, h36]
              exact .inl ⟨rfl, D1.op (R.assign rfl rfl) ⟨rfl, og, fun _ _ h => h⟩⟩
            | i + 14, ho, hp => exact absurd ho (by simp)
          · intro u H5 og5 hv
            have h27 : (u 0) = .pointer (some ⟨Array.size H1, 3, none⟩) := hv 0 (by decide)
            have h28 : (u 1) = sv ((Opc.rfind op).getD Opc.Row.zero).sg := hv 1 (by decide)
            have h29 : (u 2) = .int .i64 (k : Nat) := hv 2 (by decide)
            have h30 : (u 3) = .string ((bstr ((Opc.rfind op).getD Opc.Row.zero).sg).extract 0 k) := hv 3 (by decide)
            have h31 : Sl 1 (EInt .u8) H5 (u 4) (Opc.tys (((Opc.rfind op).getD Opc.Row.zero).sg.take k)) := hv 4 (by decide)
            have h32 : (u 5) = .pointer (some ⟨Array.size H1, 3, none⟩) := hv 5 (by decide)
            have h33 : (u 6) = sv ((Opc.rfind op).getD Opc.Row.zero).sg := hv 6 (by decide)
            have h34 : (u 7) = .int .i64 (k : Nat) := hv 7 (by decide)
            have h35 : (u 8) = .int .i64 (k + 1 : Nat) := hv 8 (by decide)
            have h36 : (u 9) = .string ((bstr ((Opc.rfind op).getD Opc.Row.zero).sg).extract (k + 1) ((Opc.rfind op).getD Opc.Row.zero).sg.length) := hv 9 (by decide)
            have h37 : Sl 1 (EInt .u8) H5 (u 10) (Opc.tys (((Opc.rfind op).getD Opc.Row.zero).sg.drop (k + 1))) := hv 10 (by decide)
            have h2 : Sl 1 (EInt .u8) H5 (u 11) (Opc.tys (((Opc.rfind op).getD Opc.Row.zero).sg.take k)) := hv 11 (by decide)
            have h3 : Sl 1 (EInt .u8) H5 (u 12) (Opc.tys (((Opc.rfind op).getD Opc.Row.zero).sg.drop (k + 1))) := hv 12 (by decide)
            have h4 : (u 13) = .bool true := hv 13 (by decide)
            change KQ _ _ _ _ (([(27, u 0), (28, u 1), (29, u 2), (30, u 3), (31, u 4), (32, u 5), (33, u 6), (34, u 7), (35, u 8), (36, u 9), (37, u 10), (2, u 11), (3, u 12), (4, u 13)] : Env) ++ _) _
            have o0 := o0.trans og5
            have b5 := (og5).blk b5
            have z5 := og5.1
            simp only [h27, h28, h29, h30, h32, h33, h34, h35, h36, h4]
            refine KQ.seq ?_
            refine KC.ret ?_
            refine KQ.ofRet ?_
            refine KQ.fin3 Tryd.results9 rfl rfl rfl ?_
            first
              | (have ha : Opc.arrow ((Opc.rfind op).getD Opc.Row.zero).sg = k := Opc.arrow_at (by omega) (by simp_all) hno
                 have hs : Opc.rsig op = (Opc.tys (((Opc.rfind op).getD Opc.Row.zero).sg.take k), Opc.tys (((Opc.rfind op).getD Opc.Row.zero).sg.drop (k + 1)), true) := by rw [Opc.rsig_eq, if_neg (by rintro (e | e) <;> simp_all), ha]
                 exact ⟨o0, _, _, by rw [hs], by rw [hs]; exact h2, by rw [hs]; exact h3⟩)
              | (have hs : Opc.rsig op = ([], [], false) := by rw [Opc.rsig_eq, if_pos (by simp_all [ints])]
                 exact ⟨o0, _, _, by rw [hs], by rw [hs]; exact Sl.nil _ _ _, by rw [hs]; exact Sl.nil _ _ _⟩)

set_option maxRecDepth 100000 in
set_option maxHeartbeats 4000000 in
theorem known_any {H : Heap} (hT : TabA H) : Ct Tryd.prog 6 [] H (fun u H' => u = .bool true ∧ Old H H') := by
  refine Ct.mk Tryd.func6 rfl Tryd.ntmps6 rfl ?_
  intro W0 hW0
  have o0 : Old H H := Old.refl H
  refine KC.seq ?_
  refine KC.region ?_
  refine KL.op (R.assign rfl rfl) rfl rfl rfl ?_
  refine KL.nil ?_
  refine KQ.seq ?_
  refine KC.seq ?_
  refine KC.region ?_
  refine KL.call rfl rfl rfl rfl Tryd.call8 rfl rfl rfl (Sig_k 55 (p := [127, 126]) (r := []) (ok := true) (by decide)) ?_
  rintro _ H1 ⟨ox, vp1, vr1, rfl, sp1, sr1⟩
  have zc_H1 := (ox).1
  have o0 := o0.trans ox
  refine KL.op (R.move rfl rfl) rfl rfl rfl ?_
  refine KL.op (R.extract rfl rfl rfl) rfl rfl rfl ?_
  refine KL.op (R.extract rfl rfl rfl) rfl rfl rfl ?_
  refine KL.op (R.extract rfl rfl rfl) rfl rfl rfl ?_
  refine KL.op (R.assign rfl rfl) rfl rfl rfl ?_
  refine KL.op (R.assign rfl rfl) rfl rfl rfl ?_
  refine KL.op (R.assign rfl rfl) rfl rfl rfl ?_
  refine KL.nil ?_
  refine KQ.seq ?_
  refine KC.seq ?_
  refine KC.region ?_
  refine KL.call rfl rfl rfl rfl Tryd.call8 rfl rfl rfl (Sig_k 16 (p := []) (r := []) (ok := false) (by decide)) ?_
  rintro _ H2 ⟨ox, vp2, vr2, rfl, sp2, sr2⟩
  have zc_H2 := (ox).1
  have o0 := o0.trans ox
  have sp1 := sp1.old ox
  have sr1 := sr1.old ox
  refine KL.op (R.move rfl rfl) rfl rfl rfl ?_
  refine KL.op (R.extract rfl rfl rfl) rfl rfl rfl ?_
  refine KL.op (R.extract rfl rfl rfl) rfl rfl rfl ?_
  refine KL.op (R.extract rfl rfl rfl) rfl rfl rfl ?_
  refine KL.op (R.assign rfl rfl) rfl rfl rfl ?_
  refine KL.op (R.assign rfl rfl) rfl rfl rfl ?_
  refine KL.op (R.assign rfl rfl) rfl rfl rfl ?_
  refine KL.nil ?_
  refine KQ.seq ?_
  refine KC.seq ?_
  refine KC.region ?_
  refine KL.call rfl rfl rfl rfl Tryd.call17 rfl rfl rfl (Ct.isO (.tuple #[.int .u8 73, .bool true]) (Find_any _ (hT.old o0)) (by kernel_rfl)) ?_
  rintro _ H3 ⟨rfl, ox⟩
  have zc_H3 := (ox).1
  have o0 := o0.trans ox
  have sp1 := sp1.old ox
  have sr1 := sr1.old ox
  refine KL.op (R.move rfl rfl) rfl rfl rfl ?_
  refine KL.op (R.extract rfl rfl rfl) rfl rfl rfl ?_
  refine KL.op (R.extract rfl rfl rfl) rfl rfl rfl ?_
  refine KL.op (R.assign rfl rfl) rfl rfl rfl ?_
  refine KL.op (R.assign rfl rfl) rfl rfl rfl ?_
  refine KL.nil ?_
  refine KQ.seq ?_
  refine KC.seq ?_
  refine KC.region ?_
  refine KL.call rfl rfl rfl rfl Tryd.call10 rfl rfl rfl (Ct.is (.bool true) (Known_k 106) (congrArg Value.bool (by decide))) ?_
  rintro _ _ ⟨rfl, rfl⟩
  refine KL.op (R.move rfl rfl) rfl rfl rfl ?_
  refine KL.call rfl rfl rfl rfl Tryd.call10 rfl rfl rfl (Ct.is (.bool false) (Known_k 192) (congrArg Value.bool (by decide))) ?_
  rintro _ _ ⟨rfl, rfl⟩
  refine KL.op (R.not rfl rfl) rfl rfl rfl ?_
  refine KL.op (R.pick rfl rfl rfl) rfl rfl rfl ?_
  refine KL.op (R.move rfl rfl) rfl rfl rfl ?_
  refine KL.call rfl rfl rfl rfl Tryd.call11 rfl rfl rfl (Ct.is (.bool true) (Float_k 168) (congrArg Value.bool (by decide))) ?_
  rintro _ _ ⟨rfl, rfl⟩
  refine KL.op (R.pick rfl rfl rfl) rfl rfl rfl ?_
  refine KL.op (R.move rfl rfl) rfl rfl rfl ?_
  refine KL.call rfl rfl rfl rfl Tryd.call11 rfl rfl rfl (Ct.is (.bool false) (Float_k 167) (congrArg Value.bool (by decide))) ?_
  rintro _ _ ⟨rfl, rfl⟩
  refine KL.op (R.not rfl rfl) rfl rfl rfl ?_
  refine KL.op (R.pick rfl rfl rfl) rfl rfl rfl ?_
  refine KL.op (R.move rfl rfl) rfl rfl rfl ?_
  refine KL.op (R.move rfl rfl) rfl rfl rfl ?_
  refine KL.op (R.convBS rfl Tryd.underlying27 Tryd.underlying5 Tryd.underlying9 rfl sp1) rfl rfl rfl ?_
  refine KL.op ((R.eqlStr rfl rfl rfl).val (congrArg Value.bool ((sv_cmp (by decide)).trans (decide_eq_true (by kernel_rfl))))) rfl rfl rfl ?_
  refine KL.op (R.pick rfl rfl rfl) rfl rfl rfl ?_
  refine KL.op (R.move rfl rfl) rfl rfl rfl ?_
  refine KL.op (R.move rfl rfl) rfl rfl rfl ?_
  refine KL.op (R.lenS rfl Tryd.underlying27 rfl sr1) rfl rfl rfl ?_
  refine KL.op ((R.eql rfl rfl rfl).val (congrArg Value.bool (decide_eq_true (by rfl)))) rfl rfl rfl ?_
  refine KL.op (R.pick rfl rfl rfl) rfl rfl rfl ?_
  refine KL.op (R.move rfl rfl) rfl rfl rfl ?_
  refine KL.op (R.move rfl rfl) rfl rfl rfl ?_
  refine KL.op (R.pick rfl rfl rfl) rfl rfl rfl ?_
  refine KL.op (R.move rfl rfl) rfl rfl rfl ?_
  refine KL.op (R.move rfl rfl) rfl rfl rfl ?_
  refine KL.op (R.not rfl rfl) rfl rfl rfl ?_
  refine KL.op (R.pick rfl rfl rfl) rfl rfl rfl ?_
  refine KL.op (R.move rfl rfl) rfl rfl rfl ?_
  refine KL.call rfl rfl rfl rfl Tryd.call13 rfl rfl rfl (Ct.is (.int .u8 5) (Form_k 17) (by rfl)) ?_
  rintro _ _ ⟨rfl, rfl⟩
  refine KL.op ((R.eql rfl rfl rfl).val (congrArg Value.bool (decide_eq_true (by rfl)))) rfl rfl rfl ?_
  refine KL.op (R.pick rfl rfl rfl) rfl rfl rfl ?_
  refine KL.op (R.move rfl rfl) rfl rfl rfl ?_
  refine KL.call rfl rfl rfl rfl Tryd.call14 rfl rfl rfl (Ct.is (.int .i64 4) (Width_any 53) (by rfl)) ?_
  rintro _ _ ⟨rfl, rfl⟩
  refine KL.op ((R.eql rfl rfl rfl).val (congrArg Value.bool (decide_eq_true (by rfl)))) rfl rfl rfl ?_
  refine KL.op (R.pick rfl rfl rfl) rfl rfl rfl ?_
  refine KL.op (R.move rfl rfl) rfl rfl rfl ?_
  refine KL.call rfl rfl rfl rfl Tryd.call15 rfl rfl rfl (Name_any 138 (by decide) (hT.old o0)) ?_
  rintro _ H4 ⟨rfl, ox⟩
  have zc_H4 := (ox).1
  have o0 := o0.trans ox
  have sp1 := sp1.old ox
  have sr1 := sr1.old ox
  refine KL.op ((R.eqlStr rfl rfl rfl).val (congrArg Value.bool ((sv_cmp (Opc.names_range _ (names_get (by decide)))).trans (decide_eq_true (by decide +kernel))))) rfl rfl rfl ?_
  refine KL.op (R.pick rfl rfl rfl) rfl rfl rfl ?_
  refine KL.op (R.move rfl rfl) rfl rfl rfl ?_
  refine KL.op (R.move rfl rfl) rfl rfl rfl ?_
  refine KL.op ((R.eql rfl rfl rfl).val (congrArg Value.bool (decide_eq_true (by rfl)))) rfl rfl rfl ?_
  refine KL.op (R.pick rfl rfl rfl) rfl rfl rfl ?_
  refine KL.op (R.move rfl rfl) rfl rfl rfl ?_
  refine KL.op (R.move rfl rfl) rfl rfl rfl ?_
  refine KL.op (R.pick rfl rfl rfl) rfl rfl rfl ?_
  refine KL.op (R.assign rfl rfl) rfl rfl rfl ?_
  refine KL.nil ?_
  refine KQ.seq ?_
  refine KC.ret ?_
  refine KQ.ofRet ?_
  refine KQ.fin1 Tryd.results6 rfl ?_
  exact ⟨rfl, o0⟩

end Go.Proofs.YthgdaacbhcondaaDoor
