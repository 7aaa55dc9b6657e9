/- Whether a module is great. No condition but sizes. -/
import Derived.Test.YticnkojpfmkjeaaIstH
namespace Go.Proofs.Yticnkojpfmkjeaa
open Go Go.RowKit
set_option linter.unusedVariables false
set_option linter.unusedSimpArgs false
set_option linter.unnecessarySimpa false
set_option maxRecDepth 100000 in
set_option maxHeartbeats 4000000 in
theorem Great_any {H : Heap} {v0 v1 v2 v3 v4 v5 v6 v7 v8 v9 va vb : Value} {m : Md} (mv : MI H v0 v1 v2 v3 v4 v5 v6 v7 v8 v9 va vb m) : Ct Try.prog 5 [.agg [v0, v1, v2, v3, v4, v5, v6, v7, v8, v9, va, vb].toArray] H (fun u H' => ∃ hv, u = .bool hv ∧ Old H H') := by
  refine Ct.mk Try.func5 rfl Try.ntmps5 rfl ?_
  intro W0 hW0
  have o0 : Old H H := Old.refl H
  have hn := mv.n
  refine KC.seq ?_
  refine KC.region ?_
  refine KL.opM (M.box rfl rfl rfl) rfl rfl rfl ?_
  rintro _ H1 ⟨rfl, n1⟩
  have z1 := n1.2.1
  have o0 := o0.trans n1.1
  have b1 := n1.2.2
  have bx := b1
  refine KL.op (R.assign rfl rfl) rfl rfl rfl ?_
  refine KL.nil ?_
  refine KQ.seq ?_
  refine KC.seq ?_
  refine KC.region ?_
  refine KL.op ((by first | exact R.fieldAddr rfl Try.underlying33 rfl rfl sz26 rfl | exact R.fieldAddrP rfl Try.underlying33 rfl rfl sz26 rfl)) rfl rfl rfl ?_
  refine KL.op (R.load rfl Try.underlying26 rfl rfl (by first | exact cell_of bx rfl | assumption)) rfl rfl rfl ?_
  refine KL.op (R.lenS rfl Try.underlying26 rfl mv.g) rfl rfl rfl ?_
  refine KL.op ((by first | exact R.fieldAddr rfl Try.underlying33 rfl rfl sz29 rfl | exact R.fieldAddrP rfl Try.underlying33 rfl rfl sz29 rfl)) rfl rfl rfl ?_
  refine KL.op (R.load rfl Try.underlying29 rfl rfl (by first | exact cell_of bx rfl | assumption)) rfl rfl rfl ?_
  refine KL.op (R.lenS rfl Try.underlying29 rfl mv.e) rfl rfl rfl ?_
  refine KL.op (R.add rfl rfl rfl (by dsimp only [InR]; omega)) rfl rfl rfl ?_
  refine KL.op ((by first | exact R.fieldAddr rfl Try.underlying33 rfl rfl sz31 rfl | exact R.fieldAddrP rfl Try.underlying33 rfl rfl sz31 rfl)) rfl rfl rfl ?_
  refine KL.op (R.load rfl Try.underlying31 rfl rfl (by first | exact cell_of bx rfl | assumption)) rfl rfl rfl ?_
  refine KL.op (R.lenS rfl Try.underlying31 rfl mv.d) rfl rfl rfl ?_
  refine KL.op (R.add rfl rfl rfl (by dsimp only [InR]; omega)) rfl rfl rfl ?_
  refine KL.op (R.assign rfl rfl) rfl rfl rfl ?_
  refine KL.nil ?_
  refine KQ.seq ?_
  refine KC.seq ?_
  refine KC.seq ?_
  refine KC.region ?_
  refine KL.op (R.assign rfl rfl) rfl rfl rfl ?_
  refine KL.nil ?_
  refine KQ.seq ?_
  refine KC.block ?_
  refine KC.loopD (κ := Nat × Int) [17, 18, 19, 20, 21, 22, 23, 24, 25, 28, 29, 30, 31, 32, 33, 34, 35, 36, 3, 26, 27, 4] (fun k => [(4, .int .i64 (k.1 : Nat)), (3, .int .i64 k.2)]) (fun k Hl => k.1 ≤ m.elems.length ∧ 0 ≤ k.2 ∧ k.2 ≤ 562949953409000 ∧ H1 = Hl) (fun k => m.elems.length - k.1) (0, (m.globs.length : Int) + (m.elems.length : Nat) + (m.datas.length : Nat)) ?_ ?_ ?_
  · exact (Sub.cons rfl (Sub.cons rfl (Ext.sub (Ext.refl _ _))))
  · exact ⟨Nat.zero_le _, by dsimp only; omega, by dsimp only; omega, rfl⟩
  · rintro ⟨k, n⟩ H2 ⟨hk, hn0, hn1, rfl⟩
    dsimp only at hk hn0 hn1
    refine KC.seq ?_
    refine KC.seq ?_
    refine KC.region ?_
    refine KL.op (R.move rfl rfl) rfl rfl rfl ?_
    refine KL.op ((by first | exact R.fieldAddr rfl Try.underlying33 rfl rfl sz29 rfl | exact R.fieldAddrP rfl Try.underlying33 rfl rfl sz29 rfl)) rfl rfl rfl ?_
    refine KL.op (R.load rfl Try.underlying29 rfl rfl (by first | exact cell_of bx rfl | assumption)) rfl rfl rfl ?_
    refine KL.op (R.lenS rfl Try.underlying29 rfl mv.e) rfl rfl rfl ?_
    refine KL.op (R.lss rfl rfl rfl) rfl rfl rfl ?_
    refine KL.op (R.move rfl rfl) rfl rfl rfl ?_
    refine KL.case (d := 22) rfl ?_ ?_
    · intro hg22
      try simp only [decide_eq_true_eq, decide_eq_false_iff_not, Bool.not_eq_true', Bool.not_eq_false', Bool.and_eq_true, Bool.or_eq_false_iff] at hg22
      refine KL.op (R.move rfl rfl) rfl rfl rfl ?_
      refine KL.op (R.leq rfl rfl rfl) rfl rfl rfl ?_
      refine KL.op (R.pick rfl rfl rfl) rfl rfl rfl ?_
      refine KL.nil ?_
      refine KQ.seq ?_
      refine KC.iteL rfl ?_ ?_
      · intro hc25
        try simp only [decide_eq_true_eq, decide_eq_false_iff_not, Bool.not_eq_true', Bool.not_eq_false', Bool.and_eq_true, Bool.or_eq_false_iff] at hc25
        obtain ⟨tt, vu, vw, hcx, hsu, hsw, hlw⟩ := mv.e.elAt k (by omega)
        refine KC.skip ?_
        refine KQ.seq ?_
        refine KC.seq ?_
        refine KC.block ?_
        refine KC.region ?_
        refine KL.op (R.move rfl rfl) rfl rfl rfl ?_
        refine KL.op ((by first | exact R.fieldAddr rfl Try.underlying33 rfl rfl sz29 rfl | exact R.fieldAddrP rfl Try.underlying33 rfl rfl sz29 rfl)) rfl rfl rfl ?_
        refine KL.op (R.load rfl Try.underlying29 rfl rfl (by first | exact cell_of bx rfl | assumption)) rfl rfl rfl ?_
        refine KL.op (R.move rfl rfl) rfl rfl rfl ?_
        refine KL.op (R.index (j := k) rfl Try.underlying29 sz45 rfl rfl mv.e rfl (by omega)) rfl rfl rfl ?_
        refine KL.op ((by first | exact R.fieldAddr rfl Try.underlying45 rfl rfl sz24 rfl | exact R.fieldAddrP rfl Try.underlying45 rfl rfl sz24 rfl)) rfl rfl rfl ?_
        refine KL.op (R.load rfl Try.underlying24 rfl rfl (o0.cells hcx 2 _ rfl)) rfl rfl rfl ?_
        refine KL.op (R.lenS rfl Try.underlying24 rfl hsw) rfl rfl rfl ?_
        refine KL.op (R.add rfl rfl rfl (by dsimp only [InR]; omega)) rfl rfl rfl ?_
        refine KL.op (R.assign rfl rfl) rfl rfl rfl ?_
        refine KL.nil ?_
        refine KQ.normBlock ?_
        refine KQ.seq ?_
        refine KC.region ?_
        refine KL.op (R.move rfl rfl) rfl rfl rfl ?_
        refine KL.op ((R.add rfl rfl rfl (by dsimp only [InR]; omega)).val (congrArg (Value.int .i64) (show (k : Int) + 1 = ((k + 1 : Nat) : Int) by omega))) rfl rfl rfl ?_
        refine KL.op (R.assign rfl rfl) rfl rfl rfl ?_
        refine KL.nil ?_
        refine KQ.again ((k + 1, n + ((m.elems.getD k default).2.length : Nat))) ?_ ?_ ?_
        · exact (Sub.cons rfl (Sub.cons rfl (Ext.sub (by repeat (first | exact Ext.refl _ _ | refine Ext.put rfl ?_ | refine Ext.drop rfl ?_)))))
        · show m.elems.length - (k + 1) < m.elems.length - k; omega
        · exact ⟨by show k + 1 ≤ _; omega, by dsimp only; omega, by dsimp only; omega, rfl⟩
      · intro hc25
        try simp only [decide_eq_true_eq, decide_eq_false_iff_not, Bool.not_eq_true', Bool.not_eq_false', Bool.and_eq_true, Bool.or_eq_false_iff] at hc25
        refine KC.exit ?_
        refine KQ.exitThen ?_
        refine KQ.exitThen ?_
        refine KQ.hit ?_
        refine KQ.seq ?_
        refine KC.seq ?_
        refine KC.seq ?_
        refine KC.region ?_
        refine KL.op (R.assign rfl rfl) rfl rfl rfl ?_
        refine KL.nil ?_
        refine KQ.seq ?_
        refine KC.block ?_
        refine KC.loopD (κ := Nat × Int) [37, 38, 39, 40, 41, 42, 43, 44, 45, 48, 49, 50, 51, 52, 53, 54, 55, 56, 57, 3, 46, 47, 5] (fun k => [(5, .int .i64 (k.1 : Nat)), (3, .int .i64 k.2)]) (fun k Hl => k.1 ≤ m.datas.length ∧ 0 ≤ k.2 ∧ k.2 ≤ 562949953409000 ∧ H1 = Hl) (fun k => m.datas.length - k.1) (0, n) ?_ ?_ ?_
        · exact (Sub.cons rfl (Sub.cons rfl (Ext.sub (Ext.refl _ _))))
        · exact ⟨Nat.zero_le _, by dsimp only; omega, by dsimp only; omega, rfl⟩
        · rintro ⟨k, n⟩ H3 ⟨hk, hn0, hn1, rfl⟩
          dsimp only at hk hn0 hn1
          refine KC.seq ?_
          refine KC.seq ?_
          refine KC.region ?_
          refine KL.op (R.move rfl rfl) rfl rfl rfl ?_
          refine KL.op ((by first | exact R.fieldAddr rfl Try.underlying33 rfl rfl sz31 rfl | exact R.fieldAddrP rfl Try.underlying33 rfl rfl sz31 rfl)) rfl rfl rfl ?_
          refine KL.op (R.load rfl Try.underlying31 rfl rfl (by first | exact cell_of bx rfl | assumption)) rfl rfl rfl ?_
          refine KL.op (R.lenS rfl Try.underlying31 rfl mv.d) rfl rfl rfl ?_
          refine KL.op (R.lss rfl rfl rfl) rfl rfl rfl ?_
          refine KL.op (R.move rfl rfl) rfl rfl rfl ?_
          refine KL.case (d := 42) rfl ?_ ?_
          · intro hg42
            try simp only [decide_eq_true_eq, decide_eq_false_iff_not, Bool.not_eq_true', Bool.not_eq_false', Bool.and_eq_true, Bool.or_eq_false_iff] at hg42
            refine KL.op (R.move rfl rfl) rfl rfl rfl ?_
            refine KL.op (R.leq rfl rfl rfl) rfl rfl rfl ?_
            refine KL.op (R.pick rfl rfl rfl) rfl rfl rfl ?_
            refine KL.nil ?_
            refine KQ.seq ?_
            refine KC.iteL rfl ?_ ?_
            · intro hc45
              try simp only [decide_eq_true_eq, decide_eq_false_iff_not, Bool.not_eq_true', Bool.not_eq_false', Bool.and_eq_true, Bool.or_eq_false_iff] at hc45
              obtain ⟨tt, vu, vw, hcx, hsu, hsw, hlw⟩ := mv.d.daAt k (by omega)
              refine KC.skip ?_
              refine KQ.seq ?_
              refine KC.seq ?_
              refine KC.block ?_
              refine KC.region ?_
              refine KL.op (R.move rfl rfl) rfl rfl rfl ?_
              refine KL.op ((by first | exact R.fieldAddr rfl Try.underlying33 rfl rfl sz31 rfl | exact R.fieldAddrP rfl Try.underlying33 rfl rfl sz31 rfl)) rfl rfl rfl ?_
              refine KL.op (R.load rfl Try.underlying31 rfl rfl (by first | exact cell_of bx rfl | assumption)) rfl rfl rfl ?_
              refine KL.op (R.move rfl rfl) rfl rfl rfl ?_
              refine KL.op (R.index (j := k) rfl Try.underlying31 sz55 rfl rfl mv.d rfl (by omega)) rfl rfl rfl ?_
              refine KL.op ((by first | exact R.fieldAddr rfl Try.underlying55 rfl rfl sz49 rfl | exact R.fieldAddrP rfl Try.underlying55 rfl rfl sz49 rfl)) rfl rfl rfl ?_
              refine KL.op (R.load rfl Try.underlying49 rfl rfl (o0.cells hcx 2 _ rfl)) rfl rfl rfl ?_
              refine KL.op (R.lenS rfl Try.underlying49 rfl hsw) rfl rfl rfl ?_
              refine KL.op (R.quo rfl rfl rfl (by omega) (by omega) (by dsimp only [InR]; omega)) rfl rfl rfl ?_
              refine KL.op (R.add rfl rfl rfl (by dsimp only [InR]; omega)) rfl rfl rfl ?_
              refine KL.op (R.assign rfl rfl) rfl rfl rfl ?_
              refine KL.nil ?_
              refine KQ.normBlock ?_
              refine KQ.seq ?_
              refine KC.region ?_
              refine KL.op (R.move rfl rfl) rfl rfl rfl ?_
              refine KL.op ((R.add rfl rfl rfl (by dsimp only [InR]; omega)).val (congrArg (Value.int .i64) (show (k : Int) + 1 = ((k + 1 : Nat) : Int) by omega))) rfl rfl rfl ?_
              refine KL.op (R.assign rfl rfl) rfl rfl rfl ?_
              refine KL.nil ?_
              refine KQ.again ((k + 1, n + ((m.datas.getD k default).2.length : Nat) / 64)) ?_ ?_ ?_
              · exact (Sub.cons rfl (Sub.cons rfl (Ext.sub (by repeat (first | exact Ext.refl _ _ | refine Ext.put rfl ?_ | refine Ext.drop rfl ?_)))))
              · show m.datas.length - (k + 1) < m.datas.length - k; omega
              · exact ⟨by show k + 1 ≤ _; omega, by dsimp only; omega, by dsimp only; omega, rfl⟩
            · intro hc45
              try simp only [decide_eq_true_eq, decide_eq_false_iff_not, Bool.not_eq_true', Bool.not_eq_false', Bool.and_eq_true, Bool.or_eq_false_iff] at hc45
              refine KC.exit ?_
              refine KQ.exitThen ?_
              refine KQ.exitThen ?_
              refine KQ.hit ?_
              refine KQ.seq ?_
              refine KC.seq ?_
              refine KC.region ?_
              refine KL.op (R.move rfl rfl) rfl rfl rfl ?_
              refine KL.op (R.gtr rfl rfl rfl) rfl rfl rfl ?_
              refine KL.op (R.assign rfl rfl) rfl rfl rfl ?_
              refine KL.nil ?_
              refine KQ.seq ?_
              refine KC.ret ?_
              refine KQ.ofRet ?_
              refine KQ.fin1 Try.results5 rfl ?_
              exact ⟨_, rfl, o0⟩
          · intro hg42
            try simp only [decide_eq_true_eq, decide_eq_false_iff_not, Bool.not_eq_true', Bool.not_eq_false', Bool.and_eq_true, Bool.or_eq_false_iff] at hg42
            refine KL.skip rfl rfl rfl ?_
            refine KL.skip rfl rfl rfl ?_
            refine KL.op (R.pick rfl rfl rfl) rfl rfl rfl ?_
            refine KL.nil ?_
            refine KQ.seq ?_
            refine KC.condF rfl ?_
            refine KC.exit ?_
            refine KQ.exitThen ?_
            refine KQ.exitThen ?_
            refine KQ.hit ?_
            refine KQ.seq ?_
            refine KC.seq ?_
            refine KC.region ?_
            refine KL.op (R.move rfl rfl) rfl rfl rfl ?_
            refine KL.op (R.gtr rfl rfl rfl) rfl rfl rfl ?_
            refine KL.op (R.assign rfl rfl) rfl rfl rfl ?_
            refine KL.nil ?_
            refine KQ.seq ?_
            refine KC.ret ?_
            refine KQ.ofRet ?_
            refine KQ.fin1 Try.results5 rfl ?_
            exact ⟨_, rfl, o0⟩
    · intro hg22
      try simp only [decide_eq_true_eq, decide_eq_false_iff_not, Bool.not_eq_true', Bool.not_eq_false', Bool.and_eq_true, Bool.or_eq_false_iff] at hg22
      refine KL.skip rfl rfl rfl ?_
      refine KL.skip rfl rfl rfl ?_
      refine KL.op (R.pick rfl rfl rfl) rfl rfl rfl ?_
      refine KL.nil ?_
      refine KQ.seq ?_
      refine KC.condF rfl ?_
      refine KC.exit ?_
      refine KQ.exitThen ?_
      refine KQ.exitThen ?_
      refine KQ.hit ?_
      refine KQ.seq ?_
      refine KC.seq ?_
      refine KC.seq ?_
      refine KC.region ?_
      refine KL.op (R.assign rfl rfl) rfl rfl rfl ?_
      refine KL.nil ?_
      refine KQ.seq ?_
      refine KC.block ?_
      refine KC.loopD (κ := Nat × Int) [37, 38, 39, 40, 41, 42, 43, 44, 45, 48, 49, 50, 51, 52, 53, 54, 55, 56, 57, 3, 46, 47, 5] (fun k => [(5, .int .i64 (k.1 : Nat)), (3, .int .i64 k.2)]) (fun k Hl => k.1 ≤ m.datas.length ∧ 0 ≤ k.2 ∧ k.2 ≤ 562949953409000 ∧ H1 = Hl) (fun k => m.datas.length - k.1) (0, n) ?_ ?_ ?_
      · exact (Sub.cons rfl (Sub.cons rfl (Ext.sub (Ext.refl _ _))))
      · exact ⟨Nat.zero_le _, by dsimp only; omega, by dsimp only; omega, rfl⟩
      · rintro ⟨k, n⟩ H4 ⟨hk, hn0, hn1, rfl⟩
        dsimp only at hk hn0 hn1
        refine KC.seq ?_
        refine KC.seq ?_
        refine KC.region ?_
        refine KL.op (R.move rfl rfl) rfl rfl rfl ?_
        refine KL.op ((by first | exact R.fieldAddr rfl Try.underlying33 rfl rfl sz31 rfl | exact R.fieldAddrP rfl Try.underlying33 rfl rfl sz31 rfl)) rfl rfl rfl ?_
        refine KL.op (R.load rfl Try.underlying31 rfl rfl (by first | exact cell_of bx rfl | assumption)) rfl rfl rfl ?_
        refine KL.op (R.lenS rfl Try.underlying31 rfl mv.d) rfl rfl rfl ?_
        refine KL.op (R.lss rfl rfl rfl) rfl rfl rfl ?_
        refine KL.op (R.move rfl rfl) rfl rfl rfl ?_
        refine KL.case (d := 42) rfl ?_ ?_
        · intro hg42
          try simp only [decide_eq_true_eq, decide_eq_false_iff_not, Bool.not_eq_true', Bool.not_eq_false', Bool.and_eq_true, Bool.or_eq_false_iff] at hg42
          refine KL.op (R.move rfl rfl) rfl rfl rfl ?_
          refine KL.op (R.leq rfl rfl rfl) rfl rfl rfl ?_
          refine KL.op (R.pick rfl rfl rfl) rfl rfl rfl ?_
          refine KL.nil ?_
          refine KQ.seq ?_
          refine KC.iteL rfl ?_ ?_
          · intro hc45
            try simp only [decide_eq_true_eq, decide_eq_false_iff_not, Bool.not_eq_true', Bool.not_eq_false', Bool.and_eq_true, Bool.or_eq_false_iff] at hc45
            obtain ⟨tt, vu, vw, hcx, hsu, hsw, hlw⟩ := mv.d.daAt k (by omega)
            refine KC.skip ?_
            refine KQ.seq ?_
            refine KC.seq ?_
            refine KC.block ?_
            refine KC.region ?_
            refine KL.op (R.move rfl rfl) rfl rfl rfl ?_
            refine KL.op ((by first | exact R.fieldAddr rfl Try.underlying33 rfl rfl sz31 rfl | exact R.fieldAddrP rfl Try.underlying33 rfl rfl sz31 rfl)) rfl rfl rfl ?_
            refine KL.op (R.load rfl Try.underlying31 rfl rfl (by first | exact cell_of bx rfl | assumption)) rfl rfl rfl ?_
            refine KL.op (R.move rfl rfl) rfl rfl rfl ?_
            refine KL.op (R.index (j := k) rfl Try.underlying31 sz55 rfl rfl mv.d rfl (by omega)) rfl rfl rfl ?_
            refine KL.op ((by first | exact R.fieldAddr rfl Try.underlying55 rfl rfl sz49 rfl | exact R.fieldAddrP rfl Try.underlying55 rfl rfl sz49 rfl)) rfl rfl rfl ?_
            refine KL.op (R.load rfl Try.underlying49 rfl rfl (o0.cells hcx 2 _ rfl)) rfl rfl rfl ?_
            refine KL.op (R.lenS rfl Try.underlying49 rfl hsw) rfl rfl rfl ?_
            refine KL.op (R.quo rfl rfl rfl (by omega) (by omega) (by dsimp only [InR]; omega)) rfl rfl rfl ?_
            refine KL.op (R.add rfl rfl rfl (by dsimp only [InR]; omega)) rfl rfl rfl ?_
            refine KL.op (R.assign rfl rfl) rfl rfl rfl ?_
            refine KL.nil ?_
            refine KQ.normBlock ?_
            refine KQ.seq ?_
            refine KC.region ?_
            refine KL.op (R.move rfl rfl) rfl rfl rfl ?_
            refine KL.op ((R.add rfl rfl rfl (by dsimp only [InR]; omega)).val (congrArg (Value.int .i64) (show (k : Int) + 1 = ((k + 1 : Nat) : Int) by omega))) rfl rfl rfl ?_
            refine KL.op (R.assign rfl rfl) rfl rfl rfl ?_
            refine KL.nil ?_
            refine KQ.again ((k + 1, n + ((m.datas.getD k default).2.length : Nat) / 64)) ?_ ?_ ?_
            · exact (Sub.cons rfl (Sub.cons rfl (Ext.sub (by repeat (first | exact Ext.refl _ _ | refine Ext.put rfl ?_ | refine Ext.drop rfl ?_)))))
            · show m.datas.length - (k + 1) < m.datas.length - k; omega
            · exact ⟨by show k + 1 ≤ _; omega, by dsimp only; omega, by dsimp only; omega, rfl⟩
          · intro hc45
            try simp only [decide_eq_true_eq, decide_eq_false_iff_not, Bool.not_eq_true', Bool.not_eq_false', Bool.and_eq_true, Bool.or_eq_false_iff] at hc45
            refine KC.exit ?_
            refine KQ.exitThen ?_
            refine KQ.exitThen ?_
            refine KQ.hit ?_
            refine KQ.seq ?_
            refine KC.seq ?_
            refine KC.region ?_
            refine KL.op (R.move rfl rfl) rfl rfl rfl ?_
            refine KL.op (R.gtr rfl rfl rfl) rfl rfl rfl ?_
            refine KL.op (R.assign rfl rfl) rfl rfl rfl ?_
            refine KL.nil ?_
            refine KQ.seq ?_
            refine KC.ret ?_
            refine KQ.ofRet ?_
            refine KQ.fin1 Try.results5 rfl ?_
            exact ⟨_, rfl, o0⟩
        · intro hg42
          try simp only [decide_eq_true_eq, decide_eq_false_iff_not, Bool.not_eq_true', Bool.not_eq_false', Bool.and_eq_true, Bool.or_eq_false_iff] at hg42
          refine KL.skip rfl rfl rfl ?_
          refine KL.skip rfl rfl rfl ?_
          refine KL.op (R.pick rfl rfl rfl) rfl rfl rfl ?_
          refine KL.nil ?_
          refine KQ.seq ?_
          refine KC.condF rfl ?_
          refine KC.exit ?_
          refine KQ.exitThen ?_
          refine KQ.exitThen ?_
          refine KQ.hit ?_
          refine KQ.seq ?_
          refine KC.seq ?_
          refine KC.region ?_
          refine KL.op (R.move rfl rfl) rfl rfl rfl ?_
          refine KL.op (R.gtr rfl rfl rfl) rfl rfl rfl ?_
          refine KL.op (R.assign rfl rfl) rfl rfl rfl ?_
          refine KL.nil ?_
          refine KQ.seq ?_
          refine KC.ret ?_
          refine KQ.ofRet ?_
          refine KQ.fin1 Try.results5 rfl ?_
          exact ⟨_, rfl, o0⟩

end Go.Proofs.Yticnkojpfmkjeaa
