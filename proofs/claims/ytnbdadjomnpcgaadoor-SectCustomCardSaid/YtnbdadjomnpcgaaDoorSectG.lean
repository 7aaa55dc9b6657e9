/- SectCustom, walked. No condition but that the library tables are laid, and what a tied card says of sizes. -/
import Derived.Test.YtnbdadjomnpcgaaDoorSectE
import Derived.Test.YtnbdadjomnpcgaaDoorSectT
namespace Go.Proofs.YtnbdadjomnpcgaaDoor
open Go Go.RowKit
set_option linter.unusedVariables false
set_option linter.unusedSimpArgs false
set_option linter.unnecessarySimpa false
theorem RJoin_or {H : Heap} (v : Value) (l : List Sec) (hs : Sl 2 ESec H v l) (hz : (Sc.body l).length ≤ 140737488351232) : Ct Tryd.prog 14 [v] H (fun u H' => Old H H' ∧ ((Sc.join l = none ∧ u = .tuple #[.slice none 0 0, .bool false]) ∨ ∃ m vo, Sc.join l = some m ∧ u = .tuple #[vo, .bool true] ∧ Sl 1 (EInt .u8) H' vo m)) := by
  cases h : Sc.join l with
  | none => exact (RJoin_is v l hs hz h).mono fun u H' h2 => ⟨h2.1, .inl ⟨rfl, h2.2⟩⟩
  | some m => exact (RJoin_is v l hs hz h).mono fun u H' ⟨h1, vo, h2, h3⟩ => ⟨h1, .inr ⟨m, vo, rfl, h2, h3⟩⟩

set_option maxRecDepth 100000 in
set_option maxHeartbeats 4000000 in
theorem SectCustom_any {H : Heap} (v : Value) (l : List Sec) (hs : Sl 2 ESec H v l) (hb : ∀ s ∈ l, s.2.length ≤ 140737488351232) (c : Int) (rc : InR .i64 c) (s : ByteArray) (zs : s.size ≤ 140737488351232) (vo : Value) (o : List Int) (so : Sl 1 (EInt .u8) H vo o) (hbo : o.length ≤ 140737488351232) (hT : TabU H) : Ct Tryd.prog 7 [v, .int .i64 c, .string s, vo] H (fun u H' => u = .bool true ∧ Old H H') := by
  refine Ct.mk Tryd.func7 rfl Tryd.ntmps7 rfl ?_
  intro W0 hW0
  have o0 : Old H H := Old.refl H
  dsimp only [InR] at rc
  have hll := hs.len
  refine KC.seq ?_
  refine KC.region ?_
  refine KL.op (R.assign rfl rfl) rfl rfl rfl ?_
  refine KL.nil ?_
  refine KQ.seq ?_
  refine KC.seq ?_
  refine KC.seq ?_
  refine KC.region ?_
  refine KL.call rfl rfl rfl rfl Tryd.call8 rfl rfl rfl (known_any (hT.old o0)) ?_
  rintro _ H1 ⟨rfl, ox⟩
  have zc_H1 := (ox).1
  have o0 := o0.trans ox
  refine KL.op (R.not rfl rfl) rfl rfl rfl ?_
  refine KL.nil ?_
  refine KQ.seq ?_
  refine KC.condF rfl ?_
  refine KC.skip ?_
  refine KQ.seq ?_
  refine KC.seq ?_
  refine KC.region ?_
  refine KL.op (R.assign rfl rfl) rfl rfl rfl ?_
  refine KL.nil ?_
  refine KQ.seq ?_
  refine KC.seq ?_
  refine KC.seq ?_
  refine KC.region ?_
  refine KL.op (R.move rfl rfl) rfl rfl rfl ?_
  refine KL.op (R.lenS rfl Tryd.underlying24 rfl hs) rfl rfl rfl ?_
  refine KL.op (R.move rfl rfl) rfl rfl rfl ?_
  refine KL.nil ?_
  refine KQ.seq ?_
  refine KC.block ?_
  refine KC.loopD (κ := Nat) [25, 26, 27, 11, 28, 29, 30, 31, 32, 33, 9, 34, 35, 8, 36, 24] (fun k => [(24, .int .i64 (k : Nat)), (9, .int .i64 (Sc.wt (l.take k) : Nat))]) (fun k Hl => k ≤ l.length ∧ Sc.wt (l.take k) ≤ 5000 ∧ Old H Hl) (fun k => l.length - k) 0 ?_ ?_ ?_
  · exact (Sub.cons rfl (Sub.cons rfl (Ext.sub (Ext.refl _ _))))
  · exact ⟨Nat.zero_le _, by show 0 ≤ 5000; omega, o0⟩
  · rintro k H2 ⟨hk, hw, o0⟩
    have zl_H2 := o0.1
    refine KC.seq ?_
    refine KC.region ?_
    refine KL.op (R.lss rfl rfl rfl) rfl rfl rfl ?_
    refine KL.nil ?_
    refine KQ.seq ?_
    refine KC.seq ?_
    refine KC.iteL rfl ?_ ?_
    · intro hc25
      try simp only [decide_eq_true_eq, decide_eq_false_iff_not, Bool.not_eq_true', Bool.not_eq_false', Bool.and_eq_true, Bool.or_eq_false_iff] at hc25
      obtain ⟨u, hcx, hu, q0⟩ := hs.secAt k (by omega)
      have hul := getD_bd hb k (by omega)
      have hwt := Sc.wt_step (l := l) (k := k) (by omega)
      refine KC.skip ?_
      refine KQ.seq ?_
      refine KC.seq ?_
      refine KC.block ?_
      refine KC.seq ?_
      refine KC.region ?_
      refine KL.op (R.index (j := k) rfl Tryd.underlying24 sz35 rfl rfl (hs.old o0) rfl (by omega)) rfl rfl rfl ?_
      refine KL.op (R.loadAgg rfl Tryd.underlying35 rfl sz35 rfl (o0.cells hcx) rfl) rfl rfl rfl ?_
      refine KL.opM (M.alloc rfl zr35 rfl) rfl rfl rfl ?_
      rintro _ H3 ⟨rfl, n3⟩
      have z3 := n3.2.1
      have o0 := o0.trans n3.1
      have b3 := n3.2.2
      have bx := b3
      refine KL.opS (S.storeAgg rfl sz35 rfl rfl (rfl) (by intro q hq; simp only [List.mem_cons, List.not_mem_nil, or_false] at hq; rcases hq with rfl | rfl <;> first | rfl | exact hu.one) bx (by simp)) rfl rfl ?_
      rintro H4 ⟨u4, b4⟩
      have o0 := o0.upd u4 (by omega)
      have zu4 := u4.1
      have bx := b4
      refine KL.nil ?_
      refine KQ.seq ?_
      refine KC.seq ?_
      refine KC.region ?_
      refine KL.op (R.move rfl rfl) rfl rfl rfl ?_
      refine KL.op ((by first | exact R.fieldAddr rfl Tryd.underlying35 rfl rfl sz22 rfl | exact R.fieldAddrP rfl Tryd.underlying35 rfl rfl sz22 rfl)) rfl rfl rfl ?_
      refine KL.op (R.load rfl Tryd.underlying22 rfl rfl (by first | exact cell_of bx rfl | assumption)) rfl rfl rfl ?_
      refine KL.op (R.lenS rfl Tryd.underlying22 rfl hu) rfl rfl rfl ?_
      refine KL.op (R.add rfl rfl rfl (by dsimp only [InR]; omega)) rfl rfl rfl ?_
      refine KL.op ((R.add rfl rfl rfl (by dsimp only [InR]; omega)).val (congrArg (Value.int .i64) (show _ = ((Sc.wt (l.take (k + 1)) : Nat) : Int) from by omega))) rfl rfl rfl ?_
      refine KL.op (R.assign rfl rfl) rfl rfl rfl ?_
      refine KL.nil ?_
      refine KQ.seq ?_
      refine KC.seq ?_
      refine KC.region ?_
      refine KL.op (R.move rfl rfl) rfl rfl rfl ?_
      refine KL.op (R.gtr rfl rfl rfl) rfl rfl rfl ?_
      refine KL.nil ?_
      refine KQ.seq ?_
      refine KC.iteL rfl ?_ ?_
      · intro hc35
        try simp only [decide_eq_true_eq, decide_eq_false_iff_not, Bool.not_eq_true', Bool.not_eq_false', Bool.and_eq_true, Bool.or_eq_false_iff] at hc35
        refine KC.seq ?_
        refine KC.region ?_
        refine KL.op (R.assign rfl rfl) rfl rfl rfl ?_
        refine KL.nil ?_
        refine KQ.seq ?_
        refine KC.ret ?_
        refine KQ.retBlock ?_
        refine KQ.retThen ?_
        refine KQ.retThen ?_
        refine KQ.retBlock ?_
        refine KQ.retThen ?_
        refine KQ.ofRet ?_
        refine KQ.fin1 Tryd.results7 rfl ?_
        exact ⟨rfl, o0⟩
      · intro hc35
        try simp only [decide_eq_true_eq, decide_eq_false_iff_not, Bool.not_eq_true', Bool.not_eq_false', Bool.and_eq_true, Bool.or_eq_false_iff] at hc35
        refine KC.skip ?_
        refine KQ.normBlock ?_
        refine KQ.seq ?_
        refine KC.region ?_
        refine KL.op ((R.add rfl rfl rfl (by dsimp only [InR]; omega)).val (congrArg (Value.int .i64) (show (k : Int) + 1 = ((k + 1 : Nat) : Int) by omega))) rfl rfl rfl ?_
        refine KL.op (R.move rfl rfl) rfl rfl rfl ?_
        refine KL.nil ?_
        refine KQ.again (k + 1) ?_ ?_ ?_
        · exact (Sub.cons rfl (Sub.cons rfl (Ext.sub (by repeat (first | exact Ext.refl _ _ | refine Ext.put rfl ?_ | refine Ext.drop rfl ?_)))))
        · omega
        · exact ⟨by omega, by omega, o0⟩
    · intro hc25
      try simp only [decide_eq_true_eq, decide_eq_false_iff_not, Bool.not_eq_true', Bool.not_eq_false', Bool.and_eq_true, Bool.or_eq_false_iff] at hc25
      rw [List.take_of_length_le (by omega)] at hw
      have hbz := Sc.body_wt l (by omega)
      have hlw := Sc.len_wt l
      have hsm : ∀ s ∈ l, s.2.length < 4294967296 := fun s hs => by have := Sc.wt_mem hs; omega
      refine KC.exit ?_
      refine KQ.exitThen ?_
      refine KQ.exitThen ?_
      refine KQ.hit ?_
      refine KQ.seq ?_
      refine KC.seq ?_
      refine KC.seq ?_
      refine KC.region ?_
      refine KL.op (R.move rfl rfl) rfl rfl rfl ?_
      refine KL.op (R.lss rfl rfl rfl) rfl rfl rfl ?_
      refine KL.op (R.move rfl rfl) rfl rfl rfl ?_
      refine KL.case (d := 39) rfl ?_ ?_
      · intro hg39
        try simp only [decide_eq_true_eq, decide_eq_false_iff_not, Bool.not_eq_true', Bool.not_eq_false', Bool.and_eq_true, Bool.or_eq_false_iff] at hg39
        refine KL.skip rfl rfl rfl ?_
        refine KL.skip rfl rfl rfl ?_
        refine KL.skip rfl rfl rfl ?_
        refine KL.skip rfl rfl rfl ?_
        refine KL.op (R.pick rfl rfl rfl) rfl rfl rfl ?_
        refine KL.op (R.move rfl rfl) rfl rfl rfl ?_
        refine KL.skip rfl rfl rfl ?_
        refine KL.skip rfl rfl rfl ?_
        refine KL.skip rfl rfl rfl ?_
        refine KL.op (R.pick rfl rfl rfl) rfl rfl rfl ?_
        refine KL.op (R.move rfl rfl) rfl rfl rfl ?_
        refine KL.skip rfl rfl rfl ?_
        refine KL.skip rfl rfl rfl ?_
        refine KL.skip rfl rfl rfl ?_
        refine KL.op (R.pick rfl rfl rfl) rfl rfl rfl ?_
        refine KL.op (R.move rfl rfl) rfl rfl rfl ?_
        refine KL.skip rfl rfl rfl ?_
        refine KL.skip rfl rfl rfl ?_
        refine KL.skip rfl rfl rfl ?_
        refine KL.op (R.pick rfl rfl rfl) rfl rfl rfl ?_
        refine KL.nil ?_
        refine KQ.seq ?_
        refine KC.condT rfl ?_
        refine KC.seq ?_
        refine KC.region ?_
        refine KL.op (R.assign rfl rfl) rfl rfl rfl ?_
        refine KL.nil ?_
        refine KQ.seq ?_
        refine KC.ret ?_
        refine KQ.retThen ?_
        refine KQ.ofRet ?_
        refine KQ.fin1 Tryd.results7 rfl ?_
        exact ⟨rfl, o0⟩
      · intro hg39
        try simp only [decide_eq_true_eq, decide_eq_false_iff_not, Bool.not_eq_true', Bool.not_eq_false', Bool.and_eq_true, Bool.or_eq_false_iff] at hg39
        refine KL.op (R.move rfl rfl) rfl rfl rfl ?_
        refine KL.op (R.move rfl rfl) rfl rfl rfl ?_
        refine KL.op (R.lenS rfl Tryd.underlying24 rfl hs) rfl rfl rfl ?_
        refine KL.op (R.gtr rfl rfl rfl) rfl rfl rfl ?_
        refine KL.op (R.pick rfl rfl rfl) rfl rfl rfl ?_
        refine KL.op (R.move rfl rfl) rfl rfl rfl ?_
        refine KL.case (d := 45) rfl ?_ ?_
        · intro hg45
          try simp only [decide_eq_true_eq, decide_eq_false_iff_not, Bool.not_eq_true', Bool.not_eq_false', Bool.and_eq_true, Bool.or_eq_false_iff] at hg45
          refine KL.skip rfl rfl rfl ?_
          refine KL.skip rfl rfl rfl ?_
          refine KL.skip rfl rfl rfl ?_
          refine KL.op (R.pick rfl rfl rfl) rfl rfl rfl ?_
          refine KL.op (R.move rfl rfl) rfl rfl rfl ?_
          refine KL.skip rfl rfl rfl ?_
          refine KL.skip rfl rfl rfl ?_
          refine KL.skip rfl rfl rfl ?_
          refine KL.op (R.pick rfl rfl rfl) rfl rfl rfl ?_
          refine KL.op (R.move rfl rfl) rfl rfl rfl ?_
          refine KL.skip rfl rfl rfl ?_
          refine KL.skip rfl rfl rfl ?_
          refine KL.skip rfl rfl rfl ?_
          refine KL.op (R.pick rfl rfl rfl) rfl rfl rfl ?_
          refine KL.nil ?_
          refine KQ.seq ?_
          refine KC.condT rfl ?_
          refine KC.seq ?_
          refine KC.region ?_
          refine KL.op (R.assign rfl rfl) rfl rfl rfl ?_
          refine KL.nil ?_
          refine KQ.seq ?_
          refine KC.ret ?_
          refine KQ.retThen ?_
          refine KQ.ofRet ?_
          refine KQ.fin1 Tryd.results7 rfl ?_
          exact ⟨rfl, o0⟩
        · intro hg45
          try simp only [decide_eq_true_eq, decide_eq_false_iff_not, Bool.not_eq_true', Bool.not_eq_false', Bool.and_eq_true, Bool.or_eq_false_iff] at hg45
          refine KL.op (R.move rfl rfl) rfl rfl rfl ?_
          refine KL.op (R.lenStr (ty := 0) rfl Tryd.underlying9 rfl) rfl rfl rfl ?_
          refine KL.op (R.gtr rfl rfl rfl) rfl rfl rfl ?_
          refine KL.op (R.pick rfl rfl rfl) rfl rfl rfl ?_
          refine KL.op (R.move rfl rfl) rfl rfl rfl ?_
          refine KL.case (d := 50) rfl ?_ ?_
          · intro hg50
            try simp only [decide_eq_true_eq, decide_eq_false_iff_not, Bool.not_eq_true', Bool.not_eq_false', Bool.and_eq_true, Bool.or_eq_false_iff] at hg50
            refine KL.skip rfl rfl rfl ?_
            refine KL.skip rfl rfl rfl ?_
            refine KL.skip rfl rfl rfl ?_
            refine KL.op (R.pick rfl rfl rfl) rfl rfl rfl ?_
            refine KL.op (R.move rfl rfl) rfl rfl rfl ?_
            refine KL.skip rfl rfl rfl ?_
            refine KL.skip rfl rfl rfl ?_
            refine KL.skip rfl rfl rfl ?_
            refine KL.op (R.pick rfl rfl rfl) rfl rfl rfl ?_
            refine KL.nil ?_
            refine KQ.seq ?_
            refine KC.condT rfl ?_
            refine KC.seq ?_
            refine KC.region ?_
            refine KL.op (R.assign rfl rfl) rfl rfl rfl ?_
            refine KL.nil ?_
            refine KQ.seq ?_
            refine KC.ret ?_
            refine KQ.retThen ?_
            refine KQ.ofRet ?_
            refine KQ.fin1 Tryd.results7 rfl ?_
            exact ⟨rfl, o0⟩
          · intro hg50
            try simp only [decide_eq_true_eq, decide_eq_false_iff_not, Bool.not_eq_true', Bool.not_eq_false', Bool.and_eq_true, Bool.or_eq_false_iff] at hg50
            refine KL.op (R.move rfl rfl) rfl rfl rfl ?_
            refine KL.op (R.lenS rfl Tryd.underlying22 rfl so) rfl rfl rfl ?_
            refine KL.op (R.gtr rfl rfl rfl) rfl rfl rfl ?_
            refine KL.op (R.pick rfl rfl rfl) rfl rfl rfl ?_
            refine KL.op (R.move rfl rfl) rfl rfl rfl ?_
            refine KL.case (d := 55) rfl ?_ ?_
            · intro hg55
              try simp only [decide_eq_true_eq, decide_eq_false_iff_not, Bool.not_eq_true', Bool.not_eq_false', Bool.and_eq_true, Bool.or_eq_false_iff] at hg55
              refine KL.skip rfl rfl rfl ?_
              refine KL.skip rfl rfl rfl ?_
              refine KL.skip rfl rfl rfl ?_
              refine KL.op (R.pick rfl rfl rfl) rfl rfl rfl ?_
              refine KL.nil ?_
              refine KQ.seq ?_
              refine KC.condT rfl ?_
              refine KC.seq ?_
              refine KC.region ?_
              refine KL.op (R.assign rfl rfl) rfl rfl rfl ?_
              refine KL.nil ?_
              refine KQ.seq ?_
              refine KC.ret ?_
              refine KQ.retThen ?_
              refine KQ.ofRet ?_
              refine KQ.fin1 Tryd.results7 rfl ?_
              exact ⟨rfl, o0⟩
            · intro hg55
              try simp only [decide_eq_true_eq, decide_eq_false_iff_not, Bool.not_eq_true', Bool.not_eq_false', Bool.and_eq_true, Bool.or_eq_false_iff] at hg55
              refine KL.op (R.move rfl rfl) rfl rfl rfl ?_
              refine KL.op (R.lenS rfl Tryd.underlying24 rfl hs) rfl rfl rfl ?_
              refine KL.op (R.gtr rfl rfl rfl) rfl rfl rfl ?_
              refine KL.op (R.pick rfl rfl rfl) rfl rfl rfl ?_
              refine KL.nil ?_
              refine KQ.seq ?_
              refine KC.iteL rfl ?_ ?_
              · intro hc59
                try simp only [decide_eq_true_eq, decide_eq_false_iff_not, Bool.not_eq_true', Bool.not_eq_false', Bool.and_eq_true, Bool.or_eq_false_iff] at hc59
                refine KC.seq ?_
                refine KC.region ?_
                refine KL.op (R.assign rfl rfl) rfl rfl rfl ?_
                refine KL.nil ?_
                refine KQ.seq ?_
                refine KC.ret ?_
                refine KQ.retThen ?_
                refine KQ.ofRet ?_
                refine KQ.fin1 Tryd.results7 rfl ?_
                exact ⟨rfl, o0⟩
              · intro hc59
                try simp only [decide_eq_true_eq, decide_eq_false_iff_not, Bool.not_eq_true', Bool.not_eq_false', Bool.and_eq_true, Bool.or_eq_false_iff] at hc59
                refine KC.skip ?_
                refine KQ.seq ?_
                refine KC.seq ?_
                refine KC.region ?_
                refine KL.op (R.move rfl rfl) rfl rfl rfl ?_
                refine KL.call rfl rfl rfl rfl Tryd.call15 rfl rfl rfl (others_any _ _ (hs.old o0) (by omega)) ?_
                rintro vl H5 ⟨sl, ox⟩
                have zc_H5 := (ox).1
                have o0 := o0.trans ox
                refine KL.call rfl rfl rfl rfl Tryd.call14 rfl rfl rfl (RJoin_or _ _ sl (by omega)) ?_
                rintro u9 H6 ⟨ox, hR⟩
                have zc_H6 := (ox).1
                have o0 := o0.trans ox
                rcases hR with ⟨hj1, rfl⟩ | ⟨c1, vj1, hj1, rfl, sj1⟩
                · skip
                  refine KL.op (R.move rfl rfl) rfl rfl rfl ?_
                  refine KL.op (R.extract rfl rfl rfl) rfl rfl rfl ?_
                  refine KL.op (R.extract rfl rfl rfl) rfl rfl rfl ?_
                  refine KL.op (R.assign rfl rfl) rfl rfl rfl ?_
                  refine KL.op (R.assign rfl rfl) rfl rfl rfl ?_
                  refine KL.nil ?_
                  refine KQ.seq ?_
                  refine KC.seq ?_
                  refine KC.region ?_
                  refine KL.op (R.move rfl rfl) rfl rfl rfl ?_
                  refine KL.op (R.move rfl rfl) rfl rfl rfl ?_
                  refine KL.op (R.slice rfl Tryd.underlying24 sz35 rfl (hs.old o0) bnd.no (bnd.mk (r := c.toNat) rfl (by omega)) (Nat.zero_le _) (by omega)) rfl rfl rfl ?_
                  have s69 : Sl 2 ESec H6 (subV 2 v 0 c.toNat) (l.take c.toNat) := by
                    have h9 := (hs.old o0).sub (lo := 0) (hi := c.toNat) (Nat.zero_le _) (by omega)
                    rwa [List.drop_zero] at h9
                  have hbk := Sc.body_le l c.toNat
                  refine KL.call rfl rfl rfl rfl Tryd.call15 rfl rfl rfl (others_any _ _ s69 (by rw [List.length_take]; omega)) ?_
                  rintro vl2 H7 ⟨sl2, ox⟩
                  have zc_H7 := (ox).1
                  have o0 := o0.trans ox
                  refine KL.call rfl rfl rfl rfl Tryd.call14 rfl rfl rfl (RJoin_or _ _ sl2 (by omega)) ?_
                  rintro u8_ H8 ⟨ox, hR⟩
                  have zc_H8 := (ox).1
                  have o0 := o0.trans ox
                  rcases hR with ⟨hj2, rfl⟩ | ⟨c2, vj2, hj2, rfl, sj2⟩
                  · skip
                    refine KL.op (R.move rfl rfl) rfl rfl rfl ?_
                    refine KL.op (R.extract rfl rfl rfl) rfl rfl rfl ?_
                    refine KL.op (R.extract rfl rfl rfl) rfl rfl rfl ?_
                    refine KL.op (R.assign rfl rfl) rfl rfl rfl ?_
                    refine KL.op (R.assign rfl rfl) rfl rfl rfl ?_
                    refine KL.nil ?_
                    refine KQ.seq ?_
                    refine KC.seq ?_
                    refine KC.seq ?_
                    refine KC.region ?_
                    refine KL.op (R.move rfl rfl) rfl rfl rfl ?_
                    refine KL.op (R.not rfl rfl) rfl rfl rfl ?_
                    refine KL.op (R.move rfl rfl) rfl rfl rfl ?_
                    refine KL.skip rfl rfl rfl ?_
                    refine KL.skip rfl rfl rfl ?_
                    refine KL.op (R.pick rfl rfl rfl) rfl rfl rfl ?_
                    refine KL.nil ?_
                    refine KQ.seq ?_
                    refine KC.condT rfl ?_
                    refine KC.seq ?_
                    refine KC.region ?_
                    refine KL.op (R.assign rfl rfl) rfl rfl rfl ?_
                    refine KL.nil ?_
                    refine KQ.seq ?_
                    refine KC.ret ?_
                    refine KQ.retThen ?_
                    refine KQ.ofRet ?_
                    refine KQ.fin1 Tryd.results7 rfl ?_
                    exact ⟨rfl, o0⟩
                  · skip
                    refine KL.op (R.move rfl rfl) rfl rfl rfl ?_
                    refine KL.op (R.extract rfl rfl rfl) rfl rfl rfl ?_
                    refine KL.op (R.extract rfl rfl rfl) rfl rfl rfl ?_
                    refine KL.op (R.assign rfl rfl) rfl rfl rfl ?_
                    refine KL.op (R.assign rfl rfl) rfl rfl rfl ?_
                    refine KL.nil ?_
                    refine KQ.seq ?_
                    refine KC.seq ?_
                    refine KC.seq ?_
                    refine KC.region ?_
                    refine KL.op (R.move rfl rfl) rfl rfl rfl ?_
                    refine KL.op (R.not rfl rfl) rfl rfl rfl ?_
                    refine KL.op (R.move rfl rfl) rfl rfl rfl ?_
                    refine KL.skip rfl rfl rfl ?_
                    refine KL.skip rfl rfl rfl ?_
                    refine KL.op (R.pick rfl rfl rfl) rfl rfl rfl ?_
                    refine KL.nil ?_
                    refine KQ.seq ?_
                    refine KC.condT rfl ?_
                    refine KC.seq ?_
                    refine KC.region ?_
                    refine KL.op (R.assign rfl rfl) rfl rfl rfl ?_
                    refine KL.nil ?_
                    refine KQ.seq ?_
                    refine KC.ret ?_
                    refine KQ.retThen ?_
                    refine KQ.ofRet ?_
                    refine KQ.fin1 Tryd.results7 rfl ?_
                    exact ⟨rfl, o0⟩
                · skip
                  refine KL.op (R.move rfl rfl) rfl rfl rfl ?_
                  refine KL.op (R.extract rfl rfl rfl) rfl rfl rfl ?_
                  refine KL.op (R.extract rfl rfl rfl) rfl rfl rfl ?_
                  refine KL.op (R.assign rfl rfl) rfl rfl rfl ?_
                  refine KL.op (R.assign rfl rfl) rfl rfl rfl ?_
                  refine KL.nil ?_
                  refine KQ.seq ?_
                  refine KC.seq ?_
                  refine KC.region ?_
                  refine KL.op (R.move rfl rfl) rfl rfl rfl ?_
                  refine KL.op (R.move rfl rfl) rfl rfl rfl ?_
                  refine KL.op (R.slice rfl Tryd.underlying24 sz35 rfl (hs.old o0) bnd.no (bnd.mk (r := c.toNat) rfl (by omega)) (Nat.zero_le _) (by omega)) rfl rfl rfl ?_
                  have s69 : Sl 2 ESec H6 (subV 2 v 0 c.toNat) (l.take c.toNat) := by
                    have h9 := (hs.old o0).sub (lo := 0) (hi := c.toNat) (Nat.zero_le _) (by omega)
                    rwa [List.drop_zero] at h9
                  have hbk := Sc.body_le l c.toNat
                  refine KL.call rfl rfl rfl rfl Tryd.call15 rfl rfl rfl (others_any _ _ s69 (by rw [List.length_take]; omega)) ?_
                  rintro vl2 H9 ⟨sl2, ox⟩
                  have zc_H9 := (ox).1
                  have o0 := o0.trans ox
                  have sj1 := sj1.old ox
                  refine KL.call rfl rfl rfl rfl Tryd.call14 rfl rfl rfl (RJoin_or _ _ sl2 (by omega)) ?_
                  rintro u8_ H10 ⟨ox, hR⟩
                  have zc_H10 := (ox).1
                  have o0 := o0.trans ox
                  have sj1 := sj1.old ox
                  rcases hR with ⟨hj2, rfl⟩ | ⟨c2, vj2, hj2, rfl, sj2⟩
                  · skip
                    refine KL.op (R.move rfl rfl) rfl rfl rfl ?_
                    refine KL.op (R.extract rfl rfl rfl) rfl rfl rfl ?_
                    refine KL.op (R.extract rfl rfl rfl) rfl rfl rfl ?_
                    refine KL.op (R.assign rfl rfl) rfl rfl rfl ?_
                    refine KL.op (R.assign rfl rfl) rfl rfl rfl ?_
                    refine KL.nil ?_
                    refine KQ.seq ?_
                    refine KC.seq ?_
                    refine KC.seq ?_
                    refine KC.region ?_
                    refine KL.op (R.move rfl rfl) rfl rfl rfl ?_
                    refine KL.op (R.not rfl rfl) rfl rfl rfl ?_
                    refine KL.op (R.move rfl rfl) rfl rfl rfl ?_
                    refine KL.op (R.move rfl rfl) rfl rfl rfl ?_
                    refine KL.op (R.not rfl rfl) rfl rfl rfl ?_
                    refine KL.op (R.pick rfl rfl rfl) rfl rfl rfl ?_
                    refine KL.nil ?_
                    refine KQ.seq ?_
                    refine KC.condT rfl ?_
                    refine KC.seq ?_
                    refine KC.region ?_
                    refine KL.op (R.assign rfl rfl) rfl rfl rfl ?_
                    refine KL.nil ?_
                    refine KQ.seq ?_
                    refine KC.ret ?_
                    refine KQ.retThen ?_
                    refine KQ.ofRet ?_
                    refine KQ.fin1 Tryd.results7 rfl ?_
                    exact ⟨rfl, o0⟩
                  · skip
                    refine KL.op (R.move rfl rfl) rfl rfl rfl ?_
                    refine KL.op (R.extract rfl rfl rfl) rfl rfl rfl ?_
                    refine KL.op (R.extract rfl rfl rfl) rfl rfl rfl ?_
                    refine KL.op (R.assign rfl rfl) rfl rfl rfl ?_
                    refine KL.op (R.assign rfl rfl) rfl rfl rfl ?_
                    refine KL.nil ?_
                    refine KQ.seq ?_
                    refine KC.seq ?_
                    refine KC.seq ?_
                    refine KC.region ?_
                    refine KL.op (R.move rfl rfl) rfl rfl rfl ?_
                    refine KL.op (R.not rfl rfl) rfl rfl rfl ?_
                    refine KL.op (R.move rfl rfl) rfl rfl rfl ?_
                    refine KL.op (R.move rfl rfl) rfl rfl rfl ?_
                    refine KL.op (R.not rfl rfl) rfl rfl rfl ?_
                    refine KL.op (R.pick rfl rfl rfl) rfl rfl rfl ?_
                    refine KL.nil ?_
                    refine KQ.seq ?_
                    refine KC.condF rfl ?_
                    refine KC.skip ?_
                    refine KQ.seq ?_
                    refine KC.seq ?_
                    have hsz := ints_length s
                    have hal := (Lb.ap_length (z := (s.size : Int)) (by omega) (by omega))
                    obtain ⟨hrise, rfl, hc21, hdr, rfl⟩ := Sc.all_drop hj1 hj2
                    have hb8 : Sc.beg.length = 8 := rfl
                    have hl1 : (Sc.beg ++ Sc.body (l.take c.toNat)).length = 8 + (Sc.body (l.take c.toNat)).length := by rw [List.length_append]; rfl
                    have hl2 : (Sc.beg ++ Sc.body l).length = 8 + (Sc.body l).length := by rw [List.length_append]; rfl
                    have hbd2 : (Sc.body (l.take c.toNat)).length + (Sc.body (l.drop c.toNat)).length = (Sc.body l).length := by rw [← List.length_append, ← Sc.body_app, List.take_append_drop]
                    refine KC.region ?_
                    refine KL.op (R.move rfl rfl) rfl rfl rfl ?_
                    have sj1B := sj1
                    have sj2B := sj2
                    refine KL.call rfl rfl rfl rfl Tryd.call17 rfl rfl rfl (NAppend_any _ [] s (Sl.nil _ _ _) (by decide) (by omega)) ?_
                    rintro va H11 ⟨wbd, ox⟩
                    have zc_H11 := (ox).1
                    have o0 := o0.trans ox
                    have sj1 := sj1.old ox
                    have sj2 := sj2.old ox
                    refine KL.op (R.move rfl rfl) rfl rfl rfl ?_
                    have oQ : Old H10 H11 := ox
                    have lt12 := wbd.lt
                    refine KL.opM (M.append rfl Tryd.underlying22 inf5 rfl (by decide) rfl rfl wbd (by exact (so.old o0)) (fun _ _ h _ => h) (by omega) (by simp only [List.length_nil, List.length_append, List.length_singleton, List.length_drop]; omega) (by unfold maxLen; simp only [List.length_nil, List.length_append, List.length_singleton, List.length_drop]; omega)) rfl rfl rfl ?_
                    rintro vbd H12 ⟨w12, g12⟩
                    try dsimp only at g12
                    have ob12 := g12.oldB wbd (by omega)
                    have o0 := o0.then ob12 (by omega)
                    have z12 := ob12.1
                    have wbd := w12
                    have oQ := oQ.then ob12 (Nat.le_refl _)
                    have sj1 := sj1B.old oQ
                    have sj2 := sj2B.old oQ
                    have sbd : Sl 1 (EInt .u8) H12 vbd (Lb.ap (s.size : Int) ++ ints s ++ o) := wbd.sl (emptyOld _) (by omega)
                    have hbl : (Lb.ap (s.size : Int) ++ ints s ++ o).length = (Lb.ap (s.size : Int)).length + s.size + o.length := by rw [List.length_append, List.length_append, hsz]
                    refine KL.op (R.assign rfl rfl) rfl rfl rfl ?_
                    refine KL.nil ?_
                    refine KQ.seq ?_
                    refine KC.seq ?_
                    refine KC.region ?_
                    have zP := o0.1
                    have hvb : vblock vbd < Array.size H12 := wbd.blt (by have := cell_lt (sbd.int 0 (by omega)).1; omega)
                    have oJ : Old H12 H12 := Old.refl _
                    have sj1J := sj1
                    have sj2J := sj2
                    have sbdJ := sbd
                    refine KL.opM (M.lit rfl Tryd.underlying22 zs5 (by decide) rfl rfl rfl) rfl rfl rfl ?_
                    rintro _ H13 ⟨rfl, n13⟩
                    have z13 := n13.2.1
                    have o0 := o0.trans n13.1
                    have wbd := wbd.old n13.1
                    have sj1 := sj1.old n13.1
                    have sj2 := sj2.old n13.1
                    have sbd := sbd.old n13.1
                    have b13 := n13.2.2
                    have oJ := oJ.trans n13.1
                    have wa : Own 1 (EInt .u8) 5 #[] (Array.size H12) H13 _ [] := Own.litI (l := []) n13 (Nat.le_refl _) rfl (by decide) (by intro x hx; cases hx)
                    refine KL.op (R.move rfl rfl) rfl rfl rfl ?_
                    have lt14 := wa.lt
                    refine KL.opM (M.append rfl Tryd.underlying22 inf5 rfl (by decide) rfl rfl wa (by exact (sj2J.old oJ)) (fun _ _ h _ => h) (by omega) (by simp only [List.length_nil, List.length_append, List.length_singleton, List.length_drop]; omega) (by unfold maxLen; simp only [List.length_nil, List.length_append, List.length_singleton, List.length_drop]; omega)) rfl rfl rfl ?_
                    rintro v86 H14 ⟨w14, g14⟩
                    try dsimp only at g14
                    have ob14 := g14.oldB wa (by omega)
                    have o0 := o0.then ob14 (by omega)
                    have z14 := ob14.1
                    have oJ := oJ.then ob14 (by omega)
                    have wa := w14
                    refine KL.op (R.assign rfl rfl) rfl rfl rfl ?_
                    refine KL.nil ?_
                    refine KQ.seq ?_
                    refine KC.seq ?_
                    refine KC.region ?_
                    refine KL.op (R.move rfl rfl) rfl rfl rfl ?_
                    refine KL.opM (M.lit rfl Tryd.underlying22 zs5 (by decide) rfl rfl rfl) rfl rfl rfl ?_
                    rintro _ H15 ⟨rfl, n15⟩
                    have z15 := n15.2.1
                    have o0 := o0.trans n15.1
                    have wa := wa.old n15.1
                    have oJ := oJ.trans n15.1
                    have b15 := n15.2.2
                    have s88 : Sl 1 (EInt .u8) H15 _ [0] := Sl.lits (l := [0]) n15 rfl (by decide) (by decide)
                    have lt16 := wa.lt
                    refine KL.opM (M.append rfl Tryd.underlying22 inf5 rfl (by decide) rfl rfl wa (by exact s88) (fun _ _ h _ => h) (by omega) (by simp only [List.length_nil, List.length_append, List.length_singleton, List.length_drop]; omega) (by unfold maxLen; simp only [List.length_nil, List.length_append, List.length_singleton, List.length_drop]; omega)) rfl rfl rfl ?_
                    rintro v89 H16 ⟨w16, g16⟩
                    try dsimp only at g16
                    have ob16 := g16.oldB wa (by omega)
                    have o0 := o0.then ob16 (by omega)
                    have z16 := ob16.1
                    have oJ := oJ.then ob16 (by omega)
                    have wa := w16
                    have sw := wa.sl (emptyOld _) (by omega)
                    refine KL.op (R.move rfl rfl) rfl rfl rfl ?_
                    refine KL.op (R.lenS rfl Tryd.underlying22 rfl sbdJ) rfl rfl rfl ?_
                    refine KL.op (R.convI rfl Tryd.underlying3 Tryd.underlying43 rfl (by dsimp only [InR]; omega)) rfl rfl rfl ?_
                    refine KL.call rfl rfl rfl rfl Tryd.call18 rfl rfl rfl (AppendU_big _ _ _ sw (by simp only [List.length_nil, List.length_append, List.length_singleton]; omega) (by omega) (by omega)) ?_
                    rintro vu H17 ⟨wu, ox⟩
                    have zc_H17 := (ox).1
                    have o0 := o0.trans ox
                    have wa := wa.old ox
                    have oJ := oJ.trans ox
                    have hal2 := (Lb.ap_length (z := ((Lb.ap (s.size : Int) ++ ints s ++ o).length : Int)) (by omega) (by omega)).2
                    obtain ⟨apb, hapb⟩ : ∃ x, x = Lb.ap ((Lb.ap (s.size : Int) ++ ints s ++ o).length : Int) := ⟨_, rfl⟩
                    rw [← hapb] at wu hal2
                    have zJ := oJ.1
                    refine KL.op (R.move rfl rfl) rfl rfl rfl ?_
                    have lt18 := wu.lt
                    refine KL.opM (M.append rfl Tryd.underlying22 inf5 rfl (by decide) rfl rfl wu (by exact (sbdJ.old oJ)) (fun _ _ h _ => h) (by omega) (by simp only [List.length_nil, List.length_append, List.length_singleton, List.length_drop]; omega) (by unfold maxLen; simp only [List.length_nil, List.length_append, List.length_singleton, List.length_drop]; omega)) rfl rfl rfl ?_
                    rintro v95 H18 ⟨w18, g18⟩
                    try dsimp only at g18
                    have ob18 := g18.oldB wu (by omega)
                    have o0 := o0.then ob18 (by omega)
                    have z18 := ob18.1
                    have oJ := oJ.then ob18 (by omega)
                    have wu := w18
                    refine KL.op (R.assign rfl rfl) rfl rfl rfl ?_
                    refine KL.nil ?_
                    refine KQ.seq ?_
                    refine KC.seq ?_
                    refine KC.region ?_
                    refine KL.op (R.move rfl rfl) rfl rfl rfl ?_
                    refine KL.op (R.move rfl rfl) rfl rfl rfl ?_
                    refine KL.op (R.move rfl rfl) rfl rfl rfl ?_
                    refine KL.op (R.lenS rfl Tryd.underlying22 rfl sj2J) rfl rfl rfl ?_
                    refine KL.op (R.slice rfl Tryd.underlying22 sz5 rfl sj1J (bnd.mk (r := (Sc.beg ++ Sc.body (l.take c.toNat)).length) rfl rfl) bnd.no (by omega) (Nat.le_refl _)) rfl rfl rfl ?_
                    have s100 := sj1J.tail (lo := (Sc.beg ++ Sc.body (l.take c.toNat)).length) (by omega)
                    have lt19 := wu.lt
                    refine KL.opM (M.append rfl Tryd.underlying22 inf5 rfl (by decide) rfl rfl wu (by exact (s100.old oJ)) (fun _ _ h _ => h) (by omega) (by simp only [List.length_nil, List.length_append, List.length_singleton, List.length_drop]; omega) (by unfold maxLen; simp only [List.length_nil, List.length_append, List.length_singleton, List.length_drop]; omega)) rfl rfl rfl ?_
                    rintro v101 H19 ⟨w19, g19⟩
                    try dsimp only at g19
                    have ob19 := g19.oldB wu (by omega)
                    have o0 := o0.then ob19 (by omega)
                    have z19 := ob19.1
                    have oJ := oJ.then ob19 (by omega)
                    have wu := w19
                    have sfin := wu.sl (emptyOld _) (by omega)
                    have hfin := Sc.cust (l := l) (a := c.toNat) (s := ints s) (own := o) hrise hsm (by omega) (by rw [hsz]; omega)
                    rw [hsz, ← hapb] at hfin
                    have hlf := sfin.len
                    rw [hdr] at sfin
                    refine KL.op (R.assign rfl rfl) rfl rfl rfl ?_
                    refine KL.nil ?_
                    refine KQ.seq ?_
                    refine KC.seq ?_
                    refine KC.region ?_
                    refine KL.op (R.move rfl rfl) rfl rfl rfl ?_
                    refine KL.call rfl rfl rfl rfl Tryd.call9 rfl rfl rfl (Split_or _ _ sfin (hT.old o0) (by simp only [List.length_nil, List.length_append, List.length_singleton] at *; omega)) ?_
                    rintro u7_ H20 ⟨ox, hR⟩
                    have zc_H20 := (ox).1
                    have o0 := o0.trans ox
                    have oJ := oJ.trans ox
                    have wu := wu.old ox
                    have sfin := sfin.old ox
                    rcases hR with ⟨hsq, rfl⟩ | ⟨m, vm, hsq, rfl, sm⟩
                    · skip
                      have hsq2 := hfin.symm.trans hsq
                      have hv : Utf.valid (ints s) = false := by
                        cases e : Utf.valid (ints s) with
                        | false => rfl
                        | true => rw [e, if_pos rfl] at hsq2; cases hsq2
                      refine KL.op (R.move rfl rfl) rfl rfl rfl ?_
                      refine KL.op (R.extract rfl rfl rfl) rfl rfl rfl ?_
                      refine KL.op (R.extract rfl rfl rfl) rfl rfl rfl ?_
                      refine KL.op (R.assign rfl rfl) rfl rfl rfl ?_
                      refine KL.op (R.assign rfl rfl) rfl rfl rfl ?_
                      refine KL.nil ?_
                      refine KQ.seq ?_
                      refine KC.seq ?_
                      refine KC.seq ?_
                      refine KC.region ?_
                      refine KL.op (R.move rfl rfl) rfl rfl rfl ?_
                      refine KL.opM (M.toBytes rfl Tryd.underlying9 Tryd.underlying22 Tryd.underlying5 rfl (by omega)) rfl rfl rfl ?_
                      rintro v21 H21 ⟨t21, e21, n21, z21⟩
                      have o0 := o0.trans n21
                      have oJ := oJ.trans n21
                      have wu := wu.old n21
                      have sfin := sfin.old n21
                      have st := t21
                      refine KL.call rfl rfl rfl rfl Tryd.call19 rfl rfl rfl (Valid_is _ _ st (hT.old o0) hv) ?_
                      rintro _ H22 ⟨rfl, ox⟩
                      have zc_H22 := (ox).1
                      have o0 := o0.trans ox
                      have oJ := oJ.trans ox
                      have wu := wu.old ox
                      have sfin := sfin.old ox
                      have st := st.old ox
                      refine KL.op (R.not rfl rfl) rfl rfl rfl ?_
                      refine KL.nil ?_
                      refine KQ.seq ?_
                      refine KC.condT rfl ?_
                      refine KC.seq ?_
                      refine KC.region ?_
                      refine KL.op (R.move rfl rfl) rfl rfl rfl ?_
                      refine KL.op ((R.eql rfl rfl rfl).val (congrArg Value.bool (decide_eq_true (by rfl)))) rfl rfl rfl ?_
                      refine KL.op (R.assign rfl rfl) rfl rfl rfl ?_
                      refine KL.nil ?_
                      refine KQ.seq ?_
                      refine KC.ret ?_
                      refine KQ.retThen ?_
                      refine KQ.ofRet ?_
                      refine KQ.fin1 Tryd.results7 rfl ?_
                      exact ⟨rfl, o0⟩
                    · skip
                      have hsq2 := hfin.symm.trans hsq
                      have hv : Utf.valid (ints s) = true := by
                        cases e : Utf.valid (ints s) with
                        | true => rfl
                        | false => rw [e, if_neg (by simp)] at hsq2; cases hsq2
                      obtain rfl : l = m := by rw [hv, if_pos rfl] at hsq2; injection hsq2
                      refine KL.op (R.move rfl rfl) rfl rfl rfl ?_
                      refine KL.op (R.extract rfl rfl rfl) rfl rfl rfl ?_
                      refine KL.op (R.extract rfl rfl rfl) rfl rfl rfl ?_
                      refine KL.op (R.assign rfl rfl) rfl rfl rfl ?_
                      refine KL.op (R.assign rfl rfl) rfl rfl rfl ?_
                      refine KL.nil ?_
                      refine KQ.seq ?_
                      refine KC.seq ?_
                      refine KC.seq ?_
                      refine KC.region ?_
                      refine KL.op (R.move rfl rfl) rfl rfl rfl ?_
                      refine KL.opM (M.toBytes rfl Tryd.underlying9 Tryd.underlying22 Tryd.underlying5 rfl (by omega)) rfl rfl rfl ?_
                      rintro v23 H23 ⟨t23, e23, n23, z23⟩
                      have o0 := o0.trans n23
                      have oJ := oJ.trans n23
                      have wu := wu.old n23
                      have sfin := sfin.old n23
                      have sm := sm.old n23
                      have st := t23
                      refine KL.call rfl rfl rfl rfl Tryd.call19 rfl rfl rfl (Valid_is _ _ st (hT.old o0) hv) ?_
                      rintro _ H24 ⟨rfl, ox⟩
                      have zc_H24 := (ox).1
                      have o0 := o0.trans ox
                      have oJ := oJ.trans ox
                      have wu := wu.old ox
                      have sfin := sfin.old ox
                      have sm := sm.old ox
                      have st := st.old ox
                      refine KL.op (R.not rfl rfl) rfl rfl rfl ?_
                      refine KL.nil ?_
                      refine KQ.seq ?_
                      refine KC.condF rfl ?_
                      refine KC.skip ?_
                      refine KQ.seq ?_
                      refine KC.seq ?_
                      refine KC.region ?_
                      refine KL.op (R.move rfl rfl) rfl rfl rfl ?_
                      refine KL.op ((R.eql rfl rfl rfl).val (congrArg Value.bool (decide_eq_true (by rfl)))) rfl rfl rfl ?_
                      refine KL.op (R.move rfl rfl) rfl rfl rfl ?_
                      refine KL.op (R.move rfl rfl) rfl rfl rfl ?_
                      refine KL.op (R.move rfl rfl) rfl rfl rfl ?_
                      refine KL.call rfl rfl rfl rfl Tryd.call15 rfl rfl rfl (others_any _ _ (hs.old o0) (by omega)) ?_
                      rintro vl3 H25 ⟨sl3, ox⟩
                      have zc_H25 := (ox).1
                      have o0 := o0.trans ox
                      have oJ := oJ.trans ox
                      have wu := wu.old ox
                      have sfin := sfin.old ox
                      have sm := sm.old ox
                      have st := st.old ox
                      refine KL.call rfl rfl rfl rfl Tryd.call11 rfl rfl rfl (same_is _ _ _ _ sm sl3 (b := true) (decide_eq_true rfl)) ?_
                      rintro _ H26 ⟨rfl, ox⟩
                      have zc_H26 := (ox).1
                      have o0 := o0.trans ox
                      have oJ := oJ.trans ox
                      have wu := wu.old ox
                      have sfin := sfin.old ox
                      have sm := sm.old ox
                      have st := st.old ox
                      have sl3 := sl3.old ox
                      refine KL.op (R.pick rfl rfl rfl) rfl rfl rfl ?_
                      refine KL.op (R.assign rfl rfl) rfl rfl rfl ?_
                      refine KL.nil ?_
                      refine KQ.seq ?_
                      refine KC.ret ?_
                      refine KQ.ofRet ?_
                      refine KQ.fin1 Tryd.results7 rfl ?_
                      exact ⟨rfl, o0⟩

end Go.Proofs.YtnbdadjomnpcgaaDoor
