/- Expressions are their instructions, one behind the other. No condition but the size. -/
import Derived.Test.YtnjodpgahbpiaaaInsU
namespace Go.Proofs.Ytnjodpgahbpiaaa
open Go Go.RowKit
set_option linter.unusedVariables false
set_option linter.unusedSimpArgs false
set_option linter.unnecessarySimpa false
theorem bstr11 (l : List Int) : bstr l ++ (⟨#[11]⟩ : ByteArray) = bstr (l ++ [11]) := bstr_app l [11]

set_option maxRecDepth 100000 in
set_option maxHeartbeats 4000000 in
theorem InstrJoins_any {H : Heap} {vx : Value} {xs : List Ins} (hx0 : Sl 5 EIns H vx xs) (hb : Isp.bulk xs ≤ 2000000) (z : Int) (rz : InR .i64 z) : Ct Try.prog 5 [vx, .int .i64 z] H (fun u H' => u = .bool true ∧ Old H H') := by
  refine Ct.mk Try.func5 rfl Try.ntmps5 rfl ?_
  intro W0 hW0
  have o0 : Old H H := Old.refl H
  have hx := hx0
  have hlx := Isp.bulk_len xs
  dsimp only [InR] at rz
  refine KC.seq ?_
  refine KC.region ?_
  refine KL.op (R.assign rfl rfl) rfl rfl rfl ?_
  refine KL.nil ?_
  refine KQ.seq ?_
  refine KC.seq ?_
  refine KC.seq ?_
  refine KC.region ?_
  refine KL.call rfl rfl rfl rfl Try.call6 rfl rfl rfl (known_any) ?_
  rintro _ H1 ⟨rfl, ox⟩
  have zc_H1 := (ox).1
  have o0 := o0.trans ox
  have hx := hx.old ox
  refine KL.op (R.not rfl rfl) rfl rfl rfl ?_
  refine KL.nil ?_
  refine KQ.seq ?_
  refine KC.condF rfl ?_
  refine KC.skip ?_
  refine KQ.seq ?_
  refine KC.seq ?_
  refine KC.region ?_
  refine KL.op (R.move rfl rfl) rfl rfl rfl ?_
  refine KL.call rfl rfl rfl rfl Try.call8 rfl rfl rfl (AppendExpr_any (va := .slice none 0 0) (la := []) (Sl.nil _ _ _) (by simp) hx hb) ?_
  rintro u H2 ⟨hR, ox⟩
  rcases hR with ⟨hno, rfl⟩ | ⟨hH, c1, rfl, wc⟩
  · skip
    have o0 := o0.trans ox
    have hx := hx.old ox
    have zox := ox.1
    refine KL.op (R.move rfl rfl) rfl rfl rfl ?_
    refine KL.op (R.extract rfl rfl rfl) rfl rfl rfl ?_
    refine KL.op (R.extract rfl rfl rfl) rfl rfl rfl ?_
    refine KL.op (R.assign rfl rfl) rfl rfl rfl ?_
    refine KL.op (R.assign rfl rfl) rfl rfl rfl ?_
    refine KL.nil ?_
    refine KQ.seq ?_
    refine KC.seq ?_
    refine KC.seq ?_
    refine KC.region ?_
    refine KL.op (R.move rfl rfl) rfl rfl rfl ?_
    refine KL.call rfl rfl rfl rfl Try.call7 rfl rfl rfl (Great_any hx (fun x hm => by have := Isp.bulk_mem hm; omega)) ?_
    rintro _ _ ⟨rfl, rfl⟩
    refine KL.op (R.move rfl rfl) rfl rfl rfl ?_
    refine KL.case (d := 21) rfl ?_ ?_
    · intro hg21
      try simp only [decide_eq_true_eq, decide_eq_false_iff_not, Bool.not_eq_true', Bool.not_eq_false', Bool.and_eq_true, Bool.or_eq_false_iff] at hg21
      refine KL.skip rfl rfl rfl ?_
      refine KL.skip rfl rfl rfl ?_
      refine KL.skip rfl rfl rfl ?_
      refine KL.op (R.pick rfl rfl rfl) rfl rfl rfl ?_
      refine KL.op (R.move rfl rfl) rfl rfl rfl ?_
      refine KL.skip rfl rfl rfl ?_
      refine KL.skip rfl rfl rfl ?_
      refine KL.op (R.pick rfl rfl rfl) rfl rfl rfl ?_
      refine KL.nil ?_
      refine KQ.seq ?_
      refine KC.condT rfl ?_
      refine KC.seq ?_
      refine KC.region ?_
      refine KL.op (R.assign rfl rfl) rfl rfl rfl ?_
      refine KL.nil ?_
      refine KQ.seq ?_
      refine KC.ret ?_
      refine KQ.retThen ?_
      refine KQ.ofRet ?_
      refine KQ.fin1 Try.results5 rfl ?_
      exact ⟨rfl, o0⟩
    · intro hg21
      try simp only [decide_eq_true_eq, decide_eq_false_iff_not, Bool.not_eq_true', Bool.not_eq_false', Bool.and_eq_true, Bool.or_eq_false_iff] at hg21
      refine KL.op (R.move rfl rfl) rfl rfl rfl ?_
      refine KL.op (R.lenS rfl Try.underlying22 rfl hx) rfl rfl rfl ?_
      refine KL.op (R.gtr rfl rfl rfl) rfl rfl rfl ?_
      refine KL.op (R.pick rfl rfl rfl) rfl rfl rfl ?_
      refine KL.op (R.move rfl rfl) rfl rfl rfl ?_
      refine KL.case (d := 26) rfl ?_ ?_
      · intro hg26
        try simp only [decide_eq_true_eq, decide_eq_false_iff_not, Bool.not_eq_true', Bool.not_eq_false', Bool.and_eq_true, Bool.or_eq_false_iff] at hg26
        refine KL.skip rfl rfl rfl ?_
        refine KL.skip rfl rfl rfl ?_
        refine KL.op (R.pick rfl rfl rfl) rfl rfl rfl ?_
        refine KL.nil ?_
        refine KQ.seq ?_
        refine KC.condT rfl ?_
        refine KC.seq ?_
        refine KC.region ?_
        refine KL.op (R.assign rfl rfl) rfl rfl rfl ?_
        refine KL.nil ?_
        refine KQ.seq ?_
        refine KC.ret ?_
        refine KQ.retThen ?_
        refine KQ.ofRet ?_
        refine KQ.fin1 Try.results5 rfl ?_
        exact ⟨rfl, o0⟩
      · intro hg26
        try simp only [decide_eq_true_eq, decide_eq_false_iff_not, Bool.not_eq_true', Bool.not_eq_false', Bool.and_eq_true, Bool.or_eq_false_iff] at hg26
        refine KL.op (R.move rfl rfl) rfl rfl rfl ?_
        refine KL.op ((R.neq rfl rfl rfl).val ((congrArg (fun b => Value.bool (!b)) (decide_eq_false (by decide))))) rfl rfl rfl ?_
        refine KL.op (R.pick rfl rfl rfl) rfl rfl rfl ?_
        refine KL.nil ?_
        refine KQ.seq ?_
        refine KC.condT rfl ?_
        refine KC.seq ?_
        refine KC.region ?_
        refine KL.op (R.assign rfl rfl) rfl rfl rfl ?_
        refine KL.nil ?_
        refine KQ.seq ?_
        refine KC.ret ?_
        refine KQ.retThen ?_
        refine KQ.ofRet ?_
        refine KQ.fin1 Try.results5 rfl ?_
        exact ⟨rfl, o0⟩
  · skip
    have o0 := o0.trans ox
    have hx := hx.old ox
    have zox := ox.1
    rw [List.nil_append] at wc
    have hfl := flatC hx0 (by omega)
    refine KL.op (R.move rfl rfl) rfl rfl rfl ?_
    refine KL.op (R.extract rfl rfl rfl) rfl rfl rfl ?_
    refine KL.op (R.extract rfl rfl rfl) rfl rfl rfl ?_
    refine KL.op (R.assign rfl rfl) rfl rfl rfl ?_
    refine KL.op (R.assign rfl rfl) rfl rfl rfl ?_
    refine KL.nil ?_
    refine KQ.seq ?_
    refine KC.seq ?_
    refine KC.seq ?_
    refine KC.region ?_
    refine KL.op (R.move rfl rfl) rfl rfl rfl ?_
    refine KL.call rfl rfl rfl rfl Try.call7 rfl rfl rfl (Great_any hx (fun x hm => by have := Isp.bulk_mem hm; omega)) ?_
    rintro _ _ ⟨rfl, rfl⟩
    refine KL.op (R.move rfl rfl) rfl rfl rfl ?_
    refine KL.case (d := 21) rfl ?_ ?_
    · intro hg21
      try simp only [decide_eq_true_eq, decide_eq_false_iff_not, Bool.not_eq_true', Bool.not_eq_false', Bool.and_eq_true, Bool.or_eq_false_iff] at hg21
      refine KL.skip rfl rfl rfl ?_
      refine KL.skip rfl rfl rfl ?_
      refine KL.skip rfl rfl rfl ?_
      refine KL.op (R.pick rfl rfl rfl) rfl rfl rfl ?_
      refine KL.op (R.move rfl rfl) rfl rfl rfl ?_
      refine KL.skip rfl rfl rfl ?_
      refine KL.skip rfl rfl rfl ?_
      refine KL.op (R.pick rfl rfl rfl) rfl rfl rfl ?_
      refine KL.nil ?_
      refine KQ.seq ?_
      refine KC.condT rfl ?_
      refine KC.seq ?_
      refine KC.region ?_
      refine KL.op (R.assign rfl rfl) rfl rfl rfl ?_
      refine KL.nil ?_
      refine KQ.seq ?_
      refine KC.ret ?_
      refine KQ.retThen ?_
      refine KQ.ofRet ?_
      refine KQ.fin1 Try.results5 rfl ?_
      exact ⟨rfl, o0⟩
    · intro hg21
      try simp only [decide_eq_true_eq, decide_eq_false_iff_not, Bool.not_eq_true', Bool.not_eq_false', Bool.and_eq_true, Bool.or_eq_false_iff] at hg21
      refine KL.op (R.move rfl rfl) rfl rfl rfl ?_
      refine KL.op (R.lenS rfl Try.underlying22 rfl hx) rfl rfl rfl ?_
      refine KL.op (R.gtr rfl rfl rfl) rfl rfl rfl ?_
      refine KL.op (R.pick rfl rfl rfl) rfl rfl rfl ?_
      refine KL.op (R.move rfl rfl) rfl rfl rfl ?_
      refine KL.case (d := 26) rfl ?_ ?_
      · intro hg26
        try simp only [decide_eq_true_eq, decide_eq_false_iff_not, Bool.not_eq_true', Bool.not_eq_false', Bool.and_eq_true, Bool.or_eq_false_iff] at hg26
        refine KL.skip rfl rfl rfl ?_
        refine KL.skip rfl rfl rfl ?_
        refine KL.op (R.pick rfl rfl rfl) rfl rfl rfl ?_
        refine KL.nil ?_
        refine KQ.seq ?_
        refine KC.condT rfl ?_
        refine KC.seq ?_
        refine KC.region ?_
        refine KL.op (R.assign rfl rfl) rfl rfl rfl ?_
        refine KL.nil ?_
        refine KQ.seq ?_
        refine KC.ret ?_
        refine KQ.retThen ?_
        refine KQ.ofRet ?_
        refine KQ.fin1 Try.results5 rfl ?_
        exact ⟨rfl, o0⟩
      · intro hg26
        try simp only [decide_eq_true_eq, decide_eq_false_iff_not, Bool.not_eq_true', Bool.not_eq_false', Bool.and_eq_true, Bool.or_eq_false_iff] at hg26
        refine KL.op (R.move rfl rfl) rfl rfl rfl ?_
        refine KL.op ((R.neq rfl rfl rfl).val ((congrArg (fun b => Value.bool (!b)) (decide_eq_true (by rfl))))) rfl rfl rfl ?_
        refine KL.op (R.pick rfl rfl rfl) rfl rfl rfl ?_
        refine KL.nil ?_
        refine KQ.seq ?_
        refine KC.condF rfl ?_
        refine KC.skip ?_
        refine KQ.seq ?_
        refine KC.seq ?_
        refine KC.region ?_
        refine KL.op (R.assign rfl rfl) rfl rfl rfl ?_
        refine KL.nil ?_
        refine KQ.seq ?_
        refine KC.seq ?_
        refine KC.seq ?_
        refine KC.region ?_
        refine KL.op (R.move rfl rfl) rfl rfl rfl ?_
        refine KL.op (R.lenS rfl Try.underlying22 rfl hx) rfl rfl rfl ?_
        refine KL.op (R.move rfl rfl) rfl rfl rfl ?_
        refine KL.nil ?_
        refine KQ.seq ?_
        refine KC.block ?_
        have wc0 := wc
        have oZ := o0
        refine KC.loopD (κ := Nat × Value) [33, 34, 35, 9, 37, 38, 39, 36, 40, 41, 10, 11, 42, 43, 4, 44, 7, 45, 32] (fun k => [(32, .int .i64 (k.1 : Nat)), (7, k.2)]) (fun k Hl => k.1 ≤ xs.length ∧ Sl 1 (EInt .u8) Hl k.2 (Isp.flat (xs.take k.1)) ∧ Old H2 Hl) (fun k => xs.length - k.1) (0, .slice none 0 0) ?_ ?_ ?_
        · exact (Sub.cons rfl (Sub.cons rfl (Ext.sub (Ext.refl _ _))))
        · exact ⟨Nat.zero_le _, by simpa [Isp.flat] using Sl.nil _ _ _, Old.refl _⟩
        · rintro ⟨k, v7⟩ H3 ⟨hk, s7, oL⟩
          dsimp only at hk s7
          have zl := oL.1
          have o0 := oZ.trans oL
          have hx := hx0.old o0
          have hfk := flatB (k := k) hx0 hb
          refine KC.seq ?_
          refine KC.region ?_
          refine KL.op (R.lss rfl rfl rfl) rfl rfl rfl ?_
          refine KL.nil ?_
          refine KQ.seq ?_
          refine KC.seq ?_
          refine KC.iteL rfl ?_ ?_
          · intro hc33
            try simp only [decide_eq_true_eq, decide_eq_false_iff_not, Bool.not_eq_true', Bool.not_eq_false', Bool.and_eq_true, Bool.or_eq_false_iff] at hc33
            obtain ⟨vl, hcx, hcl, hxr⟩ := hx.insV k (by omega)
            have hbm := Isp.bulk_mem (ins_mem (l := xs) (j := k) (by omega))
            have hMk := hH.2 _ (ins_mem (l := xs) (j := k) (by omega))
            refine KC.skip ?_
            refine KQ.seq ?_
            refine KC.seq ?_
            refine KC.block ?_
            refine KC.seq ?_
            have s7P := s7
            have hclP := hcl
            have oP : Old H3 H3 := Old.refl _
            refine KC.region ?_
            refine KL.op (R.index (j := k) rfl Try.underlying22 sz36 rfl rfl hx rfl (by omega)) rfl rfl rfl ?_
            refine KL.op (R.loadAgg rfl Try.underlying36 rfl sz36 rfl hcx rfl) rfl rfl rfl ?_
            refine KL.opM (M.alloc rfl zr36 rfl) rfl rfl rfl ?_
            rintro _ H4 ⟨rfl, n4⟩
            have z4 := n4.2.1
            have o0 := o0.trans n4.1
            have hx := hx.old n4.1
            have s7 := s7.old n4.1
            have oL := oL.trans n4.1
            have hcl := hcl.old n4.1
            have oP := oP.trans n4.1
            have b4 := n4.2.2
            have b9x := b4
            refine KL.opS (S.storeAgg rfl sz36 rfl rfl (rfl) (by intro u hu; simp only [List.mem_cons, List.not_mem_nil, or_false] at hu; rcases hu with rfl | rfl | rfl | rfl | rfl <;> first | rfl | exact hcl.one) b9x (by simp)) rfl rfl ?_
            rintro H5 ⟨u5, b5⟩
            have o0 := o0.upd u5 (by omega)
            have zu5 := u5.1
            have oL := oL.upd u5 (by omega)
            have oP := oP.upd u5 (by omega)
            have b9x := b5
            rw [over_all (by rfl)] at b9x
            have s7 := s7P.old oP
            have hcl := hclP.old oP
            refine KL.nil ?_
            refine KQ.seq ?_
            refine KC.seq ?_
            refine KC.region ?_
            refine KL.op (R.move rfl rfl) rfl rfl rfl ?_
            refine KL.op (R.loadAgg rfl Try.underlying36 rfl sz36 rfl (cells_of b9x) rfl) rfl rfl rfl ?_
            refine KL.call rfl rfl rfl rfl Try.call11 rfl rfl rfl (Append_any s7 (by omega) hxr (by omega) hcl) ?_
            rintro u H6 ⟨hR, ox⟩
            rcases hR with ⟨hnM, rfl⟩ | ⟨_, c2, rfl, w2⟩
            · skip
              exact absurd hMk hnM
            · skip
              have o0 := o0.trans ox
              have oL := oL.trans ox
              have oP := oP.trans ox
              have b9x := (ox).blk b9x
              have s7 := s7.old ox
              have hcl := hcl.old ox
              have zox := ox.1
              have s2 := w2.sl (emptyOld _) (by omega)
              refine KL.op (R.move rfl rfl) rfl rfl rfl ?_
              refine KL.op (R.extract rfl rfl rfl) rfl rfl rfl ?_
              refine KL.op (R.extract rfl rfl rfl) rfl rfl rfl ?_
              refine KL.op (R.assign rfl rfl) rfl rfl rfl ?_
              refine KL.op (R.assign rfl rfl) rfl rfl rfl ?_
              refine KL.nil ?_
              refine KQ.seq ?_
              refine KC.seq ?_
              refine KC.seq ?_
              refine KC.region ?_
              refine KL.op (R.move rfl rfl) rfl rfl rfl ?_
              refine KL.op ((R.neq rfl rfl rfl).val ((congrArg (fun b => Value.bool (!b)) (decide_eq_true (by rfl))))) rfl rfl rfl ?_
              refine KL.nil ?_
              refine KQ.seq ?_
              refine KC.condF rfl ?_
              refine KC.skip ?_
              refine KQ.seq ?_
              refine KC.region ?_
              refine KL.op (R.move rfl rfl) rfl rfl rfl ?_
              refine KL.op (R.assign rfl rfl) rfl rfl rfl ?_
              refine KL.nil ?_
              refine KQ.normBlock ?_
              refine KQ.seq ?_
              refine KC.region ?_
              refine KL.op ((R.add rfl rfl rfl (by dsimp only [InR]; omega)).val (congrArg (Value.int .i64) (show (k : Int) + 1 = ((k + 1 : Nat) : Int) by omega))) rfl rfl rfl ?_
              refine KL.op (R.move rfl rfl) rfl rfl rfl ?_
              refine KL.nil ?_
              refine KQ.again ((k + 1, c2)) ?_ ?_ ?_
              · exact (Sub.cons rfl (Sub.cons rfl (Ext.sub (by repeat (first | exact Ext.refl _ _ | refine Ext.put rfl ?_ | refine Ext.drop rfl ?_)))))
              · show xs.length - (k + 1) < xs.length - k; omega
              · exact ⟨by show k + 1 ≤ _; omega, by dsimp only; rw [Isp.flat_step (by omega)]; exact s2, oL⟩
          · intro hc33
            try simp only [decide_eq_true_eq, decide_eq_false_iff_not, Bool.not_eq_true', Bool.not_eq_false', Bool.and_eq_true, Bool.or_eq_false_iff] at hc33
            have hkl : k = xs.length := by omega
            rw [hkl, List.take_length] at s7
            have wc := wc0.old oL
            refine KC.exit ?_
            refine KQ.exitThen ?_
            refine KQ.exitThen ?_
            refine KQ.hit ?_
            refine KQ.seq ?_
            refine KC.seq ?_
            refine KC.seq ?_
            refine KC.region ?_
            refine KL.op (R.move rfl rfl) rfl rfl rfl ?_
            refine KL.op (R.convBS rfl Try.underlying23 Try.underlying5 Try.underlying9 rfl (by exact s7)) rfl rfl rfl ?_
            refine KL.op ((R.addStr rfl rfl rfl (by rw [bstr_size s7.int_range]; have : (⟨#[11]⟩ : ByteArray).size = 1 := rfl; omega)).val (congrArg Value.string (bstr11 _))) rfl rfl rfl ?_
            refine KL.op (R.move rfl rfl) rfl rfl rfl ?_
            have sc := wc.sl (emptyOld _) (by omega)
            refine KL.op (R.convBS rfl Try.underlying23 Try.underlying5 Try.underlying9 rfl (by exact sc)) rfl rfl rfl ?_
            refine KL.op ((R.neqStr rfl rfl rfl).val (congrArg (fun b => Value.bool (!b)) (beq_self_eq_true _))) rfl rfl rfl ?_
            refine KL.nil ?_
            refine KQ.seq ?_
            refine KC.condF rfl ?_
            refine KC.skip ?_
            refine KQ.seq ?_
            refine KC.seq ?_
            refine KC.seq ?_
            refine KC.region ?_
            refine KL.op (R.move rfl rfl) rfl rfl rfl ?_
            refine KL.op (R.lss rfl rfl rfl) rfl rfl rfl ?_
            refine KL.op (R.move rfl rfl) rfl rfl rfl ?_
            refine KL.case (d := 54) rfl ?_ ?_
            · intro hg54
              try simp only [decide_eq_true_eq, decide_eq_false_iff_not, Bool.not_eq_true', Bool.not_eq_false', Bool.and_eq_true, Bool.or_eq_false_iff] at hg54
              refine KL.skip rfl rfl rfl ?_
              refine KL.skip rfl rfl rfl ?_
              refine KL.skip rfl rfl rfl ?_
              refine KL.skip rfl rfl rfl ?_
              refine KL.op (R.pick rfl rfl rfl) rfl rfl rfl ?_
              refine KL.nil ?_
              refine KQ.seq ?_
              refine KC.condT rfl ?_
              refine KC.seq ?_
              refine KC.region ?_
              refine KL.op (R.assign rfl rfl) rfl rfl rfl ?_
              refine KL.nil ?_
              refine KQ.seq ?_
              refine KC.ret ?_
              refine KQ.retThen ?_
              refine KQ.ofRet ?_
              refine KQ.fin1 Try.results5 rfl ?_
              exact ⟨rfl, o0⟩
            · intro hg54
              try simp only [decide_eq_true_eq, decide_eq_false_iff_not, Bool.not_eq_true', Bool.not_eq_false', Bool.and_eq_true, Bool.or_eq_false_iff] at hg54
              refine KL.op (R.move rfl rfl) rfl rfl rfl ?_
              refine KL.op (R.move rfl rfl) rfl rfl rfl ?_
              refine KL.op (R.lenO rfl Try.underlying23 rfl wc) rfl rfl rfl ?_
              refine KL.op (R.geq rfl rfl rfl) rfl rfl rfl ?_
              refine KL.op (R.pick rfl rfl rfl) rfl rfl rfl ?_
              refine KL.nil ?_
              refine KQ.seq ?_
              refine KC.iteL rfl ?_ ?_
              · intro hc59
                try simp only [decide_eq_true_eq, decide_eq_false_iff_not, Bool.not_eq_true', Bool.not_eq_false', Bool.and_eq_true, Bool.or_eq_false_iff] at hc59
                refine KC.seq ?_
                refine KC.region ?_
                refine KL.op (R.assign rfl rfl) rfl rfl rfl ?_
                refine KL.nil ?_
                refine KQ.seq ?_
                refine KC.ret ?_
                refine KQ.retThen ?_
                refine KQ.ofRet ?_
                refine KQ.fin1 Try.results5 rfl ?_
                exact ⟨rfl, o0⟩
              · intro hc59
                try simp only [decide_eq_true_eq, decide_eq_false_iff_not, Bool.not_eq_true', Bool.not_eq_false', Bool.and_eq_true, Bool.or_eq_false_iff] at hc59
                obtain ⟨j, rfl⟩ : ∃ j : Nat, z = (j : Int) := ⟨z.toNat, by omega⟩
                have hjl : j < (Isp.flat xs).length + 1 := by simp only [List.length_append, List.length_cons, List.length_nil] at *; omega
                have hj2 : j ≤ (Isp.flat xs ++ [11]).length := by simp only [List.length_append, List.length_cons, List.length_nil]; omega
                refine KC.skip ?_
                refine KQ.seq ?_
                refine KC.seq ?_
                refine KC.region ?_
                refine KL.op (R.move rfl rfl) rfl rfl rfl ?_
                refine KL.op (R.move rfl rfl) rfl rfl rfl ?_
                refine KL.op (R.sliceTo (j := j) rfl Try.underlying23 sz5 rfl rfl wc (by omega) (by omega)) rfl rfl rfl ?_
                have wt := (wc.to (j := j) (by omega)).1
                have st := wt.sl (emptyOld _) (by omega)
                refine KL.call rfl rfl rfl rfl Try.call9 rfl rfl rfl (TakeExpr_any st (by rw [List.length_take]; omega)) ?_
                rintro u H7 ⟨ox, hm⟩
                rw [Isp.expr_cut xs [] _ j hH.1 hH.2 hjl] at hm
                dsimp only at hm
                subst hm
                have zc_H7 := (ox).1
                have o0 := o0.trans ox
                have hx := hx.old ox
                have s7 := s7.old ox
                have oL := oL.trans ox
                have wc := wc.old ox
                refine KL.op (R.move rfl rfl) rfl rfl rfl ?_
                refine KL.op (R.extract rfl rfl rfl) rfl rfl rfl ?_
                refine KL.op (R.extract rfl rfl rfl) rfl rfl rfl ?_
                refine KL.op (R.extract rfl rfl rfl) rfl rfl rfl ?_
                refine KL.op (R.assign rfl rfl) rfl rfl rfl ?_
                refine KL.nil ?_
                refine KQ.seq ?_
                refine KC.seq ?_
                refine KC.region ?_
                refine KL.op (R.move rfl rfl) rfl rfl rfl ?_
                refine KL.op ((R.eql rfl rfl rfl).val (congrArg Value.bool (decide_eq_true (by rfl)))) rfl rfl rfl ?_
                refine KL.op (R.assign rfl rfl) rfl rfl rfl ?_
                refine KL.nil ?_
                refine KQ.seq ?_
                refine KC.ret ?_
                refine KQ.ofRet ?_
                refine KQ.fin1 Try.results5 rfl ?_
                exact ⟨rfl, o0⟩

end Go.Proofs.Ytnjodpgahbpiaaa
