/- Functions of package sum: the sum. No condition. -/
import Derived.Test.YtgpbdimccbimnaaSumC
namespace Go.Proofs.Ytgpbdimccbimnaa
open Go Go.RowKit
set_option linter.unusedVariables false
set_option linter.unusedSimpArgs false
set_option linter.unnecessarySimpa false
set_option maxRecDepth 100000 in
set_option maxHeartbeats 4000000 in
theorem Copy_nil {H : Heap} : Ct Try.prog 10 [.pointer none] H (fun u H' => u = .pointer none ∧ H = H') := by
  refine Ct.mk Try.func10 rfl Try.ntmps10 rfl ?_
  intro W0 hW0
  have o0 : Old H H := Old.refl H
  refine KC.seq ?_
  refine KC.region ?_
  refine KL.op (R.assign rfl rfl) rfl rfl rfl ?_
  refine KL.nil ?_
  refine KQ.seq ?_
  refine KC.seq ?_
  refine KC.seq ?_
  refine KC.region ?_
  refine KL.op (R.move rfl rfl) rfl rfl rfl ?_
  refine KL.op (R.eqlP rfl Try.underlying27 rfl rfl) rfl rfl rfl ?_
  refine KL.nil ?_
  refine KQ.seq ?_
  refine KC.condT rfl ?_
  refine KC.seq ?_
  refine KC.region ?_
  refine KL.op (R.assign rfl rfl) rfl rfl rfl ?_
  refine KL.nil ?_
  refine KQ.seq ?_
  refine KC.ret ?_
  refine KQ.retThen ?_
  refine KQ.ofRet ?_
  refine KQ.fin1 Try.results10 rfl ?_
  exact ⟨rfl, rfl⟩

set_option maxRecDepth 100000 in
set_option maxHeartbeats 4000000 in
theorem Write_nil {H : Heap} (v : Value) : Ct Try.prog 9 [.pointer none, v] H (fun u H' => u = .tuple #[] ∧ H = H') := by
  refine Ct.mk Try.func9 rfl Try.ntmps9 rfl ?_
  intro W0 hW0
  have o0 : Old H H := Old.refl H
  refine KC.seq ?_
  refine KC.seq ?_
  refine KC.region ?_
  refine KL.op (R.move rfl rfl) rfl rfl rfl ?_
  refine KL.op (R.eqlP rfl Try.underlying27 rfl rfl) rfl rfl rfl ?_
  refine KL.nil ?_
  refine KQ.seq ?_
  refine KC.condT rfl ?_
  refine KC.ret ?_
  refine KQ.retThen ?_
  refine KQ.ofRet ?_
  refine KQ.fin0 Try.results9 ?_
  exact ⟨rfl, rfl⟩

set_option maxRecDepth 100000 in
set_option maxHeartbeats 4000000 in
theorem Len_nil {H : Heap} : Ct Try.prog 13 [.pointer none] H (fun u H' => u = .int .u64 0 ∧ H = H') := by
  refine Ct.mk Try.func13 rfl Try.ntmps13 rfl ?_
  intro W0 hW0
  have o0 : Old H H := Old.refl H
  refine KC.seq ?_
  refine KC.region ?_
  refine KL.op (R.assign rfl rfl) rfl rfl rfl ?_
  refine KL.nil ?_
  refine KQ.seq ?_
  refine KC.seq ?_
  refine KC.seq ?_
  refine KC.region ?_
  refine KL.op (R.move rfl rfl) rfl rfl rfl ?_
  refine KL.op (R.eqlP rfl Try.underlying27 rfl rfl) rfl rfl rfl ?_
  refine KL.nil ?_
  refine KQ.seq ?_
  refine KC.condT rfl ?_
  refine KC.seq ?_
  refine KC.region ?_
  refine KL.op (R.assign rfl rfl) rfl rfl rfl ?_
  refine KL.nil ?_
  refine KQ.seq ?_
  refine KC.ret ?_
  refine KQ.retThen ?_
  refine KQ.ofRet ?_
  refine KQ.fin1 Try.results13 rfl ?_
  exact ⟨rfl, rfl⟩

set_option maxRecDepth 100000 in
set_option maxHeartbeats 4000000 in
theorem Len_any {H : Heap} (g : Nat) (vr : Value) (m : List Int) (n : Int) (hm : HMn H g vr m n) : Ct Try.prog 13 [.pointer (some ⟨g, 0, none⟩)] H (fun u H' => u = .int .u64 n ∧ H = H') := by
  refine Ct.mk Try.func13 rfl Try.ntmps13 rfl ?_
  intro W0 hW0
  have o0 : Old H H := Old.refl H
  refine KC.seq ?_
  refine KC.region ?_
  refine KL.op (R.assign rfl rfl) rfl rfl rfl ?_
  refine KL.nil ?_
  refine KQ.seq ?_
  refine KC.seq ?_
  refine KC.seq ?_
  refine KC.region ?_
  refine KL.op (R.move rfl rfl) rfl rfl rfl ?_
  refine KL.op (R.eqlP rfl Try.underlying27 rfl rfl) rfl rfl rfl ?_
  refine KL.nil ?_
  refine KQ.seq ?_
  refine KC.condF rfl ?_
  refine KC.skip ?_
  refine KQ.seq ?_
  refine KC.seq ?_
  refine KC.region ?_
  refine KL.op (R.move rfl rfl) rfl rfl rfl ?_
  refine KL.op (R.nilCheck rfl rfl) rfl rfl rfl ?_
  refine KL.op ((by first | exact R.fieldAddr rfl Try.underlying49 rfl rfl sz36 rfl | exact R.fieldAddrP rfl Try.underlying49 rfl rfl sz36 rfl)) rfl rfl rfl ?_
  refine KL.op (R.load rfl Try.underlying36 rfl rfl (cell_of hm.bg (nth9 (Sha.st_length m)))) rfl rfl rfl ?_
  refine KL.op (R.assign rfl rfl) rfl rfl rfl ?_
  refine KL.nil ?_
  refine KQ.seq ?_
  refine KC.ret ?_
  refine KQ.ofRet ?_
  refine KQ.fin1 Try.results13 rfl ?_
  exact ⟨rfl, rfl⟩

set_option maxRecDepth 100000 in
set_option maxHeartbeats 4000000 in
theorem Sum_any {H : Heap} (g : Nat) (vr : Value) (m : List Int) (hm : HMn H g vr m m.length) (hlen : m.length < 4294967296) : Ct Try.prog 11 [.pointer (some ⟨g, 0, none⟩)] H (fun u H' => u = .agg ((Sha.digest m).map (Value.int .u8)).toArray ∧ Old H H') := by
  refine Ct.mk Try.func11 rfl Try.ntmps11 rfl ?_
  intro W0 hW0
  have o0 : Old H H := Old.refl H
  refine KC.seq ?_
  refine KC.region ?_
  refine KL.opM (M.alloc (cs := ((List.replicate 32 (0 : Int)).map (Value.int .u8))) rfl zr33 rfl) rfl rfl rfl ?_
  rintro _ H1 ⟨rfl, n1⟩
  have z1 := n1.2.1
  have o0 := o0.trans n1.1
  have b1 := n1.2.2
  have bo := b1
  refine KL.nil ?_
  refine KQ.seq ?_
  refine KC.seq ?_
  refine KC.region ?_
  refine KL.op (R.move rfl rfl) rfl rfl rfl ?_
  refine KL.call rfl rfl rfl rfl Try.call10 rfl rfl rfl (Copy_any _ _ _ _ (hm.old o0)) ?_
  rintro _ H2 ⟨rfl, ⟨vrc, hmc, hlt⟩, ox, zx⟩
  have zc_H2 := (ox).1
  have o0 := o0.trans ox
  have bo := (ox).blk bo
  have bc := hmc.bg
  have wc := hmc.wr
  have bc0 := bc
  have wc0 := wc
  have bo0 := bo
  have oB := o0
  have obB : OldB (Array.size H2) H2 H2 := OldB.refl _ _
  have hr8 := Sha.rest_length m
  have hz : Sha.zs m.length = (119 - m.length % 64) % 64 := rfl
  have zc := blk_lt bc
  have zo := blk_lt bo
  have zbh := o0.1
  refine KL.op (R.assign rfl rfl) rfl rfl rfl ?_
  refine KL.nil ?_
  refine KQ.seq ?_
  refine KC.seq ?_
  refine KC.seq ?_
  refine KC.region ?_
  refine KL.op (R.move rfl rfl) rfl rfl rfl ?_
  refine KL.op (R.eqlP rfl Try.underlying27 rfl rfl) rfl rfl rfl ?_
  refine KL.nil ?_
  refine KQ.seq ?_
  refine KC.condF rfl ?_
  refine KC.skip ?_
  refine KQ.seq ?_
  refine KC.seq ?_
  refine KC.region ?_
  refine KL.op (R.move rfl rfl) rfl rfl rfl ?_
  refine KL.op (R.nilCheck rfl rfl) rfl rfl rfl ?_
  refine KL.op ((by first | exact R.fieldAddr rfl Try.underlying49 rfl rfl sz36 rfl | exact R.fieldAddrP rfl Try.underlying49 rfl rfl sz36 rfl)) rfl rfl rfl ?_
  refine KL.op (R.load rfl Try.underlying36 rfl rfl (cell_of bc (nth9 (Sha.st_length m)))) rfl rfl rfl ?_
  refine KL.op ((R.mul rfl rfl rfl (by dsimp only [InR]; omega)).val (congrArg (Value.int .u64) (show (m.length : Int) * 8 = 8 * (m.length : Int) by omega))) rfl rfl rfl ?_
  refine KL.op (R.assign rfl rfl) rfl rfl rfl ?_
  refine KL.nil ?_
  refine KQ.seq ?_
  refine KC.seq ?_
  refine KC.region ?_
  refine KL.opM (M.lit rfl Try.underlying24 zs5 (by decide) rfl rfl rfl) rfl rfl rfl ?_
  rintro _ H3 ⟨rfl, n3⟩
  have z3 := n3.2.1
  have o0 := o0.trans n3.1
  have bo := (n3.1).blk bo
  have bc := (n3.1).blk bc
  have obB := obB.trans ((n3.1).b (by omega))
  have b3 := n3.2.2
  have we : Own 1 (EInt .u8) 5 #[] (Array.size H2) H3 _ [128] := Own.lits n3 (Nat.le_refl _) rfl (by decide) (by intro x hx; simp only [List.mem_singleton] at hx; subst hx; dsimp only [InR]; omega)
  refine KL.op (R.assign rfl rfl) rfl rfl rfl ?_
  refine KL.nil ?_
  refine KQ.seq ?_
  refine KC.seq ?_
  refine KC.block ?_
  refine KC.loopD (κ := Nat × Value) [21, 22, 23, 24, 25, 26, 27, 28, 29, 30, 31, 32, 33, 34, 5] (fun k => [(5, k.2)]) (fun k Hl => k.1 ≤ Sha.zs m.length ∧ Own 1 (EInt .u8) 5 #[] (Array.size H2) Hl k.2 (128 :: List.replicate k.1 0) ∧ OldB (Array.size H2) H2 Hl) (fun k => Sha.zs m.length - k.1) (0, .slice (some ⟨Array.size H2, 0, none⟩) 1 1) ?_ ?_ ?_
  · exact (Sub.cons rfl (Ext.sub (Ext.refl _ _)))
  · exact ⟨Nat.zero_le _, we, obB⟩
  · rintro ⟨k, ve⟩ H4 ⟨hk, we, obB⟩
    dsimp only
    dsimp only at hk we
    have o0 := oB.then obB (by omega)
    have bc := (obB.2 _ (by omega)).trans bc0
    have bo := (obB.2 _ (by omega)).trans bo0
    have hel : (128 :: List.replicate k (0 : Int)).length = k + 1 := by simp
    have zB := obB.1
    refine KC.seq ?_
    refine KC.seq ?_
    refine KC.region ?_
    refine KL.op (R.move rfl rfl) rfl rfl rfl ?_
    refine KL.op (R.nilCheck rfl rfl) rfl rfl rfl ?_
    refine KL.op ((by first | exact R.fieldAddr rfl Try.underlying49 rfl rfl sz24 rfl | exact R.fieldAddrP rfl Try.underlying49 rfl rfl sz24 rfl)) rfl rfl rfl ?_
    refine KL.op (R.load rfl Try.underlying24 rfl rfl (cell_of bc (nth8 (Sha.st_length m)))) rfl rfl rfl ?_
    refine KL.op (R.lenO rfl Try.underlying24 rfl wc0) rfl rfl rfl ?_
    refine KL.op (R.move rfl rfl) rfl rfl rfl ?_
    refine KL.op (R.lenO rfl Try.underlying24 rfl we) rfl rfl rfl ?_
    refine KL.op (R.add rfl rfl rfl (by dsimp only [InR]; omega)) rfl rfl rfl ?_
    refine KL.op (R.add rfl rfl rfl (by dsimp only [InR]; omega)) rfl rfl rfl ?_
    refine KL.op (R.rem rfl rfl rfl (by omega) (by omega)) rfl rfl rfl ?_
    refine KL.op (R.neq rfl rfl rfl) rfl rfl rfl ?_
    refine KL.nil ?_
    refine KQ.seq ?_
    refine KC.iteL rfl ?_ ?_
    · intro hc31
      try simp only [decide_eq_true_eq, decide_eq_false_iff_not, Bool.not_eq_true', Bool.not_eq_false', Bool.and_eq_true, Bool.or_eq_false_iff] at hc31
      refine KC.skip ?_
      refine KQ.seq ?_
      refine KC.block ?_
      refine KC.region ?_
      refine KL.op (R.move rfl rfl) rfl rfl rfl ?_
      refine KL.opM (M.lit rfl Try.underlying24 zs5 (by decide) rfl rfl rfl) rfl rfl rfl ?_
      rintro _ H5 ⟨rfl, n5⟩
      have z5 := n5.2.1
      have o0 := o0.trans n5.1
      have bc := (n5.1).blk bc
      have bo := (n5.1).blk bo
      have we := we.old n5.1
      have obB := obB.trans ((n5.1).b (by omega))
      have b5 := n5.2.2
      have sn : Sl 1 (EInt .u8) H5 _ [0] := Sl.lits n5 rfl (by decide) (by intro x hx; simp only [List.mem_singleton] at hx; subst hx; dsimp only [InR]; omega)
      have lt6 := we.lt
      refine KL.opM (M.append rfl Try.underlying24 inf5 rfl (by decide) rfl rfl we (by exact sn) (fun _ _ h _ => h) (by omega) (by simp; omega) (by unfold maxLen; simp; omega)) rfl rfl rfl ?_
      rintro vn H6 ⟨w6, g6⟩
      try dsimp only at g6
      have ob6 := g6.oldB we (by omega)
      have o0 := o0.then ob6 (by omega)
      have z6 := ob6.1
      have bc := (g6.2 _ (blk_lt bc) (by first | exact .inr (by omega) | exact .inl rfl | exact lt6.imp id (fun h => by omega))).trans bc
      have bo := (g6.2 _ (blk_lt bo) (by first | exact .inr (by omega) | exact .inl rfl | exact lt6.imp id (fun h => by omega))).trans bo
      have obB := obB.trans (ob6.mono (by omega))
      have we := w6
      refine KL.op (R.assign rfl rfl) rfl rfl rfl ?_
      refine KL.nil ?_
      refine KQ.normBlock ?_
      refine KQ.again ((k + 1, vn)) ?_ ?_ ?_
      · exact (Sub.cons rfl (Ext.sub (by repeat (first | exact Ext.refl _ _ | refine Ext.put rfl ?_ | refine Ext.drop rfl ?_))))
      · show Sha.zs m.length - (k + 1) < Sha.zs m.length - k; omega
      · exact ⟨by show k + 1 ≤ _; omega, by dsimp only; rw [List.replicate_succ', ← List.cons_append]; exact we, obB⟩
    · intro hc31
      try simp only [decide_eq_true_eq, decide_eq_false_iff_not, Bool.not_eq_true', Bool.not_eq_false', Bool.and_eq_true, Bool.or_eq_false_iff] at hc31
      have ek : k = Sha.zs m.length := (by omega)
      subst ek
      refine KC.exit ?_
      refine KQ.exitThen ?_
      refine KQ.exitThen ?_
      refine KQ.hit ?_
      refine KQ.seq ?_
      refine KC.seq ?_
      refine KC.seq ?_
      refine KC.region ?_
      refine KL.op (R.assign rfl rfl) rfl rfl rfl ?_
      refine KL.nil ?_
      refine KQ.seq ?_
      refine KC.block ?_
      refine KC.loopD (κ := Nat × Value) [35, 36, 39, 40, 41, 42, 43, 44, 45, 46, 5, 37, 38, 6] (fun k => [(6, .int .i64 (7 - (k.1 : Nat))), (5, k.2)]) (fun k Hl => k.1 ≤ 8 ∧ Own 1 (EInt .u8) 5 #[] (Array.size H2) Hl k.2 (128 :: List.replicate (Sha.zs m.length) 0 ++ (Sha.lenb (8 * m.length)).take k.1) ∧ OldB (Array.size H2) H2 Hl) (fun k => 8 - k.1) (0, ve) ?_ ?_ ?_
      · exact (Sub.cons rfl (Sub.cons rfl (Ext.sub (Ext.refl _ _))))
      · exact ⟨Nat.zero_le _, by simpa using we, obB⟩
      · rintro ⟨k, ve⟩ H7 ⟨hk, we, obB⟩
        dsimp only
        dsimp only at hk we
        have o0 := oB.then obB (by omega)
        have bc := (obB.2 _ (by omega)).trans bc0
        have bo := (obB.2 _ (by omega)).trans bo0
        have hel : (128 :: List.replicate (Sha.zs m.length) (0 : Int) ++ (Sha.lenb (8 * m.length)).take k).length = Sha.zs m.length + 1 + min k 8 := by simp [Sha.lenb]; omega
        have zB := obB.1
        refine KC.seq ?_
        refine KC.seq ?_
        refine KC.region ?_
        refine KL.op (R.move rfl rfl) rfl rfl rfl ?_
        refine KL.op (R.geq rfl rfl rfl) rfl rfl rfl ?_
        refine KL.nil ?_
        refine KQ.seq ?_
        refine KC.iteL rfl ?_ ?_
        · intro hc36
          try simp only [decide_eq_true_eq, decide_eq_false_iff_not, Bool.not_eq_true', Bool.not_eq_false', Bool.and_eq_true, Bool.or_eq_false_iff] at hc36
          refine KC.skip ?_
          refine KQ.seq ?_
          refine KC.seq ?_
          refine KC.block ?_
          refine KC.region ?_
          refine KL.op (R.move rfl rfl) rfl rfl rfl ?_
          refine KL.op (R.move rfl rfl) rfl rfl rfl ?_
          refine KL.op (R.move rfl rfl) rfl rfl rfl ?_
          refine KL.op (R.mul rfl rfl rfl (by dsimp only [InR]; omega)) rfl rfl rfl ?_
          refine KL.op (R.shr rfl rfl rfl (by omega)) rfl rfl rfl ?_
          refine KL.op (R.convW rfl Try.underlying36 Try.underlying5 rfl) rfl rfl rfl ?_
          refine KL.opM (M.lit rfl Try.underlying24 zs5 (by decide) rfl rfl rfl) rfl rfl rfl ?_
          rintro _ H8 ⟨rfl, n8⟩
          have z8 := n8.2.1
          have o0 := o0.trans n8.1
          have bc := (n8.1).blk bc
          have bo := (n8.1).blk bo
          have we := we.old n8.1
          have obB := obB.trans ((n8.1).b (by omega))
          have b8 := n8.2.2
          have sn : Sl 1 (EInt .u8) H8 _ [Sha.u8 (8 * (m.length : Int) / 2 ^ (min (8 * (7 - (k : Int))).toNat 64))] := Sl.lits n8 rfl (by simp) (by intro x hx; simp only [List.mem_singleton] at hx; subst hx; exact Sha.u8_range _)
          have lt9 := we.lt
          refine KL.opM (M.append rfl Try.underlying24 inf5 rfl (by decide) rfl rfl we (by exact sn) (fun _ _ h _ => h) (by omega) (by simp; omega) (by unfold maxLen; simp; omega)) rfl rfl rfl ?_
          rintro vn H9 ⟨w9, g9⟩
          try dsimp only at g9
          have ob9 := g9.oldB we (by omega)
          have o0 := o0.then ob9 (by omega)
          have z9 := ob9.1
          have bc := (g9.2 _ (blk_lt bc) (by first | exact .inr (by omega) | exact .inl rfl | exact lt9.imp id (fun h => by omega))).trans bc
          have bo := (g9.2 _ (blk_lt bo) (by first | exact .inr (by omega) | exact .inl rfl | exact lt9.imp id (fun h => by omega))).trans bo
          have obB := obB.trans (ob9.mono (by omega))
          have we := w9
          refine KL.op (R.assign rfl rfl) rfl rfl rfl ?_
          refine KL.nil ?_
          refine KQ.normBlock ?_
          refine KQ.seq ?_
          refine KC.region ?_
          refine KL.op (R.move rfl rfl) rfl rfl rfl ?_
          refine KL.op ((R.sub rfl rfl rfl (by dsimp only [InR]; omega)).val (congrArg (Value.int .i64) (show (7 - (k : Int)) - 1 = 7 - ((k + 1 : Nat) : Int) by omega))) rfl rfl rfl ?_
          refine KL.op (R.assign rfl rfl) rfl rfl rfl ?_
          refine KL.nil ?_
          refine KQ.again ((k + 1, vn)) ?_ ?_ ?_
          · exact (Sub.cons rfl (Sub.cons rfl (Ext.sub (by repeat (first | exact Ext.refl _ _ | refine Ext.put rfl ?_ | refine Ext.drop rfl ?_)))))
          · show 8 - (k + 1) < 8 - k; omega
          · exact ⟨by show k + 1 ≤ _; omega, by dsimp only; rw [Sha.lenb_at _ k (by omega), ← List.append_assoc]; exact we, obB⟩
        · intro hc36
          try simp only [decide_eq_true_eq, decide_eq_false_iff_not, Bool.not_eq_true', Bool.not_eq_false', Bool.and_eq_true, Bool.or_eq_false_iff] at hc36
          have ek : k = 8 := (by omega)
          subst ek
          have hpl : (Sha.pad m.length).length = Sha.zs m.length + 9 := by simp [Sha.pad, Sha.lenb]
          have we : Own 1 (EInt .u8) 5 #[] (Array.size H2) H7 ve (Sha.pad m.length) := by unfold Sha.pad; simpa [Sha.lenb] using we
          refine KC.exit ?_
          refine KQ.exitThen ?_
          refine KQ.exitThen ?_
          refine KQ.hit ?_
          refine KQ.seq ?_
          refine KC.seq ?_
          refine KC.region ?_
          refine KL.op (R.move rfl rfl) rfl rfl rfl ?_
          refine KL.op (R.move rfl rfl) rfl rfl rfl ?_
          have hnn : ve ≠ .slice none 0 0 := by
            intro e
            obtain ⟨a, c2, hv2, h2, _⟩ := we.val
            rw [e] at hv2
            injection hv2 with _ h3 _
            rw [hpl] at h3
            omega
          have zcc := blk_lt bc
          refine KL.opM (M.lit rfl Try.underlying50 zs24 (by decide) rfl rfl (by obtain ⟨a, c2, hv2, _⟩ := we.val; subst hv2; rfl)) rfl rfl rfl ?_
          rintro _ H10 ⟨rfl, n10⟩
          have z10 := n10.2.1
          have o0 := o0.trans n10.1
          have bc := (n10.1).blk bc
          have bo := (n10.1).blk bo
          have we := we.old n10.1
          have obB := obB.trans ((n10.1).b (by omega))
          have b10 := n10.2.2
          have hve := we.lt.resolve_left hnn
          have hst := stab_lit (g := Array.size H1) (vr := vrc) (ls := [Sha.pad m.length]) (vs := [ve]) (by have hb := b10; rwa [show flatV [ve] = [ve] from (by obtain ⟨a, c2, hv2, _⟩ := we.val; subst hv2; rfl)] at hb) rfl (by simp [maxLen]) (by intro j v l hj hl; match j, hj, hl with | 0, hj, hl => cases hj; cases hl; exact ⟨we.sl (emptyOld _) (by omega), .inr ⟨hve.2, by omega, hlt.imp id (fun h => by omega)⟩⟩) (by omega) (hlt.imp id (fun h => by omega))
          refine KL.call rfl rfl rfl rfl Try.call9 rfl rfl rfl (Write_any _ _ _ _ _ ⟨bc, wc0.oldB obB hlt⟩ hst (by simp only [List.flatten_cons, List.flatten_nil, List.append_nil]; have := hpl; omega)) ?_
          rintro _ H11 ⟨rfl, vr2, hm2, f2, -⟩
          have ob2 := f2.oldB (B := H.size + 1) (by have := o0.1; omega) (by omega) (wc0.lt.imp id (fun h => by omega))
          simp only [List.flatten_cons, List.flatten_nil, List.append_nil] at hm2
          have be := hm2.bg
          obtain ⟨sx, esx⟩ : ∃ x, x = Sha.st (m ++ Sha.pad m.length) := ⟨_, rfl⟩
          have hsx : sx.length = 8 := by rw [esx, Sha.st_length]
          rw [← esx] at be
          have z_ob2 := ob2.1
          have o0 := o0.then ob2 (by omega)
          have bo := (ob2.2 _ (by omega)).trans bo
          refine KL.nil ?_
          refine KQ.seq ?_
          refine KC.seq ?_
          refine KC.region ?_
          refine KL.opM (M.alloc (cs := ((List.replicate 32 (0 : Int)).map (Value.int .u8))) rfl zr33 rfl) rfl rfl rfl ?_
          rintro _ H12 ⟨rfl, n12⟩
          have z12 := n12.2.1
          have o0 := o0.trans n12.1
          have bo := (n12.1).blk bo
          have be := (n12.1).blk be
          have b12 := n12.2.2
          have bt := b12
          have bt : H12[Array.size H11]? = some (.cells ((Sha.laid sx 0).map (Value.int .u8)).toArray 33 (0, 0)) := by simpa [Sha.laid] using bt
          refine KL.nil ?_
          refine KQ.seq ?_
          refine KC.seq ?_
          refine KC.seq ?_
          refine KC.region ?_
          refine KL.op (R.move rfl rfl) rfl rfl rfl ?_
          refine KL.op (R.nilCheck rfl rfl) rfl rfl rfl ?_
          refine KL.op ((by first | exact R.fieldAddr rfl Try.underlying49 rfl rfl sz47 rfl | exact R.fieldAddrP rfl Try.underlying49 rfl rfl sz47 rfl)) rfl rfl rfl ?_
          refine KL.op (R.loadAgg rfl Try.underlying47 rfl sz47 rfl (cells_ofA be) (by simp [hsx])) rfl rfl rfl ?_
          refine KL.op (R.move rfl rfl) rfl rfl rfl ?_
          refine KL.nil ?_
          refine KQ.seq ?_
          refine KC.block ?_
          refine KC.loopD (κ := Nat) [56, 57, 58, 8, 9, 59, 60, 61, 62, 63, 64, 65, 66, 67, 68, 69, 70, 71, 72, 73, 74, 75, 76, 77, 78, 79, 80, 81, 82, 83, 84, 85, 55] (fun k => [(55, .int .i64 (k : Nat))]) (fun k Hl => k ≤ 8 ∧ Hl[Array.size H11]? = some (.cells ((Sha.laid sx k).map (Value.int .u8)).toArray 33 (0, 0)) ∧ Hl[H.size]? = some (.cells ((List.replicate 32 (0 : Int)).map (Value.int .u8)).toArray 33 (0, 0)) ∧ Old H Hl) (fun k => 8 - k) 0 ?_ ?_ ?_
          · exact (Sub.cons rfl (Ext.sub (Ext.refl _ _)))
          · exact ⟨Nat.zero_le _, bt, bo, o0⟩
          · rintro k H13 ⟨hk, bt, bo, o0⟩
            have zl_H13 := o0.1
            have hll := Sha.laid_length hsx hk
            have zl2 := o0.1
            refine KC.seq ?_
            refine KC.region ?_
            refine KL.op (R.lss rfl rfl rfl) rfl rfl rfl ?_
            refine KL.nil ?_
            refine KQ.seq ?_
            refine KC.seq ?_
            refine KC.iteL rfl ?_ ?_
            · intro hc56
              try simp only [decide_eq_true_eq, decide_eq_false_iff_not, Bool.not_eq_true', Bool.not_eq_false', Bool.and_eq_true, Bool.or_eq_false_iff] at hc56
              refine KC.skip ?_
              refine KQ.seq ?_
              refine KC.seq ?_
              refine KC.block ?_
              refine KC.seq ?_
              refine KC.region ?_
              refine KL.op (R.move rfl rfl) rfl rfl rfl ?_
              refine KL.op (R.indexInt (j := k) rfl Try.underlying47 sz46 Try.underlying46 rfl rfl (by omega) (by omega) (by omega)) rfl rfl rfl ?_
              refine KL.op (R.assign rfl rfl) rfl rfl rfl ?_
              refine KL.op (R.assign rfl rfl) rfl rfl rfl ?_
              refine KL.nil ?_
              refine KQ.seq ?_
              refine KC.region ?_
              refine KL.op (R.move rfl rfl) rfl rfl rfl ?_
              refine KL.op (R.mul rfl rfl rfl (by dsimp only [InR]; omega)) rfl rfl rfl ?_
              refine KL.op (R.move rfl rfl) rfl rfl rfl ?_
              refine KL.op (R.mul rfl rfl rfl (by dsimp only [InR]; omega)) rfl rfl rfl ?_
              refine KL.op (R.add rfl rfl rfl (by dsimp only [InR]; omega)) rfl rfl rfl ?_
              refine KL.op (R.move rfl rfl) rfl rfl rfl ?_
              refine KL.op (R.mul rfl rfl rfl (by dsimp only [InR]; omega)) rfl rfl rfl ?_
              refine KL.op (R.add rfl rfl rfl (by dsimp only [InR]; omega)) rfl rfl rfl ?_
              refine KL.op (R.move rfl rfl) rfl rfl rfl ?_
              refine KL.op (R.mul rfl rfl rfl (by dsimp only [InR]; omega)) rfl rfl rfl ?_
              refine KL.op (R.add rfl rfl rfl (by dsimp only [InR]; omega)) rfl rfl rfl ?_
              refine KL.op (R.move rfl rfl) rfl rfl rfl ?_
              refine KL.op (R.shr rfl rfl rfl (by omega)) rfl rfl rfl ?_
              refine KL.op (R.convW rfl Try.underlying46 Try.underlying5 rfl) rfl rfl rfl ?_
              refine KL.op (R.move rfl rfl) rfl rfl rfl ?_
              refine KL.op (R.shr rfl rfl rfl (by omega)) rfl rfl rfl ?_
              refine KL.op (R.convW rfl Try.underlying46 Try.underlying5 rfl) rfl rfl rfl ?_
              refine KL.op (R.move rfl rfl) rfl rfl rfl ?_
              refine KL.op (R.shr rfl rfl rfl (by omega)) rfl rfl rfl ?_
              refine KL.op (R.convW rfl Try.underlying46 Try.underlying5 rfl) rfl rfl rfl ?_
              refine KL.op (R.move rfl rfl) rfl rfl rfl ?_
              refine KL.op (R.convW rfl Try.underlying46 Try.underlying5 rfl) rfl rfl rfl ?_
              refine KL.op (R.at1 (j := 4 * k) rfl Try.underlying33 sz5 rfl rfl (by first | rfl | omega) (by omega)) rfl rfl rfl ?_
              refine KL.opS (S.storeInt rfl sz5 rfl rfl bt (by omega)) rfl rfl ?_
              rintro H14 ⟨u14, b14⟩
              have o0 := o0.upd u14 (by omega)
              have zu14 := u14.1
              have bo := ((u14).2 _ (by omega)).trans bo
              have bt := b14
              refine KL.op (R.at1 (j := 4 * k + 1) rfl Try.underlying33 sz5 rfl rfl (by first | rfl | omega) (by omega)) rfl rfl rfl ?_
              refine KL.opS (S.storeInt rfl sz5 rfl rfl bt (by rw [List.length_set]; omega)) rfl rfl ?_
              rintro H15 ⟨u15, b15⟩
              have o0 := o0.upd u15 (by omega)
              have zu15 := u15.1
              have bo := ((u15).2 _ (by omega)).trans bo
              have bt := b15
              refine KL.op (R.at1 (j := 4 * k + 2) rfl Try.underlying33 sz5 rfl rfl (by first | rfl | omega) (by omega)) rfl rfl rfl ?_
              refine KL.opS (S.storeInt rfl sz5 rfl rfl bt (by rw [List.length_set, List.length_set]; omega)) rfl rfl ?_
              rintro H16 ⟨u16, b16⟩
              have o0 := o0.upd u16 (by omega)
              have zu16 := u16.1
              have bo := ((u16).2 _ (by omega)).trans bo
              have bt := b16
              refine KL.op (R.at1 (j := 4 * k + 3) rfl Try.underlying33 sz5 rfl rfl (by first | rfl | omega) (by omega)) rfl rfl rfl ?_
              refine KL.opS (S.storeInt rfl sz5 rfl rfl bt (by rw [List.length_set, List.length_set, List.length_set]; omega)) rfl rfl ?_
              rintro H17 ⟨u17, b17⟩
              have o0 := o0.upd u17 (by omega)
              have zu17 := u17.1
              have bo := ((u17).2 _ (by omega)).trans bo
              have bt := b17
              refine KL.nil ?_
              refine KQ.normBlock ?_
              refine KQ.seq ?_
              refine KC.region ?_
              refine KL.op (R.add rfl rfl rfl (by dsimp only [InR]; omega)) rfl rfl rfl ?_
              refine KL.op (R.move rfl rfl) rfl rfl rfl ?_
              refine KL.nil ?_
              refine KQ.again (k + 1) ?_ ?_ ?_
              · exact (Sub.cons rfl (Ext.sub (by repeat (first | exact Ext.refl _ _ | refine Ext.put rfl ?_ | refine Ext.drop rfl ?_))))
              · omega
              · exact ⟨by omega, by rw [← Sha.laid_set hsx (i := k) (by omega) rfl]; exact bt, bo, o0⟩
            · intro hc56
              try simp only [decide_eq_true_eq, decide_eq_false_iff_not, Bool.not_eq_true', Bool.not_eq_false', Bool.and_eq_true, Bool.or_eq_false_iff] at hc56
              have ek : k = 8 := (by omega)
              subst ek
              rw [Sha.laid_all hsx, esx] at bt
              have hdl := Sha.digest_length m
              change _ = some (Obj.cells ((Sha.digest m).map (Value.int .u8)).toArray _ _) at bt
              refine KC.exit ?_
              refine KQ.exitThen ?_
              refine KQ.exitThen ?_
              refine KQ.hit ?_
              refine KQ.seq ?_
              refine KC.seq ?_
              refine KC.region ?_
              refine KL.op (R.loadAgg rfl Try.underlying33 rfl sz33 rfl (cells_of bt) (by simp [hdl])) rfl rfl rfl ?_
              refine KL.opS (S.storeAgg (us := ((Sha.digest m).map (Value.int .u8))) rfl sz33 rfl rfl (by simp [hdl]) (by intro u hu; exact ints_one u hu) bo (by simp [hdl])) rfl rfl ?_
              rintro H18 ⟨u18, b18⟩
              have o0 := o0.upd u18 (by omega)
              have zu18 := u18.1
              have bt := ((u18).2 _ (by omega)).trans bt
              have bo := b18
              rw [Sha.put_all (by simp [hdl])] at bo
              refine KL.nil ?_
              refine KQ.seq ?_
              refine KC.ret ?_
              refine KQ.ofRet ?_
              refine KQ.finCell Try.results11 rfl Try.underlying33 rfl sz33 (cells_of bo) (by simp [hdl]) ?_
              exact ⟨rfl, o0⟩

set_option maxRecDepth 100000 in
set_option maxHeartbeats 4000000 in
theorem Sum_nil0 {H : Heap} (m : List Int) (em : m = []) : Ct Try.prog 11 [.pointer none] H (fun u H' => u = .agg ((Sha.digest m).map (Value.int .u8)).toArray ∧ Old H H') := by
  refine Ct.mk Try.func11 rfl Try.ntmps11 rfl ?_
  intro W0 hW0
  have o0 : Old H H := Old.refl H
  have hlen : m.length < 4294967296 := by subst em; simp
  refine KC.seq ?_
  refine KC.region ?_
  refine KL.opM (M.alloc (cs := ((List.replicate 32 (0 : Int)).map (Value.int .u8))) rfl zr33 rfl) rfl rfl rfl ?_
  rintro _ H1 ⟨rfl, n1⟩
  have z1 := n1.2.1
  have o0 := o0.trans n1.1
  have b1 := n1.2.2
  have bo := b1
  refine KL.nil ?_
  refine KQ.seq ?_
  refine KC.seq ?_
  refine KC.region ?_
  refine KL.op (R.move rfl rfl) rfl rfl rfl ?_
  refine KL.call rfl rfl rfl rfl Try.call10 rfl rfl rfl (Copy_nil) ?_
  rintro _ _ ⟨rfl, rfl⟩
  refine KL.op (R.assign rfl rfl) rfl rfl rfl ?_
  refine KL.nil ?_
  refine KQ.seq ?_
  refine KC.seq ?_
  refine KC.seq ?_
  refine KC.region ?_
  refine KL.op (R.move rfl rfl) rfl rfl rfl ?_
  refine KL.op (R.eqlP rfl Try.underlying27 rfl rfl) rfl rfl rfl ?_
  refine KL.nil ?_
  refine KQ.seq ?_
  refine KC.condT rfl ?_
  refine KC.region ?_
  refine KL.call rfl rfl rfl rfl Try.call8 rfl rfl rfl (New_any) ?_
  rintro _ H2 ⟨rfl, hmc, ox, zx⟩
  obtain ⟨vrc, evrc⟩ : ∃ x, x = Value.slice none 0 0 := ⟨_, rfl⟩
  rw [← evrc] at hmc
  have hmc : HMn H2 (Array.size H1) vrc m m.length := by subst em; exact hmc
  have hlt : vrc = .slice none 0 0 ∨ vblock vrc < Array.size H2 := .inl evrc
  have zc_H2 := (ox).1
  have o0 := o0.trans ox
  have bo := (ox).blk bo
  have bc := hmc.bg
  have wc := hmc.wr
  have bc0 := bc
  have wc0 := wc
  have bo0 := bo
  have oB := o0
  have obB : OldB (Array.size H2) H2 H2 := OldB.refl _ _
  have hr8 := Sha.rest_length m
  have hz : Sha.zs m.length = (119 - m.length % 64) % 64 := rfl
  have zc := blk_lt bc
  have zo := blk_lt bo
  have zbh := o0.1
  refine KL.op (R.assign rfl rfl) rfl rfl rfl ?_
  refine KL.nil ?_
  refine KQ.seq ?_
  refine KC.seq ?_
  refine KC.region ?_
  refine KL.op (R.move rfl rfl) rfl rfl rfl ?_
  refine KL.op (R.nilCheck rfl rfl) rfl rfl rfl ?_
  refine KL.op ((by first | exact R.fieldAddr rfl Try.underlying49 rfl rfl sz36 rfl | exact R.fieldAddrP rfl Try.underlying49 rfl rfl sz36 rfl)) rfl rfl rfl ?_
  refine KL.op (R.load rfl Try.underlying36 rfl rfl (cell_of bc (nth9 (Sha.st_length m)))) rfl rfl rfl ?_
  refine KL.op ((R.mul rfl rfl rfl (by dsimp only [InR]; omega)).val (congrArg (Value.int .u64) (show (m.length : Int) * 8 = 8 * (m.length : Int) by omega))) rfl rfl rfl ?_
  refine KL.op (R.assign rfl rfl) rfl rfl rfl ?_
  refine KL.nil ?_
  refine KQ.seq ?_
  refine KC.seq ?_
  refine KC.region ?_
  refine KL.opM (M.lit rfl Try.underlying24 zs5 (by decide) rfl rfl rfl) rfl rfl rfl ?_
  rintro _ H3 ⟨rfl, n3⟩
  have z3 := n3.2.1
  have o0 := o0.trans n3.1
  have bo := (n3.1).blk bo
  have bc := (n3.1).blk bc
  have obB := obB.trans ((n3.1).b (by omega))
  have b3 := n3.2.2
  have we : Own 1 (EInt .u8) 5 #[] (Array.size H2) H3 _ [128] := Own.lits n3 (Nat.le_refl _) rfl (by decide) (by intro x hx; simp only [List.mem_singleton] at hx; subst hx; dsimp only [InR]; omega)
  refine KL.op (R.assign rfl rfl) rfl rfl rfl ?_
  refine KL.nil ?_
  refine KQ.seq ?_
  refine KC.seq ?_
  refine KC.block ?_
  refine KC.loopD (κ := Nat × Value) [21, 22, 23, 24, 25, 26, 27, 28, 29, 30, 31, 32, 33, 34, 5] (fun k => [(5, k.2)]) (fun k Hl => k.1 ≤ Sha.zs m.length ∧ Own 1 (EInt .u8) 5 #[] (Array.size H2) Hl k.2 (128 :: List.replicate k.1 0) ∧ OldB (Array.size H2) H2 Hl) (fun k => Sha.zs m.length - k.1) (0, .slice (some ⟨Array.size H2, 0, none⟩) 1 1) ?_ ?_ ?_
  · exact (Sub.cons rfl (Ext.sub (Ext.refl _ _)))
  · exact ⟨Nat.zero_le _, we, obB⟩
  · rintro ⟨k, ve⟩ H4 ⟨hk, we, obB⟩
    dsimp only
    dsimp only at hk we
    have o0 := oB.then obB (by omega)
    have bc := (obB.2 _ (by omega)).trans bc0
    have bo := (obB.2 _ (by omega)).trans bo0
    have hel : (128 :: List.replicate k (0 : Int)).length = k + 1 := by simp
    have zB := obB.1
    refine KC.seq ?_
    refine KC.seq ?_
    refine KC.region ?_
    refine KL.op (R.move rfl rfl) rfl rfl rfl ?_
    refine KL.op (R.nilCheck rfl rfl) rfl rfl rfl ?_
    refine KL.op ((by first | exact R.fieldAddr rfl Try.underlying49 rfl rfl sz24 rfl | exact R.fieldAddrP rfl Try.underlying49 rfl rfl sz24 rfl)) rfl rfl rfl ?_
    refine KL.op (R.load rfl Try.underlying24 rfl rfl (cell_of bc (nth8 (Sha.st_length m)))) rfl rfl rfl ?_
    refine KL.op (R.lenO rfl Try.underlying24 rfl wc0) rfl rfl rfl ?_
    refine KL.op (R.move rfl rfl) rfl rfl rfl ?_
    refine KL.op (R.lenO rfl Try.underlying24 rfl we) rfl rfl rfl ?_
    refine KL.op (R.add rfl rfl rfl (by dsimp only [InR]; omega)) rfl rfl rfl ?_
    refine KL.op (R.add rfl rfl rfl (by dsimp only [InR]; omega)) rfl rfl rfl ?_
    refine KL.op (R.rem rfl rfl rfl (by omega) (by omega)) rfl rfl rfl ?_
    refine KL.op (R.neq rfl rfl rfl) rfl rfl rfl ?_
    refine KL.nil ?_
    refine KQ.seq ?_
    refine KC.iteL rfl ?_ ?_
    · intro hc31
      try simp only [decide_eq_true_eq, decide_eq_false_iff_not, Bool.not_eq_true', Bool.not_eq_false', Bool.and_eq_true, Bool.or_eq_false_iff] at hc31
      refine KC.skip ?_
      refine KQ.seq ?_
      refine KC.block ?_
      refine KC.region ?_
      refine KL.op (R.move rfl rfl) rfl rfl rfl ?_
      refine KL.opM (M.lit rfl Try.underlying24 zs5 (by decide) rfl rfl rfl) rfl rfl rfl ?_
      rintro _ H5 ⟨rfl, n5⟩
      have z5 := n5.2.1
      have o0 := o0.trans n5.1
      have bc := (n5.1).blk bc
      have bo := (n5.1).blk bo
      have we := we.old n5.1
      have obB := obB.trans ((n5.1).b (by omega))
      have b5 := n5.2.2
      have sn : Sl 1 (EInt .u8) H5 _ [0] := Sl.lits n5 rfl (by decide) (by intro x hx; simp only [List.mem_singleton] at hx; subst hx; dsimp only [InR]; omega)
      have lt6 := we.lt
      refine KL.opM (M.append rfl Try.underlying24 inf5 rfl (by decide) rfl rfl we (by exact sn) (fun _ _ h _ => h) (by omega) (by simp; omega) (by unfold maxLen; simp; omega)) rfl rfl rfl ?_
      rintro vn H6 ⟨w6, g6⟩
      try dsimp only at g6
      have ob6 := g6.oldB we (by omega)
      have o0 := o0.then ob6 (by omega)
      have z6 := ob6.1
      have bc := (g6.2 _ (blk_lt bc) (by first | exact .inr (by omega) | exact .inl rfl | exact lt6.imp id (fun h => by omega))).trans bc
      have bo := (g6.2 _ (blk_lt bo) (by first | exact .inr (by omega) | exact .inl rfl | exact lt6.imp id (fun h => by omega))).trans bo
      have obB := obB.trans (ob6.mono (by omega))
      have we := w6
      refine KL.op (R.assign rfl rfl) rfl rfl rfl ?_
      refine KL.nil ?_
      refine KQ.normBlock ?_
      refine KQ.again ((k + 1, vn)) ?_ ?_ ?_
      · exact (Sub.cons rfl (Ext.sub (by repeat (first | exact Ext.refl _ _ | refine Ext.put rfl ?_ | refine Ext.drop rfl ?_))))
      · show Sha.zs m.length - (k + 1) < Sha.zs m.length - k; omega
      · exact ⟨by show k + 1 ≤ _; omega, by dsimp only; rw [List.replicate_succ', ← List.cons_append]; exact we, obB⟩
    · intro hc31
      try simp only [decide_eq_true_eq, decide_eq_false_iff_not, Bool.not_eq_true', Bool.not_eq_false', Bool.and_eq_true, Bool.or_eq_false_iff] at hc31
      have ek : k = Sha.zs m.length := (by omega)
      subst ek
      refine KC.exit ?_
      refine KQ.exitThen ?_
      refine KQ.exitThen ?_
      refine KQ.hit ?_
      refine KQ.seq ?_
      refine KC.seq ?_
      refine KC.seq ?_
      refine KC.region ?_
      refine KL.op (R.assign rfl rfl) rfl rfl rfl ?_
      refine KL.nil ?_
      refine KQ.seq ?_
      refine KC.block ?_
      refine KC.loopD (κ := Nat × Value) [35, 36, 39, 40, 41, 42, 43, 44, 45, 46, 5, 37, 38, 6] (fun k => [(6, .int .i64 (7 - (k.1 : Nat))), (5, k.2)]) (fun k Hl => k.1 ≤ 8 ∧ Own 1 (EInt .u8) 5 #[] (Array.size H2) Hl k.2 (128 :: List.replicate (Sha.zs m.length) 0 ++ (Sha.lenb (8 * m.length)).take k.1) ∧ OldB (Array.size H2) H2 Hl) (fun k => 8 - k.1) (0, ve) ?_ ?_ ?_
      · exact (Sub.cons rfl (Sub.cons rfl (Ext.sub (Ext.refl _ _))))
      · exact ⟨Nat.zero_le _, by simpa using we, obB⟩
      · rintro ⟨k, ve⟩ H7 ⟨hk, we, obB⟩
        dsimp only
        dsimp only at hk we
        have o0 := oB.then obB (by omega)
        have bc := (obB.2 _ (by omega)).trans bc0
        have bo := (obB.2 _ (by omega)).trans bo0
        have hel : (128 :: List.replicate (Sha.zs m.length) (0 : Int) ++ (Sha.lenb (8 * m.length)).take k).length = Sha.zs m.length + 1 + min k 8 := by simp [Sha.lenb]; omega
        have zB := obB.1
        refine KC.seq ?_
        refine KC.seq ?_
        refine KC.region ?_
        refine KL.op (R.move rfl rfl) rfl rfl rfl ?_
        refine KL.op (R.geq rfl rfl rfl) rfl rfl rfl ?_
        refine KL.nil ?_
        refine KQ.seq ?_
        refine KC.iteL rfl ?_ ?_
        · intro hc36
          try simp only [decide_eq_true_eq, decide_eq_false_iff_not, Bool.not_eq_true', Bool.not_eq_false', Bool.and_eq_true, Bool.or_eq_false_iff] at hc36
          refine KC.skip ?_
          refine KQ.seq ?_
          refine KC.seq ?_
          refine KC.block ?_
          refine KC.region ?_
          refine KL.op (R.move rfl rfl) rfl rfl rfl ?_
          refine KL.op (R.move rfl rfl) rfl rfl rfl ?_
          refine KL.op (R.move rfl rfl) rfl rfl rfl ?_
          refine KL.op (R.mul rfl rfl rfl (by dsimp only [InR]; omega)) rfl rfl rfl ?_
          refine KL.op (R.shr rfl rfl rfl (by omega)) rfl rfl rfl ?_
          refine KL.op (R.convW rfl Try.underlying36 Try.underlying5 rfl) rfl rfl rfl ?_
          refine KL.opM (M.lit rfl Try.underlying24 zs5 (by decide) rfl rfl rfl) rfl rfl rfl ?_
          rintro _ H8 ⟨rfl, n8⟩
          have z8 := n8.2.1
          have o0 := o0.trans n8.1
          have bc := (n8.1).blk bc
          have bo := (n8.1).blk bo
          have we := we.old n8.1
          have obB := obB.trans ((n8.1).b (by omega))
          have b8 := n8.2.2
          have sn : Sl 1 (EInt .u8) H8 _ [Sha.u8 (8 * (m.length : Int) / 2 ^ (min (8 * (7 - (k : Int))).toNat 64))] := Sl.lits n8 rfl (by simp) (by intro x hx; simp only [List.mem_singleton] at hx; subst hx; exact Sha.u8_range _)
          have lt9 := we.lt
          refine KL.opM (M.append rfl Try.underlying24 inf5 rfl (by decide) rfl rfl we (by exact sn) (fun _ _ h _ => h) (by omega) (by simp; omega) (by unfold maxLen; simp; omega)) rfl rfl rfl ?_
          rintro vn H9 ⟨w9, g9⟩
          try dsimp only at g9
          have ob9 := g9.oldB we (by omega)
          have o0 := o0.then ob9 (by omega)
          have z9 := ob9.1
          have bc := (g9.2 _ (blk_lt bc) (by first | exact .inr (by omega) | exact .inl rfl | exact lt9.imp id (fun h => by omega))).trans bc
          have bo := (g9.2 _ (blk_lt bo) (by first | exact .inr (by omega) | exact .inl rfl | exact lt9.imp id (fun h => by omega))).trans bo
          have obB := obB.trans (ob9.mono (by omega))
          have we := w9
          refine KL.op (R.assign rfl rfl) rfl rfl rfl ?_
          refine KL.nil ?_
          refine KQ.normBlock ?_
          refine KQ.seq ?_
          refine KC.region ?_
          refine KL.op (R.move rfl rfl) rfl rfl rfl ?_
          refine KL.op ((R.sub rfl rfl rfl (by dsimp only [InR]; omega)).val (congrArg (Value.int .i64) (show (7 - (k : Int)) - 1 = 7 - ((k + 1 : Nat) : Int) by omega))) rfl rfl rfl ?_
          refine KL.op (R.assign rfl rfl) rfl rfl rfl ?_
          refine KL.nil ?_
          refine KQ.again ((k + 1, vn)) ?_ ?_ ?_
          · exact (Sub.cons rfl (Sub.cons rfl (Ext.sub (by repeat (first | exact Ext.refl _ _ | refine Ext.put rfl ?_ | refine Ext.drop rfl ?_)))))
          · show 8 - (k + 1) < 8 - k; omega
          · exact ⟨by show k + 1 ≤ _; omega, by dsimp only; rw [Sha.lenb_at _ k (by omega), ← List.append_assoc]; exact we, obB⟩
        · intro hc36
          try simp only [decide_eq_true_eq, decide_eq_false_iff_not, Bool.not_eq_true', Bool.not_eq_false', Bool.and_eq_true, Bool.or_eq_false_iff] at hc36
          have ek : k = 8 := (by omega)
          subst ek
          have hpl : (Sha.pad m.length).length = Sha.zs m.length + 9 := by simp [Sha.pad, Sha.lenb]
          have we : Own 1 (EInt .u8) 5 #[] (Array.size H2) H7 ve (Sha.pad m.length) := by unfold Sha.pad; simpa [Sha.lenb] using we
          refine KC.exit ?_
          refine KQ.exitThen ?_
          refine KQ.exitThen ?_
          refine KQ.hit ?_
          refine KQ.seq ?_
          refine KC.seq ?_
          refine KC.region ?_
          refine KL.op (R.move rfl rfl) rfl rfl rfl ?_
          refine KL.op (R.move rfl rfl) rfl rfl rfl ?_
          have hnn : ve ≠ .slice none 0 0 := by
            intro e
            obtain ⟨a, c2, hv2, h2, _⟩ := we.val
            rw [e] at hv2
            injection hv2 with _ h3 _
            rw [hpl] at h3
            omega
          have zcc := blk_lt bc
          refine KL.opM (M.lit rfl Try.underlying50 zs24 (by decide) rfl rfl (by obtain ⟨a, c2, hv2, _⟩ := we.val; subst hv2; rfl)) rfl rfl rfl ?_
          rintro _ H10 ⟨rfl, n10⟩
          have z10 := n10.2.1
          have o0 := o0.trans n10.1
          have bc := (n10.1).blk bc
          have bo := (n10.1).blk bo
          have we := we.old n10.1
          have obB := obB.trans ((n10.1).b (by omega))
          have b10 := n10.2.2
          have hve := we.lt.resolve_left hnn
          have hst := stab_lit (g := Array.size H1) (vr := vrc) (ls := [Sha.pad m.length]) (vs := [ve]) (by have hb := b10; rwa [show flatV [ve] = [ve] from (by obtain ⟨a, c2, hv2, _⟩ := we.val; subst hv2; rfl)] at hb) rfl (by simp [maxLen]) (by intro j v l hj hl; match j, hj, hl with | 0, hj, hl => cases hj; cases hl; exact ⟨we.sl (emptyOld _) (by omega), .inr ⟨hve.2, by omega, hlt.imp id (fun h => by omega)⟩⟩) (by omega) (hlt.imp id (fun h => by omega))
          refine KL.call rfl rfl rfl rfl Try.call9 rfl rfl rfl (Write_any _ _ _ _ _ ⟨bc, wc0.oldB obB hlt⟩ hst (by simp only [List.flatten_cons, List.flatten_nil, List.append_nil]; have := hpl; omega)) ?_
          rintro _ H11 ⟨rfl, vr2, hm2, f2, -⟩
          have ob2 := f2.oldB (B := H.size + 1) (by have := o0.1; omega) (by omega) (wc0.lt.imp id (fun h => by omega))
          simp only [List.flatten_cons, List.flatten_nil, List.append_nil] at hm2
          have be := hm2.bg
          obtain ⟨sx, esx⟩ : ∃ x, x = Sha.st (m ++ Sha.pad m.length) := ⟨_, rfl⟩
          have hsx : sx.length = 8 := by rw [esx, Sha.st_length]
          rw [← esx] at be
          have z_ob2 := ob2.1
          have o0 := o0.then ob2 (by omega)
          have bo := (ob2.2 _ (by omega)).trans bo
          refine KL.nil ?_
          refine KQ.seq ?_
          refine KC.seq ?_
          refine KC.region ?_
          refine KL.opM (M.alloc (cs := ((List.replicate 32 (0 : Int)).map (Value.int .u8))) rfl zr33 rfl) rfl rfl rfl ?_
          rintro _ H12 ⟨rfl, n12⟩
          have z12 := n12.2.1
          have o0 := o0.trans n12.1
          have bo := (n12.1).blk bo
          have be := (n12.1).blk be
          have b12 := n12.2.2
          have bt := b12
          have bt : H12[Array.size H11]? = some (.cells ((Sha.laid sx 0).map (Value.int .u8)).toArray 33 (0, 0)) := by simpa [Sha.laid] using bt
          refine KL.nil ?_
          refine KQ.seq ?_
          refine KC.seq ?_
          refine KC.seq ?_
          refine KC.region ?_
          refine KL.op (R.move rfl rfl) rfl rfl rfl ?_
          refine KL.op (R.nilCheck rfl rfl) rfl rfl rfl ?_
          refine KL.op ((by first | exact R.fieldAddr rfl Try.underlying49 rfl rfl sz47 rfl | exact R.fieldAddrP rfl Try.underlying49 rfl rfl sz47 rfl)) rfl rfl rfl ?_
          refine KL.op (R.loadAgg rfl Try.underlying47 rfl sz47 rfl (cells_ofA be) (by simp [hsx])) rfl rfl rfl ?_
          refine KL.op (R.move rfl rfl) rfl rfl rfl ?_
          refine KL.nil ?_
          refine KQ.seq ?_
          refine KC.block ?_
          refine KC.loopD (κ := Nat) [56, 57, 58, 8, 9, 59, 60, 61, 62, 63, 64, 65, 66, 67, 68, 69, 70, 71, 72, 73, 74, 75, 76, 77, 78, 79, 80, 81, 82, 83, 84, 85, 55] (fun k => [(55, .int .i64 (k : Nat))]) (fun k Hl => k ≤ 8 ∧ Hl[Array.size H11]? = some (.cells ((Sha.laid sx k).map (Value.int .u8)).toArray 33 (0, 0)) ∧ Hl[H.size]? = some (.cells ((List.replicate 32 (0 : Int)).map (Value.int .u8)).toArray 33 (0, 0)) ∧ Old H Hl) (fun k => 8 - k) 0 ?_ ?_ ?_
          · exact (Sub.cons rfl (Ext.sub (Ext.refl _ _)))
          · exact ⟨Nat.zero_le _, bt, bo, o0⟩
          · rintro k H13 ⟨hk, bt, bo, o0⟩
            have zl_H13 := o0.1
            have hll := Sha.laid_length hsx hk
            have zl2 := o0.1
            refine KC.seq ?_
            refine KC.region ?_
            refine KL.op (R.lss rfl rfl rfl) rfl rfl rfl ?_
            refine KL.nil ?_
            refine KQ.seq ?_
            refine KC.seq ?_
            refine KC.iteL rfl ?_ ?_
            · intro hc56
              try simp only [decide_eq_true_eq, decide_eq_false_iff_not, Bool.not_eq_true', Bool.not_eq_false', Bool.and_eq_true, Bool.or_eq_false_iff] at hc56
              refine KC.skip ?_
              refine KQ.seq ?_
              refine KC.seq ?_
              refine KC.block ?_
              refine KC.seq ?_
              refine KC.region ?_
              refine KL.op (R.move rfl rfl) rfl rfl rfl ?_
              refine KL.op (R.indexInt (j := k) rfl Try.underlying47 sz46 Try.underlying46 rfl rfl (by omega) (by omega) (by omega)) rfl rfl rfl ?_
              refine KL.op (R.assign rfl rfl) rfl rfl rfl ?_
              refine KL.op (R.assign rfl rfl) rfl rfl rfl ?_
              refine KL.nil ?_
              refine KQ.seq ?_
              refine KC.region ?_
              refine KL.op (R.move rfl rfl) rfl rfl rfl ?_
              refine KL.op (R.mul rfl rfl rfl (by dsimp only [InR]; omega)) rfl rfl rfl ?_
              refine KL.op (R.move rfl rfl) rfl rfl rfl ?_
              refine KL.op (R.mul rfl rfl rfl (by dsimp only [InR]; omega)) rfl rfl rfl ?_
              refine KL.op (R.add rfl rfl rfl (by dsimp only [InR]; omega)) rfl rfl rfl ?_
              refine KL.op (R.move rfl rfl) rfl rfl rfl ?_
              refine KL.op (R.mul rfl rfl rfl (by dsimp only [InR]; omega)) rfl rfl rfl ?_
              refine KL.op (R.add rfl rfl rfl (by dsimp only [InR]; omega)) rfl rfl rfl ?_
              refine KL.op (R.move rfl rfl) rfl rfl rfl ?_
              refine KL.op (R.mul rfl rfl rfl (by dsimp only [InR]; omega)) rfl rfl rfl ?_
              refine KL.op (R.add rfl rfl rfl (by dsimp only [InR]; omega)) rfl rfl rfl ?_
              refine KL.op (R.move rfl rfl) rfl rfl rfl ?_
              refine KL.op (R.shr rfl rfl rfl (by omega)) rfl rfl rfl ?_
              refine KL.op (R.convW rfl Try.underlying46 Try.underlying5 rfl) rfl rfl rfl ?_
              refine KL.op (R.move rfl rfl) rfl rfl rfl ?_
              refine KL.op (R.shr rfl rfl rfl (by omega)) rfl rfl rfl ?_
              refine KL.op (R.convW rfl Try.underlying46 Try.underlying5 rfl) rfl rfl rfl ?_
              refine KL.op (R.move rfl rfl) rfl rfl rfl ?_
              refine KL.op (R.shr rfl rfl rfl (by omega)) rfl rfl rfl ?_
              refine KL.op (R.convW rfl Try.underlying46 Try.underlying5 rfl) rfl rfl rfl ?_
              refine KL.op (R.move rfl rfl) rfl rfl rfl ?_
              refine KL.op (R.convW rfl Try.underlying46 Try.underlying5 rfl) rfl rfl rfl ?_
              refine KL.op (R.at1 (j := 4 * k) rfl Try.underlying33 sz5 rfl rfl (by first | rfl | omega) (by omega)) rfl rfl rfl ?_
              refine KL.opS (S.storeInt rfl sz5 rfl rfl bt (by omega)) rfl rfl ?_
              rintro H14 ⟨u14, b14⟩
              have o0 := o0.upd u14 (by omega)
              have zu14 := u14.1
              have bo := ((u14).2 _ (by omega)).trans bo
              have bt := b14
              refine KL.op (R.at1 (j := 4 * k + 1) rfl Try.underlying33 sz5 rfl rfl (by first | rfl | omega) (by omega)) rfl rfl rfl ?_
              refine KL.opS (S.storeInt rfl sz5 rfl rfl bt (by rw [List.length_set]; omega)) rfl rfl ?_
              rintro H15 ⟨u15, b15⟩
              have o0 := o0.upd u15 (by omega)
              have zu15 := u15.1
              have bo := ((u15).2 _ (by omega)).trans bo
              have bt := b15
              refine KL.op (R.at1 (j := 4 * k + 2) rfl Try.underlying33 sz5 rfl rfl (by first | rfl | omega) (by omega)) rfl rfl rfl ?_
              refine KL.opS (S.storeInt rfl sz5 rfl rfl bt (by rw [List.length_set, List.length_set]; omega)) rfl rfl ?_
              rintro H16 ⟨u16, b16⟩
              have o0 := o0.upd u16 (by omega)
              have zu16 := u16.1
              have bo := ((u16).2 _ (by omega)).trans bo
              have bt := b16
              refine KL.op (R.at1 (j := 4 * k + 3) rfl Try.underlying33 sz5 rfl rfl (by first | rfl | omega) (by omega)) rfl rfl rfl ?_
              refine KL.opS (S.storeInt rfl sz5 rfl rfl bt (by rw [List.length_set, List.length_set, List.length_set]; omega)) rfl rfl ?_
              rintro H17 ⟨u17, b17⟩
              have o0 := o0.upd u17 (by omega)
              have zu17 := u17.1
              have bo := ((u17).2 _ (by omega)).trans bo
              have bt := b17
              refine KL.nil ?_
              refine KQ.normBlock ?_
              refine KQ.seq ?_
              refine KC.region ?_
              refine KL.op (R.add rfl rfl rfl (by dsimp only [InR]; omega)) rfl rfl rfl ?_
              refine KL.op (R.move rfl rfl) rfl rfl rfl ?_
              refine KL.nil ?_
              refine KQ.again (k + 1) ?_ ?_ ?_
              · exact (Sub.cons rfl (Ext.sub (by repeat (first | exact Ext.refl _ _ | refine Ext.put rfl ?_ | refine Ext.drop rfl ?_))))
              · omega
              · exact ⟨by omega, by rw [← Sha.laid_set hsx (i := k) (by omega) rfl]; exact bt, bo, o0⟩
            · intro hc56
              try simp only [decide_eq_true_eq, decide_eq_false_iff_not, Bool.not_eq_true', Bool.not_eq_false', Bool.and_eq_true, Bool.or_eq_false_iff] at hc56
              have ek : k = 8 := (by omega)
              subst ek
              rw [Sha.laid_all hsx, esx] at bt
              have hdl := Sha.digest_length m
              change _ = some (Obj.cells ((Sha.digest m).map (Value.int .u8)).toArray _ _) at bt
              refine KC.exit ?_
              refine KQ.exitThen ?_
              refine KQ.exitThen ?_
              refine KQ.hit ?_
              refine KQ.seq ?_
              refine KC.seq ?_
              refine KC.region ?_
              refine KL.op (R.loadAgg rfl Try.underlying33 rfl sz33 rfl (cells_of bt) (by simp [hdl])) rfl rfl rfl ?_
              refine KL.opS (S.storeAgg (us := ((Sha.digest m).map (Value.int .u8))) rfl sz33 rfl rfl (by simp [hdl]) (by intro u hu; exact ints_one u hu) bo (by simp [hdl])) rfl rfl ?_
              rintro H18 ⟨u18, b18⟩
              have o0 := o0.upd u18 (by omega)
              have zu18 := u18.1
              have bt := ((u18).2 _ (by omega)).trans bt
              have bo := b18
              rw [Sha.put_all (by simp [hdl])] at bo
              refine KL.nil ?_
              refine KQ.seq ?_
              refine KC.ret ?_
              refine KQ.ofRet ?_
              refine KQ.finCell Try.results11 rfl Try.underlying33 rfl sz33 (cells_of bo) (by simp [hdl]) ?_
              exact ⟨rfl, o0⟩

end Go.Proofs.Ytgpbdimccbimnaa
