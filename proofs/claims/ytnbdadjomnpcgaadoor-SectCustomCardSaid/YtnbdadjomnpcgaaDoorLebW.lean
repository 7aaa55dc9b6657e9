/- leb.AppendU behind any number of bytes. No condition but those that each states. -/
import Derived.Test.YtnbdadjomnpcgaaDoorLebK
import Derived.Test.YtnbdadjomnpcgaaDoorKText
namespace Go.Proofs.YtnbdadjomnpcgaaDoor
open Go Go.RowKit
set_option linter.unusedVariables false
set_option linter.unusedSimpArgs false
set_option linter.unnecessarySimpa false

namespace Lb
def apI (f : Nat) (z : Int) : List Int := uints (Leb.ap false f z)
theorem apI_step {f : Nat} {z : Int} (h : 128 ≤ z) : apI (f + 1) z = (z % 128 + 128) :: apI f (z / 128) := by
  unfold apI
  rw [Leb.ap, if_neg (by simp [Leb.small]; omega)]
  simp only [uints, List.map_cons, List.cons.injEq, and_true]
  rw [UInt8.toNat_ofNat']
  omega
theorem apI_last {f : Nat} {z : Int} (h0 : 0 ≤ z) (h : z < 128) : apI (f + 1) z = [z] := by
  unfold apI
  rw [Leb.ap, if_pos (by simp [Leb.small]; omega)]
  simp only [uints, List.map_cons, List.map_nil, List.cons.injEq, and_true]
  rw [UInt8.toNat_ofNat']
  omega
theorem pow_step {f : Nat} {z : Int} (h : 128 ≤ z) (hz : z < 128 ^ (f + 1)) : 1 ≤ f ∧ z / 128 < 128 ^ f := by
  refine ⟨?_, ?_⟩
  · cases f with
    | zero => simp at hz; omega
    | succ f => omega
  · rw [Int.pow_succ] at hz
    exact Int.ediv_lt_of_lt_mul (by omega) hz
theorem or128 (z : Int) : bits .or .u8 (IntKind.u8.wrap z) 128 = z % 128 + 128 := by
  have key : ∀ a : Fin 256, bits .or .u8 ((a.val : Nat) : Int) 128 = ((a.val % 128 + 128 : Nat) : Int) := by decide +kernel
  have hw := inR_wrap .u8 z
  have e : IntKind.u8.wrap z = z % 256 := by simp [IntKind.wrap, IntKind.signed, IntKind.bits]
  rw [e]
  have := key ⟨(z % 256).toNat, by omega⟩
  simp only at this
  rw [show (((z % 256).toNat : Nat) : Int) = z % 256 from by omega] at this
  rw [this]; omega
end Lb

set_option maxRecDepth 100000 in
set_option maxHeartbeats 4000000 in
theorem AppendU_big {H : Heap} (v : Value) (l : List Int) (z : Int) (hs : Sl 1 (EInt .u8) H v l) (hl : l.length ≤ 140737488355300) (h0 : 0 ≤ z) (h1 : z < 18446744073709551616) : Ct Tryd.prog 18 [v, .int .u64 z] H (fun u H' => Own 1 (EInt .u8) 5 #[] H.size H' u (l ++ Lb.ap z) ∧ Old H H') := by
  refine Ct.mk Tryd.func18 rfl Tryd.ntmps18 rfl ?_
  intro W0 hW0
  have o0 : Old H H := Old.refl H
  have wn : Own 1 (EInt .u8) 5 #[] H.size H (.slice none 0 0) ([] : List Int) := Own.nil _ _ _ _ _ _
  refine KC.seq ?_
  refine KC.region ?_
  refine KL.op (R.assign rfl rfl) rfl rfl rfl ?_
  refine KL.nil ?_
  refine KQ.seq ?_
  refine KC.seq ?_
  refine KC.region ?_
  refine KL.op (R.move rfl rfl) rfl rfl rfl ?_
  have lt1 := wn.lt
  refine KL.opM (M.append rfl Tryd.underlying22 inf5 rfl (by decide) rfl rfl wn (by exact hs) (fun _ _ h _ => h) (by omega) (by simp; omega) (by unfold maxLen; simp; omega)) rfl rfl rfl ?_
  rintro v7 H1 ⟨w1, g1⟩
  try dsimp only at g1
  have ob1 := g1.oldB wn (by omega)
  have o0 := o0.then ob1 (by omega)
  have z1 := ob1.1
  have wn := w1
  have wo : Own 1 (EInt .u8) 5 #[] H.size H1 v7 l := wn
  refine KL.op (R.assign rfl rfl) rfl rfl rfl ?_
  refine KL.nil ?_
  refine KQ.seq ?_
  refine KC.seq ?_
  refine KC.block ?_
  refine KC.loopD (κ := Value × List Int × Nat × Int) [8, 9, 10, 11, 12, 13, 14, 15, 5, 16, 17, 1] (fun k => [(5, k.1), (1, .int .u64 k.2.2.2)]) (fun k Hl => Own 1 (EInt .u8) 5 #[] H.size Hl k.1 k.2.1 ∧ k.2.1 ++ Lb.apI (k.2.2.1 + 1) k.2.2.2 = l ++ Lb.ap z ∧ k.2.1.length + k.2.2.1 + 1 ≤ l.length + 10 ∧ 0 ≤ k.2.2.2 ∧ k.2.2.2 < 128 ^ (k.2.2.1 + 1) ∧ k.2.2.2 < 18446744073709551616 ∧ Old H Hl) (fun k => k.2.2.2.toNat) (v7, l, 9, z) ?_ ?_ ?_
  · exact (Sub.cons rfl (Sub.cons rfl (Ext.sub (Ext.refl _ _))))
  · exact ⟨wo, rfl, Nat.le_refl _, h0, by show z < 128 ^ 10; rw [show (128 : Int) ^ 10 = 1180591620717411303424 from by decide]; omega, h1, o0⟩
  · rintro ⟨vo, acc, f, y⟩ H2 ⟨wo, hap, hle, hy0, hyp, hy1, o0⟩
    have zl_H2 := o0.1
    dsimp only at wo hap hle hy0 hyp hy1
    have zl := o0.1
    refine KC.seq ?_
    refine KC.seq ?_
    refine KC.region ?_
    refine KL.op (R.move rfl rfl) rfl rfl rfl ?_
    refine KL.op (R.geq rfl rfl rfl) rfl rfl rfl ?_
    refine KL.nil ?_
    refine KQ.seq ?_
    refine KC.iteL rfl ?_ ?_
    · intro hc9
      try simp only [decide_eq_true_eq, decide_eq_false_iff_not, Bool.not_eq_true', Bool.not_eq_false', Bool.and_eq_true, Bool.or_eq_false_iff] at hc9
      have hps := Lb.pow_step (by omega) hyp
      refine KC.skip ?_
      refine KQ.seq ?_
      refine KC.block ?_
      refine KC.seq ?_
      refine KC.region ?_
      refine KL.op (R.move rfl rfl) rfl rfl rfl ?_
      refine KL.op (R.move rfl rfl) rfl rfl rfl ?_
      refine KL.op (R.convW rfl Tryd.underlying43 Tryd.underlying5 rfl) rfl rfl rfl ?_
      refine KL.op ((R.bits rfl rfl rfl rfl).val (congrArg (Value.int .u8) (Lb.or128 y))) rfl rfl rfl ?_
      refine KL.opM (M.lit rfl Tryd.underlying22 zs5 (by decide) rfl rfl rfl) rfl rfl rfl ?_
      rintro _ H3 ⟨rfl, n3⟩
      have z3 := n3.2.1
      have o0 := o0.trans n3.1
      have wo := wo.old n3.1
      have b3 := n3.2.2
      have s1 : Sl 1 (EInt .u8) H3 _ [y % 128 + 128] := Sl.lits (l := [y % 128 + 128]) n3 rfl (by simp) (by intro x hx; simp only [List.mem_singleton] at hx; subst hx; dsimp only [InR]; omega)
      have lt4 := wo.lt
      refine KL.opM (M.append rfl Tryd.underlying22 inf5 rfl (by decide) rfl rfl wo (by exact s1) (fun _ _ h _ => h) (by omega) (by simp only [List.length_singleton]; omega) (by unfold maxLen; simp only [List.length_singleton]; omega)) rfl rfl rfl ?_
      rintro v4 H4 ⟨w4, g4⟩
      try dsimp only at g4
      have ob4 := g4.oldB wo (by omega)
      have o0 := o0.then ob4 (by omega)
      have z4 := ob4.1
      have wo := w4
      refine KL.op (R.assign rfl rfl) rfl rfl rfl ?_
      refine KL.nil ?_
      refine KQ.seq ?_
      refine KC.region ?_
      refine KL.op (R.move rfl rfl) rfl rfl rfl ?_
      refine KL.op ((R.shr rfl rfl rfl (by omega)).val (congrArg (Value.int .u64) (congrArg (y / ·) (show (2 : Int) ^ (min (7 : Int).toNat IntKind.u64.bits) = 128 from by decide)))) rfl rfl rfl ?_
      refine KL.op (R.assign rfl rfl) rfl rfl rfl ?_
      refine KL.nil ?_
      refine KQ.normBlock ?_
      refine KQ.again ((v4, acc ++ [y % 128 + 128], f - 1, y / 128)) ?_ ?_ ?_
      · exact (Sub.cons rfl (Sub.cons rfl (Ext.sub (by repeat (first | exact Ext.refl _ _ | refine Ext.put rfl ?_ | refine Ext.drop rfl ?_)))))
      · show (y / 128).toNat < y.toNat; omega
      · exact ⟨wo, by show (acc ++ [y % 128 + 128]) ++ Lb.apI (f - 1 + 1) (y / 128) = _; rw [show f - 1 + 1 = f from by omega, ← hap, Lb.apI_step (f := f) (z := y) (by omega), List.append_assoc]; rfl, by show (acc ++ [_]).length + (f - 1) + 1 ≤ _; rw [List.length_append, List.length_singleton]; omega, by show 0 ≤ y / 128; omega, by show y / 128 < 128 ^ (f - 1 + 1); rw [show f - 1 + 1 = f from by omega]; exact hps.2, by show y / 128 < _; omega, o0⟩
    · intro hc9
      try simp only [decide_eq_true_eq, decide_eq_false_iff_not, Bool.not_eq_true', Bool.not_eq_false', Bool.and_eq_true, Bool.or_eq_false_iff] at hc9
      refine KC.exit ?_
      refine KQ.exitThen ?_
      refine KQ.exitThen ?_
      refine KQ.hit ?_
      refine KQ.seq ?_
      refine KC.seq ?_
      refine KC.region ?_
      refine KL.op (R.move rfl rfl) rfl rfl rfl ?_
      refine KL.op (R.move rfl rfl) rfl rfl rfl ?_
      refine KL.op (R.convI rfl Tryd.underlying43 Tryd.underlying5 rfl (by dsimp only [InR]; omega)) rfl rfl rfl ?_
      refine KL.opM (M.lit rfl Tryd.underlying22 zs5 (by decide) rfl rfl rfl) rfl rfl rfl ?_
      rintro _ H5 ⟨rfl, n5⟩
      have z5 := n5.2.1
      have o0 := o0.trans n5.1
      have wo := wo.old n5.1
      have b5 := n5.2.2
      have s1 : Sl 1 (EInt .u8) H5 _ [y] := Sl.lits (l := [y]) n5 rfl (by simp) (by intro x hx; simp only [List.mem_singleton] at hx; subst hx; dsimp only [InR]; omega)
      have lt6 := wo.lt
      refine KL.opM (M.append rfl Tryd.underlying22 inf5 rfl (by decide) rfl rfl wo (by exact s1) (fun _ _ h _ => h) (by omega) (by simp only [List.length_singleton]; omega) (by unfold maxLen; simp only [List.length_singleton]; omega)) rfl rfl rfl ?_
      rintro v6 H6 ⟨w6, g6⟩
      try dsimp only at g6
      have ob6 := g6.oldB wo (by omega)
      have o0 := o0.then ob6 (by omega)
      have z6 := ob6.1
      have wo := w6
      refine KL.op (R.assign rfl rfl) rfl rfl rfl ?_
      refine KL.nil ?_
      refine KQ.seq ?_
      refine KC.ret ?_
      refine KQ.ofRet ?_
      refine KQ.fin1 Tryd.results18 rfl ?_
      exact ⟨by rw [← hap, Lb.apI_last hy0 (by omega)]; exact wo, o0⟩

end Go.Proofs.YtnbdadjomnpcgaaDoor
